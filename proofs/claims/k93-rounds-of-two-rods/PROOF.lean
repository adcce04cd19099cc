import PyProof.Rows.All
import Wide.All
import OpenK.AllK
import Wide.FinOn
import KE.KStateDown
import Lean
import KE.SortData
import KE.DataMinMax
import KE.DataEq
import HandS.ForMost
import HandS.Sort
import HandS.SortInts
import HandS.Conv
import HandS.Style
import HandS.Flow
import HandS.IsInst
import HandS.NoneIn
import HandS.TupAny
import HandS.TupMul
import HandS.Zip
import HandS.Deep
import HandS.StrMore
import HandS.RaiseMore
import HandS.Defaults
import HandS.Wide
import HandS.Codes
import HandS.Head0
import HandS.Head1
import HandS.Head2
import HandS.HeadEnd
import HandS.HeadHook1
import HandS.HeadHook2
import HandS.SetFor
import HandS.Strs
import HandS.Words
import KE.GoesEnum
import KE.KRevSl
import KE.DataFind
import PyProof.Rows.StrRev
import KE.KDictZip
import KE.GoesZip
import KE.GoesMore
import KE.KDictItemsList
import PyProof.CollectWalk
import PySem.Challenge.RW_wickerwork_k93_whole_rounds_of_two_rods
section
/-! The plain side: data, draws, and what each construct gives, with no heap and no program in sight. -/
namespace WK

/-- data; cup: the one thing that the draws change -/
inductive D where
  | non
  | bl (b : Bool)
  | int (i : Int)
  | str (s : List Nat)
  | tup (xs : List D)
  | lst (xs : List D)
  | cup
  | scr
  | dct (ks vs : List D)
  deriving Inhabited

/-- a value, no value (nothing is promised then), or a draw below n -/
inductive M (α : Type) where
  | ret (a : α)
  | bad
  | draw (n : Nat) (k : Nat → M α)

namespace M
def bind {α β : Type} : M α → (α → M β) → M β
  | .ret a, f => f a
  | .bad, _ => .bad
  | .draw n k, f => .draw n fun i => bind (k i) f
/-- whatever is drawn: a value comes, and P holds of it -/
def All {α : Type} (P : α → Prop) : M α → Prop
  | .ret a => P a
  | .bad => False
  | .draw n k => 0 < n ∧ ∀ i, i < n → All P (k i)
theorem all_bind {α β : Type} {P : β → Prop} {f : α → M β} : ∀ {m : M α}, (m.bind f).All P ↔ m.All fun a => (f a).All P
  | .ret _ => Iff.rfl
  | .bad => Iff.rfl
  | .draw n k => by
    show (0 < n ∧ ∀ i, i < n → ((k i).bind f).All P) ↔ (0 < n ∧ ∀ i, i < n → (k i).All fun a => (f a).All P)
    exact and_congr Iff.rfl (forall_congr' fun i => imp_congr Iff.rfl all_bind)
theorem All.mono {α : Type} {P Q : α → Prop} (h : ∀ a, P a → Q a) : ∀ {m : M α}, m.All P → m.All Q
  | .ret _, q => h _ q
  | .bad, q => q
  | .draw _ _, q => ⟨q.1, fun i hi => All.mono h (q.2 i hi)⟩
theorem All.bind {α β : Type} {P : α → Prop} {Q : β → Prop} {m : M α} {f : α → M β} (h : m.All P) (k : ∀ a, P a → (f a).All Q) : (m.bind f).All Q :=
  all_bind.mpr (h.mono k)
theorem bind_assoc {α β γ : Type} {f : α → M β} {g : β → M γ} : ∀ {m : M α}, (m.bind f).bind g = m.bind fun a => (f a).bind g
  | .ret _ => rfl
  | .bad => rfl
  | .draw n k => by
    show M.draw n (fun i => ((k i).bind f).bind g) = M.draw n fun i => (k i).bind fun a => (f a).bind g
    exact congrArg _ (funext fun i => bind_assoc)
theorem bind_ret {α : Type} : ∀ {m : M α}, m.bind .ret = m
  | .ret _ => rfl
  | .bad => rfl
  | .draw n _ => congrArg (M.draw n) (funext fun _ => bind_ret)
@[simp] theorem ret_bind {α β : Type} (a : α) (f : α → M β) : (M.ret a).bind f = f a := rfl
@[simp] theorem bad_bind {α β : Type} (f : α → M β) : (M.bad : M α).bind f = .bad := rfl
@[simp] theorem draw_bind {α β : Type} (n : Nat) (k : Nat → M α) (f : α → M β) : (M.draw n k).bind f = .draw n fun i => (k i).bind f := rfl
@[simp] theorem all_ret {α : Type} (P : α → Prop) (a : α) : (M.ret a).All P = P a := rfl
@[simp] theorem all_bad {α : Type} (P : α → Prop) : (M.bad : M α).All P = False := rfl
theorem all_draw {α : Type} (P : α → Prop) (n : Nat) (k : Nat → M α) : (M.draw n k).All P = (0 < n ∧ ∀ i, i < n → (k i).All P) := rfl
end M

def sizeMax : Nat := 16000000

/-- each item in turn -/
def mapM {α β : Type} (f : α → M β) : List α → M (List β)
  | [] => .ret []
  | x :: xs => (f x).bind fun y => (mapM f xs).bind fun ys => .ret (y :: ys)
theorem mapM_ret {α β : Type} {f : α → M β} {g : α → β} : ∀ {xs : List α}, (∀ x, x ∈ xs → f x = .ret (g x)) → mapM f xs = .ret (xs.map g)
  | [], _ => rfl
  | x :: xs, h => by
    show (f x).bind _ = _
    rw [h x List.mem_cons_self, M.ret_bind, mapM_ret fun y hy => h y (List.mem_cons_of_mem _ hy)]
    rfl

/-! ### names -/
/-- a name: without a value; with one that nobody changes; with a list of its own; with a dict of its own; with one that is walked; with a list of its own whose items are lists of its own -/
inductive Sl where
  | no
  | fz (d : D)
  | ow (xs : List D)
  | od (ks vs : List D)
  | ol (ks vs : List D)
  | on (xss : List (List D))
abbrev Ev := List Sl
abbrev FE := Ev → M D
abbrev FL := Ev → M (List D)
inductive Fl where
  | nx (ρ : Ev)
  | rt (d : D)
  | bk (ρ : Ev)
  | ct (ρ : Ev)
abbrev FS := Ev → M Fl
/-- a target: x stored -/
abbrev FG := D → Ev → Option Ev

def fVar (i : Nat) : FE := fun ρ => match ρ[i]? with
  | some (.fz d) => .ret d
  | _ => .bad
/-- a name that is only looked at -/
def fBor (i : Nat) : FE := fun ρ => match ρ[i]? with
  | some (.fz d) => .ret d
  | some (.ow xs) => .ret (.lst xs)
  | some (.od ks vs) => .ret (.dct ks vs)
  | some (.ol ks vs) => .ret (.dct ks vs)
  | _ => .bad
def fC (d : D) : FE := fun _ => .ret d
def fUn (g : D → M D) (f : FE) : FE := fun ρ => (f ρ).bind g
def fOp (g : D → D → M D) (f1 f2 : FE) : FE := fun ρ => (f1 ρ).bind fun a => (f2 ρ).bind fun b => g a b
/-- by a truth value -/
def onB {α : Type} (d : D) (x y : M α) : M α := match d with
  | .bl true => x
  | .bl false => y
  | _ => .bad
def fIf (c f g : FE) : FE := fun ρ => (c ρ).bind fun b => onB b (f ρ) (g ρ)
def fAnd (f g : FE) : FE := fun ρ => (f ρ).bind fun b => onB b (g ρ) (.ret (.bl false))
def fOr (f g : FE) : FE := fun ρ => (f ρ).bind fun b => onB b (.ret (.bl true)) (g ρ)
def gNot (d : D) : M D := onB d (.ret (.bl false)) (.ret (.bl true))
def fChain (g g' : D → D → M D) (f1 f2 f3 : FE) : FE := fun ρ => (f1 ρ).bind fun a => (f2 ρ).bind fun b => (g a b).bind fun c => onB c ((f3 ρ).bind fun e => g' b e) (.ret (.bl false))
def fNil : FL := fun _ => .ret []
def fCons (f : FE) (g : FL) : FL := fun ρ => (f ρ).bind fun x => (g ρ).bind fun xs => .ret (x :: xs)
/-- a list is not too long -/
def fit (n : Nat) (m : M D) : M D := if n ≤ sizeMax then m else .bad
def gTup (xs : List D) : M D := fit xs.length (.ret (.tup xs))
def gLst (xs : List D) : M D := fit xs.length (.ret (.lst xs))
def fArgs (g : List D → M D) (fs : FL) : FE := fun ρ => (fs ρ).bind g
def wipe (ρ : Ev) : List Nat → Ev
  | [] => ρ
  | i :: vs => (wipe ρ vs).set i .no
/-- [elt for tg in it if test] -/
def fLc (it : FL) (tg : FG) (test : FE) (elt : FE) (vs : List Nat) : FE := fun ρ => (it ρ).bind fun xs => if xs.length < sizeMax then
    (mapM (fun x => match tg x (wipe ρ vs) with
      | some ρ2 => (test ρ2).bind fun b => onB b ((elt ρ2).bind fun d => .ret [d]) (.ret [])
      | none => .bad) xs).bind fun yss => .ret (.lst yss.flatten)
  else .bad

def gtName (i : Nat) : FG := fun x ρ => if i < ρ.length then some (ρ.set i (.fz x)) else none
def gtSeq : List FG → List D → Ev → Option Ev
  | [], [], ρ => some ρ
  | g :: gs, x :: xs, ρ => match g x ρ with
    | some ρ' => gtSeq gs xs ρ'
    | none => none
  | _, _, _ => none
def gtTup (gs : List FG) : FG := fun x ρ => match x with
  | .tup xs => gtSeq gs xs ρ
  | .lst xs => gtSeq gs xs ρ
  | _ => none

/-! ### statements -/
def sNil : FS := fun ρ => .ret (.nx ρ)
def sSeq (s t : FS) : FS := fun ρ => (s ρ).bind fun fl => match fl with
  | .nx ρ' => t ρ'
  | fl => .ret fl
def sAsg (f : FE) (g : FG) : FS := fun ρ => (f ρ).bind fun x => match g x ρ with
  | some ρ' => .ret (.nx ρ')
  | none => .bad
/-- a new list, given to a name that will change it -/
def sOwn (i : Nat) (f : FE) : FS := fun ρ => (f ρ).bind fun x => match x with
  | .lst xs => if i < ρ.length then .ret (.nx (ρ.set i (.ow xs))) else .bad
  | _ => .bad
/-- a, b = x, y -/
def sPar (i j : Nat) (f g : FE) : FS := fun ρ => (f ρ).bind fun x => (g ρ).bind fun y => if i < ρ.length ∧ j < ρ.length then .ret (.nx ((ρ.set i (.fz x)).set j (.fz y))) else .bad
/-- a, b = [..], y where a will change its list -/
def sParO (i j : Nat) (f g : FE) : FS := fun ρ => (f ρ).bind fun x => (g ρ).bind fun y => match x with
  | .lst xs => if i < ρ.length ∧ j < ρ.length then .ret (.nx ((ρ.set i (.ow xs)).set j (.fz y))) else .bad
  | _ => .bad
/-- a, b, c = x, y, z; o: the last one will change its list -/
def sPar3 (i j l : Nat) (f g h : FE) : FS := fun ρ => (f ρ).bind fun x => (g ρ).bind fun y => (h ρ).bind fun z => if i < ρ.length ∧ j < ρ.length ∧ l < ρ.length then .ret (.nx (((ρ.set i (.fz x)).set j (.fz y)).set l (.fz z))) else .bad
def sPar3O (i j l : Nat) (f g h : FE) : FS := fun ρ => (f ρ).bind fun x => (g ρ).bind fun y => (h ρ).bind fun z => match z with
  | .lst zs => if i < ρ.length ∧ j < ρ.length ∧ l < ρ.length then .ret (.nx (((ρ.set i (.fz x)).set j (.fz y)).set l (.ow zs))) else .bad
  | _ => .bad
/-- a, b = x, [..] where b will change its list -/
def sParB (i j : Nat) (f g : FE) : FS := fun ρ => (f ρ).bind fun x => (g ρ).bind fun y => match y with
  | .lst ys => if i < ρ.length ∧ j < ρ.length then .ret (.nx ((ρ.set i (.fz x)).set j (.ow ys))) else .bad
  | _ => .bad
def sIf (c : FE) (s t : FS) : FS := fun ρ => (c ρ).bind fun b => onB b (s ρ) (t ρ)
def sRet (f : FE) : FS := fun ρ => (f ρ).bind fun x => .ret (.rt x)
def sRetN : FS := fun _ => .ret (.rt .non)
def sExpr (f : FE) : FS := fun ρ => (f ρ).bind fun _ => .ret (.nx ρ)
def sNever : FS := fun _ => .bad
/-- xs.append(f) -/
def sApp (i : Nat) (f : FE) : FS := fun ρ => match ρ[i]? with
  | some (.ow xs) => (f ρ).bind fun x => if xs.length < sizeMax then .ret (.nx (ρ.set i (.ow (xs ++ [x])))) else .bad
  | _ => .bad
/-- a name's own list becomes one that nobody changes any more -/
def frz (i : Nat) (ρ : Ev) : Ev := match ρ[i]? with
  | some (.ow xs) => ρ.set i (.fz (.lst xs))
  | some (.on xss) => ρ.set i (.fz (.lst (xss.map .lst)))
  | _ => ρ
def sFrz (i : Nat) (s : FS) : FS := fun ρ => s (frz i ρ)
def loop (tg : FG) (b : FS) : List D → Ev → M Fl
  | [], ρ => .ret (.nx ρ)
  | x :: xs, ρ => match tg x ρ with
    | none => .bad
    | some ρ1 => (b ρ1).bind fun fl => match fl with
      | .nx ρ2 => loop tg b xs ρ2
      | .ct ρ2 => loop tg b xs ρ2
      | .bk ρ2 => .ret (.nx ρ2)
      | .rt d => .ret (.rt d)
def sFor (it : FL) (tg : FG) (b : FS) : FS := fun ρ => (it ρ).bind fun xs => loop tg b xs ρ
def wloop (c : FE) (b : FS) : Nat → Ev → M Fl
  | 0, _ => .bad
  | n + 1, ρ => (c ρ).bind fun t => onB t ((b ρ).bind fun fl => match fl with
      | .nx ρ2 => wloop c b n ρ2
      | .ct ρ2 => wloop c b n ρ2
      | .bk ρ2 => .ret (.nx ρ2)
      | .rt d => .ret (.rt d)) (.ret (.nx ρ))
def sWhile (n : Nat) (c : FE) (b : FS) : FS := fun ρ => wloop c b n ρ
def sBrk : FS := fun ρ => .ret (.bk ρ)
def sCt : FS := fun ρ => .ret (.ct ρ)

/-- a def: its parameters are the first names; n names in all -/
def run (n k : Nat) (b : FS) (args : List D) : M D :=
  if args.length = k then (b (args.map .fz ++ List.replicate (n - k) .no)).bind fun fl => match fl with
    | .rt d => .ret d
    | .nx _ => .ret .non
    | _ => .bad
  else .bad

/-! ### operators -/
def gAdd : D → D → M D
  | .int i, .int j => .ret (.int (i + j))
  | .str a, .str b => fit (a.length + b.length) (.ret (.str (a ++ b)))
  | .lst a, .lst b => fit (a.length + b.length) (.ret (.lst (a ++ b)))
  | .tup a, .tup b => fit (a.length + b.length) (.ret (.tup (a ++ b)))
  | _, _ => .bad
def gAddI : D → D → M D
  | .int i, .int j => .ret (.int (i + j))
  | _, _ => .bad
def gSub : D → D → M D
  | .int i, .int j => .ret (.int (i - j))
  | _, _ => .bad
def small (i : Int) : Bool := decide (i.natAbs < 18446744073709551616)
def gMul : D → D → M D
  | .int i, .int j => if small i || small j then .ret (.int (i * j)) else .bad
  | .str a, .int k => if k.natAbs ≤ 1000000 ∧ a.length ≤ 15 ∧ 0 ≤ k then .ret (.str (List.replicate k.toNat a).flatten) else .bad
  | .lst a, .int k => if k.natAbs ≤ 1000000 ∧ a.length ≤ 15 ∧ 0 ≤ k then .ret (.lst (List.replicate k.toNat a).flatten) else .bad
  | .tup a, .int k => if k.natAbs ≤ 1000 ∧ a.length ≤ 1000 ∧ 0 < k ∧ 1 ≤ a.length then .ret (.tup (List.replicate k.toNat a).flatten) else .bad
  | _, _ => .bad
def gDiv : D → D → M D
  | .int i, .int j => if 0 < j ∧ j.natAbs < 1073741824 then .ret (.int (i / j)) else .bad
  | _, _ => .bad
def gMod : D → D → M D
  | .int i, .int j => if 0 < j then .ret (.int (i % j)) else .bad
  | _, _ => .bad
def gNeg : D → M D
  | .int i => .ret (.int (-i))
  | _ => .bad

/-! equality as Python has it -/
mutual
def D.eq : D → D → Bool
  | .non, .non => true
  | .bl a, .bl b => a == b
  | .bl a, .int j => (if a then 1 else 0) == j
  | .int i, .bl b => i == (if b then 1 else 0)
  | .int i, .int j => i == j
  | .str x, .str y => x == y
  | .lst xs, .lst ys => D.eqs xs ys
  | .tup xs, .tup ys => D.eqs xs ys
  | _, _ => false
def D.eqs : List D → List D → Bool
  | [], [] => true
  | x :: xs, y :: ys => D.eq x y && D.eqs xs ys
  | _, _ => false
end
/-- no cup within, at most so deep -/
def D.ok : Nat → D → Bool
  | _, .non => true
  | _, .bl _ => true
  | _, .int _ => true
  | _, .str _ => true
  | n + 1, .tup xs => xs.all (D.ok n)
  | n + 1, .lst xs => xs.all (D.ok n)
  | _, _ => false
def gEq (a b : D) : M D := if D.ok 20 a && D.ok 20 b then .ret (.bl (D.eq a b)) else .bad
def gNe (a b : D) : M D := if D.ok 20 a && D.ok 20 b then .ret (.bl (!D.eq a b)) else .bad
def gLt : D → D → M D
  | .int i, .int j => .ret (.bl (decide (i < j)))
  | .str a, .str b => .ret (.bl (decide (a < b)))
  | _, _ => .bad
def gLe : D → D → M D
  | .int i, .int j => .ret (.bl (decide (i ≤ j)))
  | .str a, .str b => .ret (.bl (!decide (b < a)))
  | _, _ => .bad
def gGt : D → D → M D
  | .int i, .int j => .ret (.bl (decide (j < i)))
  | .str a, .str b => .ret (.bl (decide (b < a)))
  | _, _ => .bad
def gGe : D → D → M D
  | .int i, .int j => .ret (.bl (decide (j ≤ i)))
  | .str a, .str b => .ret (.bl (!decide (a < b)))
  | _, _ => .bad
def isNon : D → Bool
  | .non => true
  | _ => false
def gIs : D → D → M D
  | a, .non => .ret (.bl (isNon a))
  | .bl a, .bl b => .ret (.bl (a == b))
  | _, _ => .bad
def gIsNot : D → D → M D
  | a, .non => .ret (.bl (!isNon a))
  | .bl a, .bl b => .ret (.bl (!(a == b)))
  | _, _ => .bad
/-- the one text within the other -/
def subIn (a s : List Nat) : Bool := (List.range (s.length + 1)).any fun i => decide (i + a.length ≤ s.length) && (s.drop i).take a.length == a
/-- x in xs -/
def gIn : D → D → M D
  | x, .lst xs => if D.ok 20 x && xs.all (D.ok 20) then .ret (.bl (xs.any fun y => D.eq y x)) else .bad
  | x, .tup xs => if D.ok 20 x && xs.all (D.ok 20) then .ret (.bl (xs.any fun y => D.eq y x)) else .bad
  | .str [c], .str s => .ret (.bl (decide (c ∈ s)))
  | .str a, .str s => .ret (.bl (subIn a s))
  | _, _ => .bad
def gNotIn : D → D → M D
  | x, .lst xs => if D.ok 20 x && xs.all (D.ok 20) then .ret (.bl (!xs.any fun y => D.eq y x)) else .bad
  | x, .tup xs => if D.ok 20 x && xs.all (D.ok 20) then .ret (.bl (!xs.any fun y => D.eq y x)) else .bad
  | .str [c], .str s => .ret (.bl (!decide (c ∈ s)))
  | .str a, .str s => .ret (.bl (!subIn a s))
  | _, _ => .bad

/-! items, slices -/
def at? {α : Type} (xs : List α) (i : Int) : Option α := if 0 ≤ i then xs[i.toNat]? else if -(xs.length : Int) ≤ i then xs[(i + (xs.length : Int)).toNat]? else none
def ofO (o : Option D) : M D := match o with
  | some d => .ret d
  | none => .bad
def gIx : D → D → M D
  | .lst xs, .int i => ofO (at? xs i)
  | .tup xs, .int i => ofO (at? xs i)
  | .str s, .int i => fit s.length (ofO ((at? s i).map fun c => .str [c]))
  | _, _ => .bad
/-- where a bound of a slice lies -/
def cutIx (n : Nat) (d : Nat) : Option Int → Nat
  | none => d
  | some i => if i < 0 then (i + (n : Int)).toNat else min i.toNat n
def cut {α : Type} (xs : List α) (lo hi : Option Int) : List α := (xs.drop (cutIx xs.length 0 lo)).take (cutIx xs.length xs.length hi - cutIx xs.length 0 lo)
def gSl (x : D) (lo hi : Option Int) : M D := match x with
  | .lst xs => .ret (.lst (cut xs lo hi))
  | .tup xs => .ret (.tup (cut xs lo hi))
  | .str s => fit s.length (.ret (.str (cut s lo hi)))
  | _ => .bad
abbrev FO := Ev → M (Option Int)
def fNoPart : FO := fun _ => .ret none
def fPart (f : FE) : FO := fun ρ => (f ρ).bind fun d => match d with
  | .int i => .ret (some i)
  | _ => .bad
def fSl (f : FE) (lo hi : FO) : FE := fun ρ => (f ρ).bind fun x => (lo ρ).bind fun a => (hi ρ).bind fun b => gSl x a b
def gRev : D → M D
  | .lst xs => .ret (.lst xs.reverse)
  | .tup xs => .ret (.tup xs.reverse)
  | .str s => fit s.length (.ret (.str s.reverse))
  | _ => .bad

/-! built-ins -/
def gLen : D → M D
  | .lst xs => .ret (.int xs.length)
  | .tup xs => .ret (.int xs.length)
  | .str s => fit s.length (.ret (.int s.length))
  | _ => .bad
def onO {α : Type} (o : Option α) (g : α → M D) : M D := match o with
  | some a => g a
  | none => .bad
def asBools : List D → Option (List Bool)
  | [] => some []
  | .bl b :: xs => (asBools xs).map (b :: ·)
  | _ => none
def asInts : List D → Option (List Int)
  | [] => some []
  | .int i :: xs => (asInts xs).map (i :: ·)
  | _ => none
def asStrs : List D → Option (List (List Nat))
  | [] => some []
  | .str i :: xs => (asStrs xs).map (i :: ·)
  | _ => none
def gAll : D → M D
  | .lst xs => onO (asBools xs) fun bs => .ret (.bl (bs.all id))
  | _ => .bad
def gSum : D → M D
  | .lst xs => onO (asInts xs) fun ns => .ret (.int ns.sum)
  | _ => .bad
def maxI : List Int → Int
  | [] => 0
  | [x] => x
  | x :: y :: r => max x (maxI (y :: r))
def minI : List Int → Int
  | [] => 0
  | [x] => x
  | x :: y :: r => min x (minI (y :: r))
def gMaxL : D → M D
  | .lst (x :: xs) => onO (asInts (x :: xs)) fun ns => .ret (.int (maxI ns))
  | _ => .bad
def gMinL : D → M D
  | .lst (x :: xs) => onO (asInts (x :: xs)) fun ns => .ret (.int (minI ns))
  | _ => .bad
def gMax2 : D → D → M D
  | .int i, .int j => .ret (.int (if j > i then j else i))
  | _, _ => .bad
def gMin2 : D → D → M D
  | .int i, .int j => .ret (.int (if j < i then j else i))
  | _, _ => .bad
def gTuple : D → M D
  | .lst xs => .ret (.tup xs)
  | .tup xs => .ret (.tup xs)
  | _ => .bad
def gList : D → M D
  | .lst xs => .ret (.lst xs)
  | .tup xs => .ret (.lst xs)
  | _ => .bad
def gInt : D → M D
  | .int i => .ret (.int i)
  | _ => .bad
def gStr : D → M D
  | .str i => .ret (.str i)
  | _ => .bad
inductive Ty where
  | int | bool | str | tuple | list
def isTy : Ty → D → Option Bool
  | _, .cup => none
  | _, .scr => none
  | _, .dct _ _ => none
  | .int, .int _ => some true
  | .int, .bl _ => some true
  | .bool, .bl _ => some true
  | .str, .str _ => some true
  | .tuple, .tup _ => some true
  | .list, .lst _ => some true
  | _, _ => some false
def gIsT (t : Ty) (d : D) : M D := match isTy t d with
  | some b => .ret (.bl b)
  | none => .bad
def ins (x : Int) : List Int → List Int
  | [] => [x]
  | y :: ys => if x ≤ y then x :: y :: ys else y :: ins x ys
def isort : List Int → List Int
  | [] => []
  | x :: xs => ins x (isort xs)
def gSorted : D → M D
  | .lst xs => onO (asInts xs) fun ns => .ret (.lst ((isort ns).map .int))
  | _ => .bad
/-- each once, as first met -/
def once {α : Type} [DecidableEq α] (xs : List α) : List α := xs.foldl (fun l k => if k ∈ l then l else l ++ [k]) []
/-- each int once, as it is first met -/
def dedupI (ns : List Int) : List Int := ns.foldl (fun l k => if l.any (· == k) then l else l ++ [k]) []
/-- sorted(set(xs)) -/
def gSortedSet : D → M D
  | .lst xs => onO (asInts xs) fun ns => if (dedupI ns).length < 64 ∧ ns.length < 4000 then .ret (.lst ((isort (dedupI ns)).map .int)) else .bad
  | _ => .bad
def join (xs : List (List Nat)) : List Nat := xs.flatten
/-- "".join(xs) -/
def gJoin : D → M D
  | .lst xs => onO (asStrs xs) fun ss => fit (ss.map List.length).sum (.ret (.str ss.flatten))
  | .tup xs => onO (asStrs xs) fun ss => fit (ss.map List.length).sum (.ret (.str ss.flatten))
  | _ => .bad
/-- len(set(texts)) -/
def gLenSet : D → M D
  | .lst xs => onO (asStrs xs) fun ss => if ss.length ≤ 4000 then .ret (.int (once ss).length) else .bad
  | .tup xs => onO (asStrs xs) fun ss => if ss.length ≤ 4000 then .ret (.int (once ss).length) else .bad
  | _ => .bad
def asStr : D → M D
  | .str s => .ret (.str s)
  | _ => .bad
def gCount : D → D → M D
  | .str s, .str [c] => .ret (.int (s.count c))
  | _, _ => .bad

/-! what is walked -/
def wSeq : D → M (List D)
  | .lst xs => .ret xs
  | .tup xs => .ret xs
  | .str s => if s.length ≤ sizeMax then .ret (s.map fun c => .str [c]) else .bad
  | _ => .bad
def iSeq (f : FE) : FL := fun ρ => (f ρ).bind wSeq
def rngL (lo : Int) (n : Nat) : List D := (List.range n).map fun (i : Nat) => .int (lo + i)
def iRange1 (f : FE) : FL := fun ρ => (f ρ).bind fun d => match d with
  | .int j => if j.natAbs ≤ 4000000 then .ret (rngL 0 j.toNat) else .bad
  | _ => .bad
def iRange2 (f g : FE) : FL := fun ρ => (f ρ).bind fun d => (g ρ).bind fun e => match d, e with
  | .int i, .int j => if i.natAbs ≤ 4000000 ∧ j.natAbs ≤ 4000000 then .ret (rngL i (j - i).toNat) else .bad
  | _, _ => .bad

/-! draws -/
def gRoll : List D → M D
  | [.cup, .int n] => if 0 < n ∧ n.natAbs < 1073741824 then .draw n.toNat fun i => .ret (.int i) else .bad
  | _ => .bad
def gCup : List D → M D
  | [.scr] => .ret .cup
  | _ => .bad
/-! a law: its first statement makes the cup -/
def lawEnv (n : Nat) : Ev := [.no, .fz .cup] ++ List.replicate n .no
def isTrue1 : D → Prop
  | .bl true => True
  | _ => False
def lawM (n : Nat) (b : FS) : M D := (b (lawEnv n)).bind fun fl => match fl with
  | .rt d => .ret d
  | _ => .bad
end WK
end

section
set_option Elab.async false
set_option linter.all false
/-! sorted ints, each once -/
namespace WK
theorem isort_perm : ∀ ns : List Int, (isort ns).Perm ns
  | [] => .nil
  | x :: xs => by
    have ip : ∀ l : List Int, (ins x l).Perm (x :: l) := by
      intro l
      induction l with
      | nil => exact List.Perm.refl _
      | cons y ys ih =>
        show (if x ≤ y then x :: y :: ys else y :: ins x ys).Perm _
        split
        · exact List.Perm.refl _
        · exact (List.Perm.cons y ih).trans (List.Perm.swap x y ys)
    exact (ip (isort xs)).trans (List.Perm.cons x (isort_perm xs))
theorem isort_le : ∀ ns : List Int, (isort ns).Pairwise (· ≤ ·)
  | [] => .nil
  | x :: xs => by
    have ip : ∀ l : List Int, l.Pairwise (· ≤ ·) → (ins x l).Pairwise (· ≤ ·) := by
      intro l
      induction l with
      | nil => intro _; exact List.pairwise_singleton _ _
      | cons y ys ih =>
        intro h
        obtain ⟨h1, h2⟩ := List.pairwise_cons.mp h
        show (if x ≤ y then x :: y :: ys else y :: ins x ys).Pairwise _
        split
        · rename_i hxy
          refine List.pairwise_cons.mpr ⟨fun z hz => ?_, h⟩
          rcases List.mem_cons.mp hz with e | hz
          · subst e; exact hxy
          · exact Int.le_trans hxy (h1 z hz)
        · rename_i hxy
          refine List.pairwise_cons.mpr ⟨fun z hz => ?_, ih h2⟩
          have : ∀ (l : List Int) (z : Int), z ∈ ins x l → z = x ∨ z ∈ l := by
            intro l
            induction l with
            | nil => intro z hz; exact .inl (by simpa [ins] using hz)
            | cons a l ih =>
              intro z hz
              have hz : z ∈ (if x ≤ a then x :: a :: l else a :: ins x l) := hz
              split at hz
              · rcases List.mem_cons.mp hz with e | hz
                · exact .inl e
                · exact .inr hz
              · rcases List.mem_cons.mp hz with e | hz
                · exact .inr (e ▸ List.mem_cons_self)
                · rcases ih z hz with e | h
                  · exact .inl e
                  · exact .inr (List.mem_cons_of_mem _ h)
          rcases this ys z hz with e | hz
          · subst e; omega
          · exact h1 z hz
    exact ip _ (isort_le xs)
theorem sorted_uniq : ∀ {a b : List Int}, a.Perm b → a.Pairwise (· ≤ ·) → b.Pairwise (· ≤ ·) → a = b
  | [], b, p, _, _ => (List.nil_perm.mp p).symm
  | x :: xs, [], p, _, _ => absurd (List.perm_nil.mp p) (by simp)
  | x :: xs, y :: ys, p, ha, hb => by
    obtain ⟨a1, a2⟩ := List.pairwise_cons.mp ha
    obtain ⟨b1, b2⟩ := List.pairwise_cons.mp hb
    have e : x = y := by
      have h1 : x ∈ y :: ys := p.subset List.mem_cons_self
      have h2 : y ∈ x :: xs := p.symm.subset List.mem_cons_self
      rcases List.mem_cons.mp h1 with e | h1
      · exact e
      · rcases List.mem_cons.mp h2 with e | h2
        · exact e.symm
        · have := a1 y h2
          have := b1 x h1
          omega
    subst e
    rw [sorted_uniq (List.perm_cons x |>.mp p) a2 b2]
theorem dedup_go : ∀ (ns l : List Int), l.Nodup → (ns.foldl (fun l k => if l.any (· == k) then l else l ++ [k]) l).Nodup ∧ ∀ k, k ∈ ns.foldl (fun l k => if l.any (· == k) then l else l ++ [k]) l ↔ k ∈ l ∨ k ∈ ns
  | [], l, h => ⟨h, fun k => by simp⟩
  | n :: r, l, h => by
    rw [List.foldl_cons]
    by_cases q : l.any (· == n) = true
    · rw [if_pos q]
      obtain ⟨a, b⟩ := dedup_go r l h
      refine ⟨a, fun k => ?_⟩
      rw [b k, List.mem_cons]
      have hm : n ∈ l := by
        obtain ⟨x, hx, e⟩ := List.any_eq_true.mp q
        rw [beq_iff_eq.mp e] at hx
        exact hx
      constructor
      · rintro (z | z)
        · exact .inl z
        · exact .inr (.inr z)
      · rintro (z | z | z)
        · exact .inl z
        · exact .inl (z ▸ hm)
        · exact .inr z
    · rw [if_neg q]
      have hm : n ∉ l := fun z => q (List.any_eq_true.mpr ⟨n, z, beq_self_eq_true n⟩)
      obtain ⟨a, b⟩ := dedup_go r (l ++ [n]) (by
        rw [List.nodup_append]
        exact ⟨h, by simp, fun x hx y hy e => hm (by rw [List.mem_singleton.mp hy] at e; exact e ▸ hx)⟩)
      refine ⟨a, fun k => ?_⟩
      rw [b k, List.mem_append, List.mem_singleton, List.mem_cons, or_assoc]
theorem dedup_nodup (ns : List Int) : (dedupI ns).Nodup := (dedup_go ns [] List.nodup_nil).1
theorem dedup_mem (ns : List Int) (k : Int) : k ∈ dedupI ns ↔ k ∈ ns := by
  refine ((dedup_go ns [] List.nodup_nil).2 k).trans ⟨fun h => h.resolve_left List.not_mem_nil, .inr⟩
theorem lt_nodup {l : List Int} (h : l.Pairwise (· < ·)) : l.Nodup := h.imp fun a e => by omega
end WK
end

section
set_option Elab.async false
set_option linter.all false
/-! The plain side: order on data. -/
namespace WK
mutual
/-- x < y, for data that are alike -/
def dLt : D → D → Bool
  | .bl a, .bl b => !a && b
  | .int i, .int j => decide (i < j)
  | .str a, .str b => decide (a < b)
  | .tup xs, .tup ys => dLts xs ys
  | .lst xs, .lst ys => dLts xs ys
  | _, _ => false
def dLts : List D → List D → Bool
  | x :: xs, y :: ys => if D.eq x y then dLts xs ys else dLt x y
  | [], _ :: _ => true
  | _, _ => false
end
mutual
/-- can be compared -/
def dAlk : D → D → Bool
  | .bl _, .bl _ => true
  | .int _, .int _ => true
  | .str _, .str _ => true
  | .tup xs, .tup ys => dAlks xs ys
  | .lst xs, .lst ys => dAlks xs ys
  | _, _ => false
def dAlks : List D → List D → Bool
  | x :: xs, y :: ys => dAlk x y && dAlks xs ys
  | _, _ => true
end
def dLe (a b : D) : Bool := !dLt b a
def cmpOk (a b : D) : Bool := D.ok 20 a && D.ok 20 b && dAlk a b
def gLtX (a b : D) : M D := if cmpOk a b then .ret (.bl (dLt a b)) else .bad
def gLeX (a b : D) : M D := if cmpOk a b then .ret (.bl (!dLt b a)) else .bad
def gGtX (a b : D) : M D := if cmpOk a b then .ret (.bl (dLt b a)) else .bad
def gGeX (a b : D) : M D := if cmpOk a b then .ret (.bl (!dLt a b)) else .bad
/-- all these can be compared, each with each -/
def allAlk (xs : List D) : Bool := xs.all (D.ok 20) && xs.all fun x => xs.all fun y => dAlk x y
def nonE : D → Bool
  | .tup (_ :: _) => true
  | _ => false
def noT : D → Bool
  | .tup _ => false
  | .non => false
  | _ => true
def sortOk (xs : List D) : Bool := allAlk xs && (xs.all nonE || xs.all noT) && decide (xs.length ≤ sizeMax)
def minX (x : D) (xs : List D) : D := xs.foldl (fun a y => if dLt y a then y else a) x
def maxX (x : D) (xs : List D) : D := xs.foldl (fun a y => if dLt a y then y else a) x
def wList : D → Option (List D)
  | .lst xs => some xs
  | .tup xs => some xs
  | _ => none
def sortN (s : List Nat) : List Nat := s.mergeSort fun a b => decide (a ≤ b)
def gSortedX (d : D) : M D := match d with
  | .lst xs => if sortOk xs then .ret (.lst (xs.mergeSort dLe)) else .bad
  | .str s => if s.length ≤ sizeMax then .ret (.lst ((sortN s).map fun c => .str [c])) else .bad
  | _ => .bad
def gMinX (d : D) : M D := match wList d with
  | some (x :: xs) => if allAlk (x :: xs) then .ret (minX x xs) else .bad
  | _ => .bad
def gMaxX (d : D) : M D := match wList d with
  | some (x :: xs) => if allAlk (x :: xs) then .ret (maxX x xs) else .bad
  | _ => .bad
def gMinX2 : D → D → M D
  | .int i, .int j => .ret (.int (if j < i then j else i))
  | .str a, .str b => .ret (.str (if b < a then b else a))
  | _, _ => .bad
def gMaxX2 : D → D → M D
  | .int i, .int j => .ret (.int (if j > i then j else i))
  | .str a, .str b => .ret (.str (if b > a then b else a))
  | _, _ => .bad
end WK
end

section
set_option Elab.async false
set_option linter.all false
/-! The plain side: zip, enumerate, two fors. -/
namespace WK
def enumL (xs : List D) : List D := xs.mapIdx fun i x => .tup [.int (i : Nat), x]
def zipL (xs ys : List D) : List D := List.zipWith (fun x y => .tup [x, y]) xs ys
def iEnum (f : FE) : FL := fun ρ => (f ρ).bind fun d => (wSeq d).bind fun xs => .ret (enumL xs)
def iZip (f g : FE) : FL := fun ρ => (f ρ).bind fun d => (g ρ).bind fun e => (wSeq d).bind fun xs => (wSeq e).bind fun ys => .ret (zipL xs ys)
def fitL (xs : List D) : M (List D) := if xs.length ≤ sizeMax then .ret xs else .bad
def iEnumF (f : FE) : FL := fun ρ => (f ρ).bind fun d => (wSeq d).bind fun xs => fitL (enumL xs)
def iZipF (f g : FE) : FL := fun ρ => (f ρ).bind fun d => (g ρ).bind fun e => (wSeq d).bind fun xs => (wSeq e).bind fun ys => fitL (zipL xs ys)
def lc2In (it1 : FL) (tg1 : FG) (test1 elt : FE) (vs1 : List Nat) (ρ2 : Ev) : M (List D) := (it1 ρ2).bind fun ys => (mapM (fun y => match tg1 y (wipe ρ2 vs1) with
  | some ρ3 => (test1 ρ3).bind fun b => onB b ((elt ρ3).bind fun d => .ret [d]) (.ret [])
  | none => .bad) ys).bind fun yss => .ret yss.flatten
def lc2Out (tg : FG) (test : FE) (inn : Ev → M (List D)) (ρ' : Ev) (x : D) : M (List D) := match tg x ρ' with
  | some ρ2 => (test ρ2).bind fun b => onB b (inn ρ2) (.ret [])
  | none => .bad
/-- [elt for tg in it if test for tg1 in it1 if test1] -/
def fLc2 (it : FL) (tg : FG) (test : FE) (it1 : FL) (tg1 : FG) (test1 elt : FE) (vs vs1 : List Nat) : FE := fun ρ => (it ρ).bind fun xs => if xs.length < sizeMax then
    (mapM (lc2Out tg test (lc2In it1 tg1 test1 elt vs1) (wipe ρ vs)) xs).bind fun yss => if yss.flatten.length < sizeMax then .ret (.lst yss.flatten) else .bad
  else .bad
end WK
end

section
set_option Elab.async false
set_option linter.all false
/-! The plain side: items of a list of one's own, stored; a list repeated. -/
namespace WK
def ixD (n : Nat) (i : Int) : Option Nat := if 0 ≤ i then (if i < n then some i.toNat else none) else if -(n : Int) ≤ i then some (i + n).toNat else none
/-- xs[ix] = f -/
def sSetI (i : Nat) (f ix : FE) : FS := fun ρ => match ρ[i]? with
  | some (.ow xs) => (f ρ).bind fun x => (ix ρ).bind fun k => match k with
    | .int k => match ixD xs.length k with
      | some j => .ret (.nx (ρ.set i (.ow (xs.set j x))))
      | none => .bad
    | _ => .bad
  | _ => .bad
/-- xs[ix] += f -/
def sAugI (gg : D → D → M D) (i : Nat) (ix f : FE) : FS := fun ρ => match ρ[i]? with
  | some (.ow xs) => (ix ρ).bind fun k => match k with
    | .int k => match ixD xs.length k with
      | some j => match xs[j]? with
        | some x => (f ρ).bind fun y => (gg x y).bind fun z => .ret (.nx (ρ.set i (.ow (xs.set j z))))
        | none => .bad
      | none => .bad
    | _ => .bad
  | _ => .bad
/-- [..] * n, a new list -/
def gRepL : D → D → M D
  | .lst a, .int k => if k.natAbs ≤ 1000000 ∧ a.length ≤ 15 ∧ 0 ≤ k then .ret (.lst (List.replicate k.toNat a).flatten) else .bad
  | _, _ => .bad
def asLst : D → M D
  | .lst xs => .ret (.lst xs)
  | _ => .bad
/-- xs.count(x), ints -/
def gCntL : D → D → M D
  | .lst xs, .int k => onO (asInts xs) fun ns => .ret (.int (ns.count k : Nat))
  | _, _ => .bad
end WK
end

section
set_option Elab.async false
set_option linter.all false
/-! The plain side: dicts with keys that are ints or texts. -/
namespace WK
def dkEq : D → D → Bool
  | .int i, .int j => i == j
  | .str s, .str t => s == t
  | _, _ => false
def isKey : D → Bool
  | .int _ => true
  | .str _ => true
  | _ => false
def dFind (k : D) : List D → List D → Option D
  | x :: xs, d :: ds => if dkEq x k then some d else dFind k xs ds
  | _, _ => none
def dRepl (k v : D) : List D → List D → List D
  | x :: xs, d :: ds => (if dkEq x k then v else d) :: dRepl k v xs ds
  | _, _ => []
def dKeys (k : D) (ks ds : List D) : List D := if (dFind k ks ds).isSome then ks else ks ++ [k]
def dVals (k v : D) (ks ds : List D) : List D := if (dFind k ks ds).isSome then dRepl k v ks ds else ds ++ [v]
def gDGet : D → D → M D
  | .dct ks ds, k => if isKey k then (match dFind k ks ds with
    | some d => .ret d
    | none => .bad) else .bad
  | _, _ => .bad
def gDIn : D → D → M D
  | k, .dct ks ds => if isKey k then .ret (.bl (dFind k ks ds).isSome) else .bad
  | _, _ => .bad
def gDNotIn : D → D → M D
  | k, .dct ks ds => if isKey k then .ret (.bl (!(dFind k ks ds).isSome)) else .bad
  | _, _ => .bad
def gLenD : D → M D
  | .dct ks _ => .ret (.int ks.length)
  | _ => .bad
/-- d[ix] = f -/
def sDPut (i : Nat) (f ix : FE) : FS := fun ρ => match ρ[i]? with
  | some (.od ks ds) => (f ρ).bind fun x => (ix ρ).bind fun k => if isKey k ∧ ks.length < sizeMax then .ret (.nx (ρ.set i (.od (dKeys k ks ds) (dVals k x ks ds)))) else .bad
  | _ => .bad
/-- a name gets a dict of its own -/
def sOwnD (i : Nat) (f : FE) : FS := fun ρ => (f ρ).bind fun d => match d with
  | .dct ks ds => if i < ρ.length then .ret (.nx (ρ.set i (.od ks ds))) else .bad
  | _ => .bad
/-- pairs laid into a dict -/
def dPairs : List D → List D → List D → Option (List D × List D)
  | [], ks, ds => some (ks, ds)
  | .tup [k, v] :: r, ks, ds => if isKey k then dPairs r (dKeys k ks ds) (dVals k v ks ds) else none
  | _ :: _, _, _ => none
def gDict : D → M D
  | .lst xs => match dPairs xs [] [] with
    | some (ks, ds) => .ret (.dct ks ds)
    | none => .bad
  | _ => .bad
/-- {k: v, ..}, the pairs one by one -/
def dDisp : List D → List D → List D → Option (List D × List D)
  | [], ks, ds => some (ks, ds)
  | k :: v :: r, ks, ds => if isKey k then dDisp r (dKeys k ks ds) (dVals k v ks ds) else none
  | _, _, _ => none
def gDisp (xs : List D) : M D := match dDisp xs [] [] with
  | some (ks, ds) => .ret (.dct ks ds)
  | none => .bad
/-- a, b, c = three new lists -/
def sPar3N (i j l : Nat) (f g h : FE) : FS := fun ρ => (f ρ).bind fun x => (g ρ).bind fun y => (h ρ).bind fun z => match x, y, z with
  | .lst xs, .lst ys, .lst zs => if i < ρ.length ∧ j < ρ.length ∧ l < ρ.length then .ret (.nx (((ρ.set i (.ow xs)).set j (.ow ys)).set l (.ow zs))) else .bad
  | _, _, _ => .bad
/-- sorted(d): its keys, all texts or all ints -/
def sortS (ss : List (List Nat)) : List (List Nat) := ss.mergeSort fun a b => decide (a ≤ b)
def gSortedD : D → M D
  | .dct ks _ => if ks.length < 64 then (match asStrs ks with
    | some ss => .ret (.lst ((sortS ss).map .str))
    | none => match asInts ks with
      | some ns => .ret (.lst ((isort ns).map .int))
      | none => .bad) else .bad
  | _ => .bad
def gDispB (xs : List D) : M D := if xs.length ≤ 30 then gDisp xs else .bad
/-- a, b = dicts -/
def sParD (i j : Nat) (f g : FE) : FS := fun ρ => (f ρ).bind fun x => (g ρ).bind fun y => match x, y with
  | .dct ks ds, .dct ks2 ds2 => if i < ρ.length ∧ j < ρ.length then .ret (.nx ((ρ.set i (.od ks ds)).set j (.od ks2 ds2))) else .bad
  | _, _ => .bad
/-- while the dict of i is walked, in an expression -/
def fLock (i : Nat) (f : FE) : FE := fun ρ => match ρ[i]? with
  | some (.od ks ds) => f (ρ.set i (.ol ks ds))
  | _ => .bad
/-- what is walked: the keys of a dict that is locked -/
def iDict (i : Nat) : FL := fun ρ => match ρ[i]? with
  | some (.ol ks _) => if ks.length ≤ sizeMax then .ret ks else .bad
  | _ => .bad
/-- for .. in d: the name is not read any more within -/
def sForD (i : Nat) (tg : FG) (b : FS) : FS := fun ρ => match ρ[i]? with
  | some (.od ks _) => if ks.length ≤ sizeMax then loop tg b ks (ρ.set i .no) else .bad
  | _ => .bad
end WK
end

section
set_option Elab.async false
set_option linter.all false
/-! The plain side: lists that grow by lists, lists of lists, list(range(..)), list.index. -/
namespace WK
/-- xs += ys -/
def sExt (i : Nat) (f : FE) : FS := fun ρ => match ρ[i]? with
  | some (.ow xs) => (f ρ).bind fun d => match d with
    | .lst ys => if xs.length + ys.length ≤ sizeMax then .ret (.nx (ρ.set i (.ow (xs ++ ys)))) else .bad
    | _ => .bad
  | _ => .bad
/-- list(range(n)), list(range(a, b)) -/
def gLRng1 : D → M D
  | .int j => if j.natAbs ≤ 4000000 then .ret (.lst (rngL 0 j.toNat)) else .bad
  | _ => .bad
def gLRng2 : D → D → M D
  | .int i, .int j => if i.natAbs ≤ 4000000 ∧ j.natAbs ≤ 4000000 then .ret (.lst (rngL i (j - i).toNat)) else .bad
  | _, _ => .bad
/-- [[] for x in it], given to a name that will change the lists -/
def fLcE (it : FL) (j : Nat) : FE := fun ρ => (it ρ).bind fun xs => if xs.length < sizeMax ∧ j < ρ.length then .ret (.lst (List.replicate xs.length (.lst []))) else .bad
def sOwnN (i j : Nat) (it : FL) : FS := fun ρ => (it ρ).bind fun xs => if xs.length < sizeMax ∧ j < ρ.length ∧ i < ρ.length then .ret (.nx (ρ.set i (.on (List.replicate xs.length [])))) else .bad
/-- xs[k].append(f) -/
def sAppN (i : Nat) (ix f : FE) : FS := fun ρ => match ρ[i]? with
  | some (.on xss) => (ix ρ).bind fun d => match d with
    | .int k => if 0 ≤ k then (match xss[k.toNat]? with
        | some xs => (f ρ).bind fun x => if xs.length < sizeMax then .ret (.nx (ρ.set i (.on (xss.set k.toNat (xs ++ [x]))))) else .bad
        | none => .bad) else .bad
    | _ => .bad
  | _ => .bad
/-- j = xs.pop() -/
def sPop (j i : Nat) : FS := fun ρ => match ρ[i]? with
  | some (.ow xs) => match xs.getLast? with
    | some x => if j < ρ.length ∧ i ≠ j then .ret (.nx ((ρ.set i (.ow xs.dropLast)).set j (.fz x))) else .bad
    | none => .bad
  | _ => .bad
/-- a, b = {..}, [..] -/
def sParDO (i j : Nat) (f g : FE) : FS := fun ρ => (f ρ).bind fun x => (g ρ).bind fun y => match x, y with
  | .dct ks ds, .lst ys => if i < ρ.length ∧ j < ρ.length then .ret (.nx ((ρ.set i (.od ks ds)).set j (.ow ys))) else .bad
  | _, _ => .bad
/-- a truth value, None for false -/
def gTru : D → M D
  | .bl b => .ret (.bl b)
  | .non => .ret (.bl false)
  | _ => .bad
/-- list(zip(x, y)), texts -/
def gZipL : D → D → M D
  | .str a, .str b => if a.length ≤ sizeMax ∧ b.length ≤ sizeMax then .ret (.lst (List.zipWith (fun x y => .tup [.str [x], .str [y]]) a b)) else .bad
  | _, _ => .bad
/-- text.split(sign) -/
def splitN (c : Nat) : List Nat → List (List Nat)
  | [] => [[]]
  | x :: xs => if x = c then [] :: splitN c xs else match splitN c xs with
    | p :: ps => (x :: p) :: ps
    | [] => []
def gSplit : D → D → M D
  | .str a, .str [c] => if c < 256 ∧ a.length + 2 ≤ sizeMax then .ret (.lst ((splitN c a).map .str)) else .bad
  | _, _ => .bad
end WK
end

section
set_option Elab.async false
set_option linter.all false
set_option maxRecDepth 100000
/-! The plain side and the machine: what stands for what. -/
namespace WK
open PySem L2

abbrev SS (s : List Nat) : Str := ⟨s.toArray⟩

/-! ### what stands for what: F is the part of the heap that nobody changes any more -/
mutual
inductive Rp (K : PySem.W.Frag) (F : Hp) (C : Option Addr) : V → D → Prop
  | non : Rp K F C .non .non
  | bl (b : Bool) : Rp K F C (.bl b) (.bl b)
  | int (i : Int) : Rp K F C (.int i) (.int i)
  | str (s : List Nat) : Rp K F C (.str (SS s)) (.str s)
  | tup {a : Addr} {vs : List V} {ds : List D} : SqT K F a vs → Rps K F C vs ds → Rp K F C (.ref a) (.tup ds)
  | lst {a : Addr} {vs : List V} {ds : List D} : F a = some (.lst vs) → Rps K F C vs ds → Rp K F C (.ref a) (.lst ds)
  | scr {a : Addr} {ns : List Int} : SqL K F a (ns.map V.int) → Rp K F C (.ref a) .scr
  | cup {c : Addr} : C = some c → Rp K F C (.ref c) .cup
inductive Rps (K : PySem.W.Frag) (F : Hp) (C : Option Addr) : List V → List D → Prop
  | nil : Rps K F C [] []
  | cons {v : V} {vs : List V} {d : D} {ds : List D} : Rp K F C v d → Rps K F C vs ds → Rps K F C (v :: vs) (d :: ds)
end
section
variable {K : PySem.W.Frag} {F F' : Hp} {C C' : Option Addr}
theorem sameT {H H' : Hp} {a : Addr} {xs : List V} (e : Same H H') (h : SqT K H a xs) : SqT K H' a xs := by
  rcases h with (h | ⟨o, h⟩) | h
  · exact .inl (.inl (e _ _ h))
  · exact .inl (.inr ⟨o, e _ _ h⟩)
  · exact .inr h
mutual
theorem Rp.mono (hF : Same F F') (hC : ∀ c, C = some c → C' = some c) : ∀ {v : V} {d : D}, Rp K F C v d → Rp K F' C' v d
  | _, _, .non => .non
  | _, _, .bl b => .bl b
  | _, _, .int i => .int i
  | _, _, .str s => .str s
  | _, _, .tup h r => .tup (sameT hF h) (Rps.mono hF hC r)
  | _, _, .lst h r => .lst (hF _ _ h) (Rps.mono hF hC r)
  | _, _, .scr h => .scr (Same.seq hF h)
  | _, _, .cup h => .cup (hC _ h)
theorem Rps.mono (hF : Same F F') (hC : ∀ c, C = some c → C' = some c) : ∀ {v : List V} {d : List D}, Rps K F C v d → Rps K F' C' v d
  | _, _, .nil => .nil
  | _, _, .cons r t => .cons (Rp.mono hF hC r) (Rps.mono hF hC t)
end
theorem Rps.length : ∀ {vs : List V} {ds : List D}, Rps K F C vs ds → vs.length = ds.length
  | _, _, .nil => rfl
  | _, _, .cons _ t => congrArg (· + 1) (Rps.length t)
theorem Rps.get : ∀ {vs : List V} {ds : List D} {i : Nat} {d : D}, Rps K F C vs ds → ds[i]? = some d → ∃ v, vs[i]? = some v ∧ Rp K F C v d
  | _, _, _, _, .nil, e => by simp at e
  | _, _, 0, _, .cons r _, e => by simp at e; subst e; exact ⟨_, rfl, r⟩
  | _, _, i + 1, d, .cons _ t, e => by
    obtain ⟨u, h1, h2⟩ := Rps.get (i := i) (d := d) t (by simpa using e)
    exact ⟨u, by simpa using h1, h2⟩
theorem Rps.getV : ∀ {vs : List V} {ds : List D} {i : Nat} {v : V}, Rps K F C vs ds → vs[i]? = some v → ∃ d, ds[i]? = some d ∧ Rp K F C v d
  | _, _, _, _, .nil, e => by simp at e
  | _, _, 0, _, .cons r _, e => by simp at e; subst e; exact ⟨_, rfl, r⟩
  | _, _, i + 1, d, .cons _ t, e => by
    obtain ⟨u, h1, h2⟩ := Rps.getV (i := i) (v := d) t (by simpa using e)
    exact ⟨u, by simpa using h1, h2⟩
theorem Rps.append : ∀ {vs ws : List V} {ds es : List D}, Rps K F C vs ds → Rps K F C ws es → Rps K F C (vs ++ ws) (ds ++ es)
  | _, _, _, _, .nil, s => s
  | _, _, _, _, .cons r t, s => .cons r (Rps.append t s)
theorem Rps.take : ∀ {vs : List V} {ds : List D} (n : Nat), Rps K F C vs ds → Rps K F C (vs.take n) (ds.take n)
  | _, _, 0, _ => .nil
  | _, _, _ + 1, .nil => .nil
  | _, _, n + 1, .cons r t => .cons r (Rps.take n t)
theorem Rps.drop : ∀ {vs : List V} {ds : List D} (n : Nat), Rps K F C vs ds → Rps K F C (vs.drop n) (ds.drop n)
  | _, _, 0, r => r
  | _, _, _ + 1, .nil => .nil
  | _, _, n + 1, .cons _ t => Rps.drop n t
theorem Rps.one {v : V} {d : D} (r : Rp K F C v d) : Rps K F C [v] [d] := .cons r .nil
theorem Rps.flat : ∀ (n : Nat) {vs : List V} {ds : List D}, Rps K F C vs ds → Rps K F C (List.replicate n vs).flatten (List.replicate n ds).flatten
  | 0, _, _, _ => .nil
  | n + 1, _, _, r => by
    rw [List.replicate_succ, List.replicate_succ, List.flatten_cons, List.flatten_cons]
    exact r.append (Rps.flat n r)
theorem Rps.reverse : ∀ {vs : List V} {ds : List D}, Rps K F C vs ds → Rps K F C vs.reverse ds.reverse
  | _, _, .nil => .nil
  | _, _, .cons r t => by
    rw [List.reverse_cons, List.reverse_cons]
    exact (Rps.reverse t).append (.one r)
theorem Rps.nilD {vs : List V} (r : Rps K F C vs []) : vs = [] := by cases r; rfl
theorem Rps.nilV {ds : List D} (r : Rps K F C [] ds) : ds = [] := by cases r; rfl
theorem Rps.ints : ∀ {vs : List V} {ds : List D} {ns : List Int}, Rps K F C vs ds → asInts ds = some ns → vs = ns.map V.int
  | _, _, ns, .nil, e => by cases e; rfl
  | _, _, ns, .cons (ds := ds) r t, e => by
    cases r with
    | int i =>
      have e' : (asInts ds).map (i :: ·) = some ns := e
      cases q : asInts ds with
      | none => rw [q] at e'; cases e'
      | some ms =>
        rw [q] at e'
        cases e'
        rw [Rps.ints t q]; rfl
    | _ => exact nomatch e
theorem Rps.ofInts : ∀ (ns : List Int), Rps K F C (ns.map V.int) (ns.map D.int)
  | [] => .nil
  | n :: ns => .cons (.int n) (Rps.ofInts ns)
theorem Rps.bools : ∀ {vs : List V} {ds : List D} {ns : List Bool}, Rps K F C vs ds → asBools ds = some ns → vs = ns.map V.bl
  | _, _, ns, .nil, e => by cases e; rfl
  | _, _, ns, .cons (ds := ds) r t, e => by
    cases r with
    | bl i =>
      have e' : (asBools ds).map (i :: ·) = some ns := e
      cases q : asBools ds with
      | none => rw [q] at e'; cases e'
      | some ms =>
        rw [q] at e'
        cases e'
        rw [Rps.bools t q]; rfl
    | _ => exact nomatch e
theorem Rps.strs : ∀ {vs : List V} {ds : List D} {ns : List (List Nat)}, Rps K F C vs ds → asStrs ds = some ns → vs = (ns.map SS).map V.str
  | _, _, ns, .nil, e => by cases e; rfl
  | _, _, ns, .cons (ds := ds) r t, e => by
    cases r with
    | str i =>
      have e' : (asStrs ds).map (i :: ·) = some ns := e
      cases q : asStrs ds with
      | none => rw [q] at e'; cases e'
      | some ms =>
        rw [q] at e'
        cases e'
        rw [Rps.strs t q]; rfl
    | _ => exact nomatch e
end

/-! ### the heap as it stands: H, its part that nobody changes any more, the cup -/
structure HF (H F : Hp) (C : Option Addr) : Prop where
  sub : Same F H
  cup : ∀ c, C = some c → (∃ a b : Int, H c = some (.lst [.int a, .int b])) ∧ F c = none
/-- what an expression does: nothing that stood is changed but the cup; new things may be such that nobody changes any more -/
structure Step (H F : Hp) (C : Option Addr) (H' F' : Hp) (C' : Option Addr) : Prop where
  hf : HF H' F' C'
  same : ∀ b o, C ≠ some b → H b = some o → H' b = some o
  frz : Same F F'
  new : ∀ b, H b ≠ none → F b = none → F' b = none
  cup : ∀ c, C = some c → C' = some c
  cupN : ∀ c, C' = some c → C = some c ∨ H c = none
section
variable {H F H1 F1 H2 F2 : Hp} {C C1 C2 : Option Addr}
theorem HF.refl (h : HF H F C) : Step H F C H F C := ⟨h, fun _ _ _ e => e, Same.refl _, fun _ _ e => e, fun _ e => e, fun _ e => .inl e⟩
theorem Step.there (s : Step H F C H1 F1 C1) (h : HF H F C) {b : Addr} (n : H b ≠ none) : H1 b ≠ none := by
  by_cases hb : C = some b
  · obtain ⟨⟨x, y, e⟩, _⟩ := s.hf.cup b (s.cup b hb)
    rw [e]; simp
  · cases q : H b with
    | none => exact absurd q n
    | some o => rw [s.same b o hb q]; simp
theorem Step.trans (h : HF H F C) (a : Step H F C H1 F1 C1) (b : Step H1 F1 C1 H2 F2 C2) : Step H F C H2 F2 C2 := by
  refine ⟨b.hf, fun x o n e => ?_, a.frz.trans b.frz, fun x n e => b.new x (a.there h n) (a.new x n e), fun c e => b.cup c (a.cup c e), fun c e => ?_⟩
  · refine b.same x o (fun q => ?_) (a.same x o n e)
    rcases a.cupN x q with q | q
    · exact n q
    · rw [q] at e; cases e
  · rcases b.cupN c e with q | q
    · exact a.cupN c q
    · refine .inr ?_
      cases r : H c with
      | none => rfl
      | some o => exact absurd q (a.there h (by rw [r]; simp))
/-- a new thing -/
theorem HF.laid (h : HF H F C) {p : Addr} {o : HO} (np : H p = none) : Step H F C (upd H p o) F C := by
  have hF : F p = none := h.sub.free np
  have hc : ∀ c, C = some c → c ≠ p := fun c e q => by
    obtain ⟨⟨x, y, z⟩, _⟩ := h.cup c e
    rw [q, np] at z; cases z
  refine ⟨⟨fun b u e => ?_, fun c e => ?_⟩, fun b u _ e => ?_, Same.refl _, fun _ _ e => e, fun _ e => e, fun _ e => .inl e⟩
  · rw [upd_ne (ne_of_none e hF)]; exact h.sub b u e
  · obtain ⟨⟨x, y, z⟩, w⟩ := h.cup c e
    exact ⟨⟨x, y, by rw [upd_ne (hc c e)]; exact z⟩, w⟩
  · rw [upd_ne (ne_of_none e np)]; exact e
/-- .. that nobody changes any more -/
theorem Step.freeze (s : Step H F C H1 F1 C1) {p : Addr} {o : HO} (np : H p = none) (hp : H1 p = some o) (fp : F1 p = none) (nc : C1 ≠ some p) : Step H F C H1 (upd F1 p o) C1 := by
  refine ⟨⟨fun b u e => ?_, fun c e => ⟨(s.hf.cup c e).1, ?_⟩⟩, s.same, fun b u e => ?_, fun b n e => ?_, s.cup, s.cupN⟩
  · by_cases hb : b = p
    · subst hb; rw [upd_same] at e; cases e; exact hp
    · rw [upd_ne hb] at e; exact s.hf.sub b u e
  · rw [upd_ne (fun q : c = p => nc (q ▸ e))]; exact (s.hf.cup c e).2
  · rw [upd_ne (ne_of_none (s.frz b u e) fp)]; exact s.frz b u e
  · rw [upd_ne (fun q : b = p => n (q ▸ np))]; exact s.new b n e
theorem HF.notNew (h : HF H F C) {p : Addr} (np : H p = none) : F p = none ∧ C ≠ some p := ⟨h.sub.free np, fun e => by
  obtain ⟨⟨x, y, z⟩, _⟩ := h.cup p e
  rw [np] at z; cases z⟩
theorem HF.laidF (h : HF H F C) {p : Addr} {o : HO} (np : H p = none) : Step H F C (upd H p o) (upd F p o) C :=
  (h.laid np).freeze np upd_same (h.notNew np).1 (h.notNew np).2
/-- a new thing of one's own is changed -/
theorem Step.put (s : Step H F C H1 F1 C1) {p : Addr} {o u : HO} (hp : H1 p = some o) (fp : F1 p = none) (cp : C1 ≠ some p) (np : H p = none) : Step H F C (upd H1 p u) F1 C1 := by
  refine ⟨⟨fun b w e => ?_, fun c e => ?_⟩, fun b w n e => ?_, s.frz, s.new, s.cup, s.cupN⟩
  · rw [upd_ne (ne_of_none e fp)]; exact s.hf.sub b w e
  · obtain ⟨⟨x, y, z⟩, w⟩ := s.hf.cup c e
    exact ⟨⟨x, y, by rw [upd_ne (fun q : c = p => cp (q ▸ e))]; exact z⟩, w⟩
  · rw [upd_ne (ne_of_none e np)]; exact s.same b w n e
theorem upd_sub {p : Addr} {o : HO} (np : F p = none) : Same F (upd F p o) := fun b u e => by rw [upd_ne (ne_of_none e np)]; exact e
end

/-- a key -/
def KeyOf : D → Key → Prop
  | .int i, .inl j => i = j
  | .str s, .inr t => t = SS s
  | _, _ => False
/-- keys and values of a dict -/
inductive KvOk (K : PySem.W.Frag) (F : Hp) (C : Option Addr) : List (Key × V) → List D → List D → Prop
  | nil : KvOk K F C [] [] []
  | cons {k : Key} {v : V} {kvs : List (Key × V)} {x d : D} {xs ds : List D} : KeyOf x k → Rp K F C v d → KvOk K F C kvs xs ds → KvOk K F C ((k, v) :: kvs) (x :: xs) (d :: ds)
theorem KvOk.mono {K : PySem.W.Frag} {F F' : Hp} {C C' : Option Addr} (hF : Same F F') (hC : ∀ c, C = some c → C' = some c) : ∀ {kvs : List (Key × V)} {ks ds : List D}, KvOk K F C kvs ks ds → KvOk K F' C' kvs ks ds
  | _, _, _, .nil => .nil
  | _, _, _, .cons k r t => .cons k (r.mono hF hC) (t.mono hF hC)
/-- a value that is only looked at: it may be a list of somebody's own -/
def RpB (K : PySem.W.Frag) (F H : Hp) (C : Option Addr) (v : V) (d : D) : Prop :=
  Rp K F C v d ∨ (∃ p vs xs, v = .ref p ∧ d = .lst xs ∧ H p = some (.lst vs) ∧ C ≠ some p ∧ Rps K F C vs xs) ∨
    ∃ p kvs ks ds, v = .ref p ∧ d = .dct ks ds ∧ Rd H p (.dK kvs) ∧ C ≠ some p ∧ KvOk K F C kvs ks ds
/-- a new list that nobody else knows -/
def RpN (K : PySem.W.Frag) (H0 F H : Hp) (C : Option Addr) (v : V) (d : D) : Prop :=
  ∃ p vs xs, v = .ref p ∧ d = .lst xs ∧ H0 p = none ∧ H p = some (.lst vs) ∧ F p = none ∧ C ≠ some p ∧ Rps K F C vs xs
section
variable {K : PySem.W.Frag} {H F H1 F1 : Hp} {C C1 : Option Addr} {v : V} {d : D}
theorem RpB.step (r : RpB K F H C v d) (s : Step H F C H1 F1 C1) : RpB K F1 H1 C1 v d := by
  rcases r with r | ⟨p, vs, xs, e1, e2, h, n, r⟩ | ⟨p, vs, ks, ds, e1, e2, h, n, r⟩
  · exact .inl (r.mono s.frz s.cup)
  · refine .inr (.inl ⟨p, vs, xs, e1, e2, s.same p _ n h, fun q => ?_, r.mono s.frz s.cup⟩)
    rcases s.cupN p q with q | q
    · exact n q
    · rw [q] at h; cases h
  · refine .inr (.inr ⟨p, vs, ks, ds, e1, e2, ?_, fun q => ?_, r.mono s.frz s.cup⟩)
    · rcases h with h | ⟨o, h⟩
      · exact .inl (s.same p _ n h)
      · exact .inr ⟨o, s.same p _ n h⟩
    · rcases s.cupN p q with q | q
      · exact n q
      · rcases h with h | ⟨o, h⟩ <;> (rw [q] at h; cases h)
theorem Rp.step (r : Rp K F C v d) (s : Step H F C H1 F1 C1) : Rp K F1 C1 v d := r.mono s.frz s.cup
/-- what a list's value is -/
theorem RpB.list {xs : List D} (r : RpB K F H C v (.lst xs)) (h : HF H F C) : ∃ p vs, v = .ref p ∧ H p = some (.lst vs) ∧ Rps K F C vs xs := by
  rcases r with r | ⟨p, vs, xs', e1, e2, hp, n, r⟩ | ⟨p, kvs, ks, ds, e1, e2, hp, n, r⟩
  · cases r with
    | lst hs rs => exact ⟨_, _, rfl, h.sub _ _ hs, rs⟩
  · cases e2
    exact ⟨p, vs, e1, hp, r⟩
  · cases e2
theorem RpB.tup {xs : List D} (r : RpB K F H C v (.tup xs)) (h : HF H F C) : ∃ p vs, v = .ref p ∧ SqT K F p vs ∧ SqT K H p vs ∧ Rps K F C vs xs := by
  rcases r with r | ⟨p, vs, xs', e1, e2, hp, n, r⟩ | ⟨p, kvs, ks, ds, e1, e2, hp, n, r⟩
  · cases r with
    | tup hs rs => exact ⟨_, _, rfl, hs, sameT h.sub hs, rs⟩
  · cases e2
  · cases e2
theorem RpB.int {i : Int} (r : RpB K F H C v (.int i)) : v = .int i := by
  rcases r with r | ⟨p, vs, xs', e1, e2, hp, n, r⟩ | ⟨p, kvs, ks, ds, e1, e2, hp, n, r⟩
  · cases r; rfl
  · cases e2
  · cases e2
theorem RpB.bl {i : Bool} (r : RpB K F H C v (.bl i)) : v = .bl i := by
  rcases r with r | ⟨p, vs, xs', e1, e2, hp, n, r⟩ | ⟨p, kvs, ks, ds, e1, e2, hp, n, r⟩
  · cases r; rfl
  · cases e2
  · cases e2
theorem RpB.str {i : List Nat} (r : RpB K F H C v (.str i)) : v = .str (SS i) := by
  rcases r with r | ⟨p, vs, xs', e1, e2, hp, n, r⟩ | ⟨p, kvs, ks, ds, e1, e2, hp, n, r⟩
  · cases r; rfl
  · cases e2
  · cases e2
theorem RpB.non (r : RpB K F H C v .non) : v = .non := by
  rcases r with r | ⟨p, vs, xs', e1, e2, hp, n, r⟩ | ⟨p, kvs, ks, ds, e1, e2, hp, n, r⟩
  · cases r; rfl
  · cases e2
  · cases e2
theorem RpB.dct {ks ds : List D} (r : RpB K F H C v (.dct ks ds)) : ∃ p kvs, v = .ref p ∧ Rd H p (.dK kvs) ∧ C ≠ some p ∧ KvOk K F C kvs ks ds := by
  rcases r with r | ⟨p, vs, xs', e1, e2, hp, n, r⟩ | ⟨p, kvs, ks', ds', e1, e2, hp, n, r⟩
  · cases r
  · cases e2
  · cases e2
    exact ⟨p, kvs, e1, hp, n, r⟩
end

/-! ### the names -/
/-- lists of one's own within a list -/
inductive NsOk (K : PySem.W.Frag) (B H F : Hp) (C : Option Addr) : List Addr → List (List D) → Prop
  | nil : NsOk K B H F C [] []
  | cons {p : Addr} {ps : List Addr} {vs : List V} {xs : List D} {xss : List (List D)} : H p = some (.lst vs) → Rps K F C vs xs → B p = none → F p = none → C ≠ some p → p ∉ ps → NsOk K B H F C ps xss → NsOk K B H F C (p :: ps) (xs :: xss)
def SlOk (K : PySem.W.Frag) (B H F : Hp) (C : Option Addr) (o : Option (Option V)) : Sl → Prop
  | .no => True
  | .fz d => ∃ v, o = some (some v) ∧ Rp K F C v d
  | .ow xs => ∃ p vs, o = some (some (.ref p)) ∧ H p = some (.lst vs) ∧ Rps K F C vs xs ∧ B p = none ∧ F p = none ∧ C ≠ some p
  | .od ks ds => ∃ p kvs, o = some (some (.ref p)) ∧ H p = some (.dK kvs) ∧ KvOk K F C kvs ks ds ∧ B p = none ∧ F p = none ∧ C ≠ some p
  | .ol ks ds => ∃ p kvs od, o = some (some (.ref p)) ∧ H p = some (.frz od (.dK kvs)) ∧ KvOk K F C kvs ks ds ∧ B p = none ∧ F p = none ∧ C ≠ some p
  | .on xss => ∃ (p : Addr) (ps : List Addr), o = some (some (.ref p)) ∧ H p = some (.lst (ps.map V.ref)) ∧ B p = none ∧ F p = none ∧ C ≠ some p ∧ p ∉ ps ∧ NsOk K B H F C ps xss
/-- what a name owns -/
def Own (H : Hp) (o : Option (Option V)) : Sl → Addr → Prop
  | .no, _ => False
  | .fz _, _ => False
  | .ow _, a => o = some (some (.ref a))
  | .od _ _, a => o = some (some (.ref a))
  | .ol _ _, a => o = some (some (.ref a))
  | .on _, a => ∃ (p : Addr) (ps : List Addr), o = some (some (.ref p)) ∧ H p = some (.lst (ps.map V.ref)) ∧ (a = p ∨ a ∈ ps)
theorem refs_inj : ∀ {ps qs : List Addr}, ps.map V.ref = qs.map V.ref → ps = qs
  | [], [], _ => rfl
  | [], _ :: _, e => nomatch e
  | _ :: _, [], e => nomatch e
  | p :: ps, q :: qs, e => by
    simp only [List.map_cons, List.cons.injEq, V.ref.injEq] at e
    rw [e.1, refs_inj e.2]
section
variable {K : PySem.W.Frag} {B H F H1 F1 B1 : Hp} {C C1 : Option Addr} {o : Option (Option V)} {s : Sl}
theorem NsOk.mem : ∀ {ps : List Addr} {xss : List (List D)}, NsOk K B H F C ps xss → ∀ a, a ∈ ps → (∃ vs, H a = some (.lst vs)) ∧ B a = none ∧ F a = none ∧ C ≠ some a
  | _, _, .nil, a, h => nomatch h
  | _, _, .cons hp r b f c n t, a, h => by
    rcases List.mem_cons.mp h with e | h
    · subst e; exact ⟨⟨_, hp⟩, b, f, c⟩
    · exact t.mem a h
theorem NsOk.keep : ∀ {ps : List Addr} {xss : List (List D)}, NsOk K B H F C ps xss → (∀ a, a ∈ ps → H1 a = H a) → (∀ a, a ∈ ps → B1 a = none) → (∀ a, a ∈ ps → F1 a = none) → (∀ a, a ∈ ps → C1 ≠ some a) → Same F F1 → (∀ c, C = some c → C1 = some c) → NsOk K B1 H1 F1 C1 ps xss
  | _, _, .nil, _, _, _, _, _, _ => .nil
  | _, _, .cons hp r b f c n t, h1, h2, h3, h4, sF, sC => .cons (by rw [h1 _ List.mem_cons_self]; exact hp) (r.mono sF sC) (h2 _ List.mem_cons_self) (h3 _ List.mem_cons_self) (h4 _ List.mem_cons_self) n
      (t.keep (fun a ha => h1 a (List.mem_cons_of_mem _ ha)) (fun a ha => h2 a (List.mem_cons_of_mem _ ha)) (fun a ha => h3 a (List.mem_cons_of_mem _ ha)) (fun a ha => h4 a (List.mem_cons_of_mem _ ha)) sF sC)
theorem SlOk.facts (h : SlOk K B H F C o s) {a : Addr} (w : Own H o s a) : B a = none ∧ F a = none ∧ C ≠ some a ∧ ∃ u, H a = some u := by
  cases s with
  | no => exact w.elim
  | fz d => exact w.elim
  | ow xs =>
    obtain ⟨p, vs, e, hp, r, b, f, c⟩ := h
    rw [show o = some (some (.ref a)) from w] at e
    cases e
    exact ⟨b, f, c, _, hp⟩
  | od ks ds =>
    obtain ⟨p, vs, e, hp, r, b, f, c⟩ := h
    rw [show o = some (some (.ref a)) from w] at e
    cases e
    exact ⟨b, f, c, _, hp⟩
  | ol ks ds =>
    obtain ⟨p, vs, od, e, hp, r, b, f, c⟩ := h
    rw [show o = some (some (.ref a)) from w] at e
    cases e
    exact ⟨b, f, c, _, hp⟩
  | on xss =>
    obtain ⟨p, ps, e, hp, b, f, c, n, t⟩ := h
    obtain ⟨p', ps', e', hp', w⟩ := w
    rw [e] at e'
    cases e'
    rw [hp] at hp'
    have := refs_inj (HO.lst.inj (Option.some.inj hp'))
    subst this
    rcases w with w | w
    · subst w; exact ⟨b, f, c, _, hp⟩
    · obtain ⟨⟨vs, x⟩, y⟩ := t.mem a w
      exact ⟨y.1, y.2.1, y.2.2, _, x⟩
theorem SlOk.keep (h : SlOk K B H F C o s) (hH : ∀ a, Own H o s a → H1 a = H a) (hB : ∀ a, Own H o s a → B1 a = none) (hF : ∀ a, Own H o s a → F1 a = none) (hC : ∀ a, Own H o s a → C1 ≠ some a) (sF : Same F F1) (sC : ∀ c, C = some c → C1 = some c) : SlOk K B1 H1 F1 C1 o s := by
  cases s with
  | no => trivial
  | fz d => obtain ⟨v, e, r⟩ := h; exact ⟨v, e, r.mono sF sC⟩
  | ow xs =>
    obtain ⟨p, vs, e, hp, r, b, f, c⟩ := h
    have w : Own H o (.ow xs) p := e
    exact ⟨p, vs, e, by rw [hH p w]; exact hp, r.mono sF sC, hB p w, hF p w, hC p w⟩
  | od ks ds =>
    obtain ⟨p, vs, e, hp, r, b, f, c⟩ := h
    have w : Own H o (.od ks ds) p := e
    exact ⟨p, vs, e, by rw [hH p w]; exact hp, r.mono sF sC, hB p w, hF p w, hC p w⟩
  | ol ks ds =>
    obtain ⟨p, vs, od, e, hp, r, b, f, c⟩ := h
    have w : Own H o (.ol ks ds) p := e
    exact ⟨p, vs, od, e, by rw [hH p w]; exact hp, r.mono sF sC, hB p w, hF p w, hC p w⟩
  | on xss =>
    obtain ⟨p, ps, e, hp, b, f, c, n, t⟩ := h
    have w : Own H o (.on xss) p := ⟨p, ps, e, hp, .inl rfl⟩
    have w2 : ∀ a, a ∈ ps → Own H o (.on xss) a := fun a ha => ⟨p, ps, e, hp, .inr ha⟩
    exact ⟨p, ps, e, by rw [hH p w]; exact hp, hB p w, hF p w, hC p w, n, t.keep (fun a ha => hH a (w2 a ha)) (fun a ha => hB a (w2 a ha)) (fun a ha => hF a (w2 a ha)) (fun a ha => hC a (w2 a ha)) sF sC⟩
theorem Own.back (h : SlOk K B H F C o s) (hH : ∀ a, Own H o s a → H1 a = H a) {a : Addr} (w : Own H1 o s a) : Own H o s a := by
  cases s with
  | on xss =>
    obtain ⟨p, ps, e, hp, b, f, c, n, t⟩ := h
    have w0 : Own H o (.on xss) p := ⟨p, ps, e, hp, .inl rfl⟩
    obtain ⟨p', ps', e', hp', w⟩ := w
    rw [e] at e'
    cases e'
    rw [hH p w0] at hp'
    exact ⟨p, ps', e, hp', w⟩
  | _ => exact w
end
structure EnvOk (K : PySem.W.Frag) (B : Hp) (σ : St) (H F : Hp) (C : Option Addr) (ρ : Ev) : Prop where
  hf : HF H F C
  base : Same B H
  cupB : ∀ c, C = some c → B c = none
  len : σ.length = ρ.length
  slot : ∀ (i : Nat) (s : Sl), ρ[i]? = some s → SlOk K B H F C σ[i]? s
  apart : ∀ (i j : Nat) (a : Addr) (s1 s2 : Sl), i ≠ j → ρ[i]? = some s1 → ρ[j]? = some s2 → Own H σ[i]? s1 a → ¬ Own H σ[j]? s2 a
section
variable {K : PySem.W.Frag} {B H F H1 F1 : Hp} {C C1 : Option Addr} {σ : St} {ρ : Ev}
theorem EnvOk.step (h : EnvOk K B σ H F C ρ) (s : Step H F C H1 F1 C1) : EnvOk K B σ H1 F1 C1 ρ := by
  have hH : ∀ (i : Nat) (x : Sl), ρ[i]? = some x → ∀ a, Own H σ[i]? x a → H1 a = H a := fun i x e a w => by
    obtain ⟨_, _, c, u, hu⟩ := (h.slot i x e).facts w
    rw [hu]; exact s.same a u c hu
  refine ⟨s.hf, fun b o e => s.same b o (fun q => ?_) (h.base b o e), fun c e => ?_, h.len, fun i x e => ?_, fun i j a s1 s2 n e1 e2 w1 w2 => ?_⟩
  · rw [h.cupB b q] at e; cases e
  · rcases s.cupN c e with q | q
    · exact h.cupB c q
    · exact h.base.free q
  · refine (h.slot i x e).keep (hH i x e) (fun a w => ((h.slot i x e).facts w).1) (fun a w => ?_) (fun a w => ?_) s.frz s.cup
    · obtain ⟨_, f, c, u, hu⟩ := (h.slot i x e).facts w
      exact s.new a (by rw [hu]; simp) f
    · obtain ⟨_, f, c, u, hu⟩ := (h.slot i x e).facts w
      intro q
      rcases s.cupN a q with q | q
      · exact c q
      · rw [q] at hu; cases hu
  · exact h.apart i j a s1 s2 n e1 e2 (Own.back (h.slot i s1 e1) (hH i s1 e1) w1) (Own.back (h.slot j s2 e2) (hH j s2 e2) w2)
/-- a name gets a value -/
theorem EnvOk.upd1 (h : EnvOk K B σ H F C ρ) {i : Nat} {o : Option V} {s : Sl} (hs : SlOk K B H F C (some o) s) (no : ∀ (j : Nat) (a : Addr) (s2 : Sl), i ≠ j → ρ[j]? = some s2 → Own H (some o) s a → ¬ Own H σ[j]? s2 a) : EnvOk K B (σ.set i o) H F C (ρ.set i s) := by
  have key : ∀ (k : Nat) (x : Sl), (ρ.set i s)[k]? = some x → (i = k ∧ x = s ∧ (σ.set i o)[k]? = some o) ∨ (i ≠ k ∧ ρ[k]? = some x ∧ (σ.set i o)[k]? = σ[k]?) := fun k x e => by
    by_cases hk : i = k
    · subst hk
      have hi : i < ρ.length := by
        have := (List.getElem?_eq_some_iff.mp e).1
        simpa using this
      rw [List.getElem?_set_self hi] at e
      exact .inl ⟨rfl, (Option.some.inj e).symm, List.getElem?_set_self (by rw [h.len]; exact hi)⟩
    · rw [List.getElem?_set_ne hk] at e
      exact .inr ⟨hk, e, List.getElem?_set_ne hk⟩
  refine ⟨h.hf, h.base, h.cupB, by simpa using h.len, fun j x e => ?_, fun j k a s1 s2 n e1 e2 w1 w2 => ?_⟩
  · rcases key j x e with ⟨_, rfl, q⟩ | ⟨_, e, q⟩
    · rw [q]; exact hs
    · rw [q]; exact h.slot j x e
  · rcases key j s1 e1 with ⟨a1, a2, a3⟩ | ⟨a1, a2, a3⟩ <;> rcases key k s2 e2 with ⟨b1, b2, b3⟩ | ⟨b1, b2, b3⟩
    · exact n (a1.symm.trans b1)
    · subst a2
      rw [a3] at w1
      rw [b3] at w2
      exact no k a s2 b1 b2 w1 w2
    · subst b2
      rw [a3] at w1
      rw [b3] at w2
      exact no j a s1 a1 a2 w2 w1
    · rw [a3] at w1
      rw [b3] at w2
      exact h.apart j k a s1 s2 n a2 b2 w1 w2
theorem EnvOk.set (h : EnvOk K B σ H F C ρ) {i : Nat} {v : V} {d : D} (r : Rp K F C v d) : EnvOk K B (σ.set i (some v)) H F C (ρ.set i (.fz d)) := h.upd1 ⟨v, rfl, r⟩ fun _ _ _ _ _ w => w.elim
theorem EnvOk.setNo (h : EnvOk K B σ H F C ρ) {i : Nat} {o : Option V} : EnvOk K B (σ.set i o) H F C (ρ.set i .no) := h.upd1 trivial fun _ _ _ _ _ w => w.elim
theorem EnvOk.wipe : ∀ (vs : List Nat) {σ : St} {ρ : Ev}, EnvOk K B σ H F C ρ → EnvOk K B (L2.wipe σ vs) H F C (WK.wipe ρ vs)
  | [], _, _, h => h
  | i :: vs, _, _, h => (EnvOk.wipe vs h).setNo (i := i) (o := none)
/-- nobody owns it -/
def NoOwn (H : Hp) (σ : St) (ρ : Ev) (p : Addr) : Prop := ∀ (j : Nat) (s2 : Sl), ρ[j]? = some s2 → ¬ Own H σ[j]? s2 p
/-- what was not there, nobody owns -/
theorem EnvOk.noOwn (h : EnvOk K B σ H F C ρ) (s : Step H F C H1 F1 C1) {p : Addr} (np : H p = none) : NoOwn H1 σ ρ p := fun j s2 e w => by
  have w0 := Own.back (h.slot j s2 e) (fun a w => by
    obtain ⟨_, _, c, u, hu⟩ := (h.slot j s2 e).facts w
    rw [hu]; exact s.same a u c hu) w
  obtain ⟨_, _, _, u, hu⟩ := (h.slot j s2 e).facts w0
  rw [np] at hu
  cases hu
theorem NoOwn.set {p : Addr} {i : Nat} {v : V} {d : D} (no : NoOwn H σ ρ p) : NoOwn H (σ.set i (some v)) (ρ.set i (.fz d)) p := fun j s2 e => by
  by_cases hj : i = j
  · subst hj
    by_cases hi : i < ρ.length
    · rw [List.getElem?_set_self hi] at e
      cases e
      exact fun w => w
    · rw [List.getElem?_eq_none (by simpa using hi)] at e
      cases e
  · rw [List.getElem?_set_ne hj] at e ⊢
    exact no j s2 e
/-- a new list becomes a name's own -/
theorem EnvOk.setOwn (h : EnvOk K B σ H F C ρ) {i : Nat} {p : Addr} {vs : List V} {xs : List D} (hp : H p = some (.lst vs)) (r : Rps K F C vs xs) (b : B p = none) (f : F p = none) (c : C ≠ some p)
    (no : NoOwn H σ ρ p) : EnvOk K B (σ.set i (some (.ref p))) H F C (ρ.set i (.ow xs)) :=
  h.upd1 ⟨p, vs, rfl, hp, r, b, f, c⟩ fun j a s2 _ e w => by
    have w : some (some (V.ref p)) = some (some (V.ref a)) := w
    cases w
    exact no j s2 e
/-- a new dict becomes a name's own -/
theorem EnvOk.setOwnD (h : EnvOk K B σ H F C ρ) {i : Nat} {p : Addr} {kvs : List (Key × V)} {ks ds : List D} (hp : H p = some (.dK kvs)) (r : KvOk K F C kvs ks ds) (b : B p = none) (f : F p = none) (c : C ≠ some p)
    (no : NoOwn H σ ρ p) : EnvOk K B (σ.set i (some (.ref p))) H F C (ρ.set i (.od ks ds)) :=
  h.upd1 ⟨p, kvs, rfl, hp, r, b, f, c⟩ fun j a s2 _ e w => by
    have w : some (some (V.ref p)) = some (some (V.ref a)) := w
    cases w
    exact no j s2 e
/-- a thing of a name's own is changed -/
theorem EnvOk.putS (E : EnvOk K B σ H F C ρ) {i : Nat} {s s' : Sl} {p : Addr} {u : HO} (e : ρ[i]? = some s) (w : Own H σ[i]? s p) (hs : SlOk K B (upd H p u) F C σ[i]? s') (back : ∀ a, Own (upd H p u) σ[i]? s' a → Own H σ[i]? s a) :
    EnvOk K B σ (upd H p u) F C (ρ.set i s') := by
  obtain ⟨b, fp, cp, _⟩ := (E.slot i s e).facts w
  have hi : i < ρ.length := (List.getElem?_eq_some_iff.mp e).1
  have oth : ∀ (k : Nat) (x : Sl), i ≠ k → ρ[k]? = some x → ∀ a, Own H σ[k]? x a → upd H p u a = H a := fun k x n ex a wa => by
    rw [upd_ne]
    intro z
    subst z
    exact E.apart i k a s x n e ex w wa
  refine ⟨⟨fun a o z => ?_, fun c z => ?_⟩, fun a o z => ?_, E.cupB, by simpa using E.len, fun k x z => ?_, fun k l a s1 s2 n z1 z2 w1 w2 => ?_⟩
  · rw [upd_ne (ne_of_none z fp)]; exact E.hf.sub a o z
  · obtain ⟨⟨m, n, w⟩, u⟩ := E.hf.cup c z
    exact ⟨⟨m, n, by rw [upd_ne (fun q : c = p => cp (q ▸ z))]; exact w⟩, u⟩
  · rw [upd_ne (ne_of_none z b)]; exact E.base a o z
  · by_cases hk : i = k
    · subst hk
      rw [List.getElem?_set_self hi] at z
      cases z
      exact hs
    · rw [List.getElem?_set_ne hk] at z
      have f := fun a wa => (E.slot k x z).facts (a := a) wa
      exact (E.slot k x z).keep (oth k x hk z) (fun a wa => (f a wa).1) (fun a wa => (f a wa).2.1) (fun a wa => (f a wa).2.2.1) (Same.refl _) (fun _ z => z)
  · have key : ∀ (k : Nat) (x : Sl), (ρ.set i s')[k]? = some x → Own (upd H p u) σ[k]? x a → ∃ x', ρ[k]? = some x' ∧ Own H σ[k]? x' a := fun k x z wz => by
      by_cases hk : i = k
      · subst hk
        rw [List.getElem?_set_self hi] at z
        cases z
        exact ⟨s, e, back a wz⟩
      · rw [List.getElem?_set_ne hk] at z
        exact ⟨x, z, Own.back (E.slot k x z) (oth k x hk z) wz⟩
    obtain ⟨x1, y1, w1⟩ := key k s1 z1 w1
    obtain ⟨x2, y2, w2⟩ := key l s2 z2 w2
    exact E.apart k l a x1 x2 n y1 y2 w1 w2
theorem NsOk.frz {F' : Hp} (sm : Same F F') : ∀ {ps : List Addr} {xss : List (List D)}, NsOk K B H F C ps xss → (∀ a, a ∈ ps → F' a = H a) → Rps K F' C (ps.map V.ref) (xss.map .lst)
  | _, _, .nil, _ => .nil
  | _, _, .cons hp r b f c n t, h => .cons (.lst (by rw [h _ List.mem_cons_self]; exact hp) (r.mono sm fun _ z => z)) (t.frz sm fun a ha => h a (List.mem_cons_of_mem _ ha))
/-- a name's own list becomes one that nobody changes any more -/
theorem EnvOk.frzS (h : EnvOk K B σ H F C ρ) {i : Nat} {s : Sl} {d : D} (e : ρ[i]? = some s) (hd : ∀ F', Same F F' → (∀ a, Own H σ[i]? s a → F' a = H a) → ∃ v, σ[i]? = some (some v) ∧ Rp K F' C v d) :
    ∃ F', EnvOk K B σ H F' C (ρ.set i (.fz d)) ∧ Same F F' ∧ ∀ b, B b ≠ none → F b = none → F' b = none := by
  classical
  let F' : Hp := fun a => if Own H σ[i]? s a then H a else F a
  have hF : ∀ a, Own H σ[i]? s a → F' a = H a := fun a w => if_pos w
  have hN : ∀ a, ¬ Own H σ[i]? s a → F' a = F a := fun a w => if_neg w
  have fa := fun a (w : Own H σ[i]? s a) => (h.slot i s e).facts w
  have sm : Same F F' := fun a o z => by
    rw [hN a fun w => by rw [(fa a w).2.1] at z; cases z]
    exact z
  have hi : i < ρ.length := (List.getElem?_eq_some_iff.mp e).1
  refine ⟨F', ⟨⟨fun a o q => ?_, fun a q => ⟨(h.hf.cup a q).1, ?_⟩⟩, h.base, h.cupB, by simpa using h.len, fun j x q => ?_, fun j k a s1 s2 n e1 e2 w1 w2 => ?_⟩, sm, fun a n q => ?_⟩
  · by_cases w : Own H σ[i]? s a
    · rw [hF a w] at q; exact q
    · rw [hN a w] at q; exact h.hf.sub a o q
  · rw [hN a fun w => (fa a w).2.2.1 q]; exact (h.hf.cup a q).2
  · by_cases hj : i = j
    · subst hj
      rw [List.getElem?_set_self hi] at q
      cases q
      exact hd F' sm hF
    · rw [List.getElem?_set_ne hj] at q
      have f := fun a wa => (h.slot j x q).facts (a := a) wa
      refine (h.slot j x q).keep (fun _ _ => rfl) (fun a wa => (f a wa).1) (fun a wa => ?_) (fun a wa => (f a wa).2.2.1) sm (fun _ z => z)
      rw [hN a fun w => h.apart i j a s x hj e q w wa]
      exact (f a wa).2.1
  · have key : ∀ (k : Nat) (x : Sl), (ρ.set i (.fz d))[k]? = some x → Own H σ[k]? x a → ρ[k]? = some x := fun k x z wz => by
      by_cases hk : i = k
      · subst hk
        rw [List.getElem?_set_self hi] at z
        cases z
        exact wz.elim
      · rw [List.getElem?_set_ne hk] at z
        exact z
    exact h.apart j k a s1 s2 n (key j s1 e1 w1) (key k s2 e2 w2) w1 w2
  · rw [hN a fun w => n (fa a w).1]; exact q
theorem EnvOk.freeze (h : EnvOk K B σ H F C ρ) (i : Nat) : ∃ F', EnvOk K B σ H F' C (frz i ρ) ∧ Same F F' ∧ ∀ b, B b ≠ none → F b = none → F' b = none := by
  unfold frz
  cases e : ρ[i]? with
  | none => exact ⟨F, h, Same.refl _, fun _ _ z => z⟩
  | some s =>
    cases s with
    | no => exact ⟨F, h, Same.refl _, fun _ _ z => z⟩
    | fz d => exact ⟨F, h, Same.refl _, fun _ _ z => z⟩
    | od ks ds => exact ⟨F, h, Same.refl _, fun _ _ z => z⟩
    | ol ks ds => exact ⟨F, h, Same.refl _, fun _ _ z => z⟩
    | ow xs =>
      obtain ⟨p, vs, e1, hp, r, b, f, c⟩ := h.slot i _ e
      exact h.frzS e fun F' sm hF => ⟨.ref p, e1, .lst (by rw [hF p e1]; exact hp) (r.mono sm fun _ z => z)⟩
    | on xss =>
      obtain ⟨p, ps, e1, hp, b, f, c, n, t⟩ := h.slot i _ e
      exact h.frzS e fun F' sm hF => ⟨.ref p, e1, .lst (by rw [hF p ⟨p, ps, e1, hp, .inl rfl⟩]; exact hp) (t.frz sm fun a ha => hF a ⟨p, ps, e1, hp, .inr ha⟩)⟩
end

/-! ### the judgements -/
abbrev RK := PySem.W.Frag → Hp → Hp → Hp → Option Addr → V → D → Prop
abbrev RF : RK := fun K _ F _ C v d => Rp K F C v d
abbrev RB : RK := fun K _ F H C v d => RpB K F H C v d
abbrev RN : RK := fun K H0 F H C v d => RpN K H0 F H C v d
def tG (K : PySem.W.Frag) (R : RK) (f : FE) : TE := fun σ H Q => ∃ B F C ρ, EnvOk K B σ H F C ρ ∧ (f ρ).All fun d => ∀ v H' F' C', Step H F C H' F' C' → R K H F' H' C' v d → Q v H'
abbrev CG (X : Cx) (R : RK) (e : Expr) (f : FE) : Prop := PE X e (tG X.K R f)
abbrev CF (X : Cx) : Expr → FE → Prop := CG X RF
abbrev CB (X : Cx) : Expr → FE → Prop := CG X RB
abbrev CN (X : Cx) : Expr → FE → Prop := CG X RN
theorem pe_mono {X : Cx} {e : Expr} {t t' : TE} (h : PE X e t) (i : ∀ σ H Q, t' σ H Q → t σ H Q) : PE X e t' := ⟨fun pins s σ H Q I q => h.run pins s σ H Q I (i σ H Q q)⟩
theorem pt_mono {X : Cx} {e : Expr} {t t' : TT} (h : PT X e t) (i : ∀ σ H Q, t' σ H Q → t σ H Q) : PT X e t' := ⟨fun pins s σ H Q I q => h.run pins s σ H Q I (i σ H Q q)⟩
theorem pw_mono {X : Cx} {e : Expr} {t t' : TT} (h : PW X e t) (i : ∀ σ H Q, t' σ H Q → t σ H Q) : PW X e t' := ⟨fun wh pins s σ H Q I q => h.run wh pins s σ H Q I (i σ H Q q)⟩
theorem pa_mono {X : Cx} {e : List Expr} {t t' : TA} (h : PA X e t) (i : ∀ σ H Q, t' σ H Q → t σ H Q) : PA X e t' := ⟨fun pos pins s σ H Q I q => h.run pos pins s σ H Q I (i σ H Q q)⟩
theorem ps_mono {X : Cx} {e : Stmt} {t t' : TS} (h : PS X e t) (i : ∀ D σ H, t' D σ H → t D σ H) : PS X e t' := ⟨fun pins s σ H D I q => h.run pins s σ H D I (i D σ H q)⟩
theorem pss_mono {X : Cx} {e : List Stmt} {t t' : TS} (h : PSs X e t) (i : ∀ D σ H, t' D σ H → t D σ H) : PSs X e t' := ⟨fun pins s σ H D I q => h.run pins s σ H D I (i D σ H q)⟩
theorem pg_mono {X : Cx} {e : Expr} {t t' : TG} (h : PG X e t) (i : ∀ v σ H Q, t' v σ H Q → t v σ H Q) : PG X e t' := ⟨fun pins s σ H v u Q I r q => h.run pins s σ H v u Q I r (i v σ H Q q)⟩
theorem pi_mono {X : Cx} {tg e : Expr} {t t' : TI} (h : PI X tg e t) (i : ∀ σ H R, t' σ H R → t σ H R) : PI X tg e t' := ⟨fun pins s σ H R I q => h.run pins s σ H R I (i σ H R q)⟩
section
variable {X : Cx} {e : Expr} {f : FE}
theorem CG.weak {R R' : RK} (h : CG X R e f) (w : ∀ K H F C H' F' C' v d, Step H F C H' F' C' → R K H F' H' C' v d → ∃ F'', Step H F C H' F'' C' ∧ R' K H F'' H' C' v d) : CG X R' e f :=
  pe_mono h fun σ H Q ⟨B, F, C, ρ, E, q⟩ => ⟨B, F, C, ρ, E, q.mono fun d k v H' F' C' s r => by
    obtain ⟨F'', s', r'⟩ := w _ _ _ _ _ _ _ _ _ s r
    exact k v H' F'' C' s' r'⟩
theorem CF.cb (h : CF X e f) : CB X e f := CG.weak h fun _ _ _ _ _ F' _ _ _ s r => ⟨F', s, .inl r⟩
theorem CN.cf (h : CN X e f) : CF X e f := CG.weak h fun _ _ _ _ _ F' _ _ _ s r => by
  obtain ⟨p, vs, xs, rfl, rfl, np, hp, fp, cp, rs⟩ := r
  exact ⟨upd F' p (.lst vs), s.freeze np hp fp cp, .lst upd_same (rs.mono (upd_sub fp) fun _ z => z)⟩
theorem CN.cb (h : CN X e f) : CB X e f := (CN.cf h).cb
end
end WK
end

section
set_option Elab.async false
set_option linter.all false
set_option maxRecDepth 100000
/-! Expressions. -/
namespace WK
open PySem L2

/-! ### data -/
mutual
def toPy : D → PyData
  | .non => .none
  | .bl b => .bool b
  | .int i => .int i
  | .str s => .str (SS s)
  | .tup xs => .tuple (toPys xs)
  | .lst xs => .list (toPys xs)
  | .cup => .none
  | .scr => .none
  | .dct _ _ => .none
def toPys : List D → List PyData
  | [] => []
  | x :: xs => toPy x :: toPys xs
end
theorem ok_cons {n : Nat} {x : D} {xs : List D} (h : (x :: xs).all (D.ok n) = true) : D.ok n x = true ∧ xs.all (D.ok n) = true := by
  rw [List.all_cons, Bool.and_eq_true] at h
  exact h
mutual
theorem plain_ok : ∀ (d : D) (n : Nat), D.ok n d = true → (toPy d).plain = true ∧ (toPy d).depth ≤ n
  | .non, n, h => ⟨rfl, by simp [toPy, PyData.depth]⟩
  | .bl _, n, h => ⟨rfl, by simp [toPy, PyData.depth]⟩
  | .int _, n, h => ⟨rfl, by simp [toPy, PyData.depth]⟩
  | .str _, n, h => ⟨rfl, by simp [toPy, PyData.depth]⟩
  | .tup xs, 0, h => by simp [D.ok] at h
  | .tup xs, n + 1, h => by
    have h' : xs.all (D.ok n) = true := by simpa [D.ok] using h
    obtain ⟨a, b⟩ := plain_oks xs n h'
    exact ⟨by simpa [toPy, PyData.plain] using a, by simp only [toPy, PyData.depth]; omega⟩
  | .lst xs, 0, h => by simp [D.ok] at h
  | .lst xs, n + 1, h => by
    have h' : xs.all (D.ok n) = true := by simpa [D.ok] using h
    obtain ⟨a, b⟩ := plain_oks xs n h'
    exact ⟨by simpa [toPy, PyData.plain] using a, by simp only [toPy, PyData.depth]; omega⟩
  | .cup, n, h => by cases n <;> simp [D.ok] at h
  | .scr, n, h => by cases n <;> simp [D.ok] at h
  | .dct _ _, n, h => by cases n <;> simp [D.ok] at h
theorem plain_oks : ∀ (xs : List D) (n : Nat), xs.all (D.ok n) = true → PyData.plainAll (toPys xs) = true ∧ PyData.depthAll (toPys xs) ≤ n
  | [], n, h => ⟨rfl, by simp [toPys, PyData.depthAll]⟩
  | x :: xs, n, h => by
    obtain ⟨h1, h2⟩ := ok_cons h
    obtain ⟨a, b⟩ := plain_ok x n h1
    obtain ⟨c, d⟩ := plain_oks xs n h2
    exact ⟨by simp [toPys, PyData.plainAll, a, c], by simp only [toPys, PyData.depthAll]; omega⟩
end
theorem ss_beq (x y : List Nat) : (SS x == SS y) = (x == y) := by
  rw [Bool.eq_iff_iff]
  simp [SS]
mutual
theorem eqv_toPy : ∀ (a b : D) (n m : Nat), D.ok n a = true → D.ok m b = true → PyData.eqv (toPy a) (toPy b) = D.eq a b
  | .non, b, n, m, h, k => by cases b <;> first | rfl | (cases m <;> simp [D.ok] at k)
  | .bl x, b, n, m, h, k => by cases b <;> first | rfl | (cases m <;> simp [D.ok] at k)
  | .int x, b, n, m, h, k => by cases b <;> first | rfl | (cases m <;> simp [D.ok] at k)
  | .str x, b, n, m, h, k => by
    cases b with
    | str y => simp only [toPy, PyData.eqv, D.eq, ss_beq]
    | cup => cases m <;> simp [D.ok] at k
    | scr => cases m <;> simp [D.ok] at k
    | dct => cases m <;> simp [D.ok] at k
    | _ => rfl
  | .tup xs, b, n, m, h, k => by
    cases b with
    | tup ys =>
      cases n with
      | zero => simp [D.ok] at h
      | succ n =>
        cases m with
        | zero => simp [D.ok] at k
        | succ m =>
          simp only [toPy, PyData.eqv, D.eq]
          exact eqv_toPys xs ys n m (by simpa [D.ok] using h) (by simpa [D.ok] using k)
    | cup => cases m <;> simp [D.ok] at k
    | scr => cases m <;> simp [D.ok] at k
    | dct => cases m <;> simp [D.ok] at k
    | _ => rfl
  | .lst xs, b, n, m, h, k => by
    cases b with
    | lst ys =>
      cases n with
      | zero => simp [D.ok] at h
      | succ n =>
        cases m with
        | zero => simp [D.ok] at k
        | succ m =>
          simp only [toPy, PyData.eqv, D.eq]
          exact eqv_toPys xs ys n m (by simpa [D.ok] using h) (by simpa [D.ok] using k)
    | cup => cases m <;> simp [D.ok] at k
    | scr => cases m <;> simp [D.ok] at k
    | dct => cases m <;> simp [D.ok] at k
    | _ => rfl
  | .cup, b, n, m, h, k => by cases n <;> simp [D.ok] at h
  | .scr, b, n, m, h, k => by cases n <;> simp [D.ok] at h
  | .dct _ _, b, n, m, h, k => by cases n <;> simp [D.ok] at h
theorem eqv_toPys : ∀ (xs ys : List D) (n m : Nat), xs.all (D.ok n) = true → ys.all (D.ok m) = true → PyData.eqvAll (toPys xs) (toPys ys) = D.eqs xs ys
  | [], [], _, _, _, _ => rfl
  | [], _ :: _, _, _, _, _ => rfl
  | _ :: _, [], _, _, _, _ => rfl
  | x :: xs, y :: ys, n, m, h, k => by
    simp only [toPys, PyData.eqvAll, D.eqs]
    rw [eqv_toPy x y n m (ok_cons h).1 (ok_cons k).1, eqv_toPys xs ys n m (ok_cons h).2 (ok_cons k).2]
end

section
variable {X : Cx} {pins : List (Addr × Obj)} {σ : St} {H F : Hp} {C : Option Addr} {s : Shared}
mutual
theorem Rp.reads (I : Inv X pins σ H s) (hF : Same F H) : ∀ (d : D) (v : V) (u : Value) (n : Nat), D.ok n d = true → Rp X.K F C v d → RelV v u → ∃ as, Reads s.heap u (toPy d) as
  | .non, _, _, _, _, h, r => by cases h; cases r; exact ⟨_, Reads.none⟩
  | .bl b, _, _, _, _, h, r => by cases h; cases r; exact ⟨_, Reads.bool b⟩
  | .int i, _, _, _, _, h, r => by cases h; obtain ⟨t, rfl⟩ := r; exact ⟨_, Reads.int i t⟩
  | .str i, _, _, _, _, h, r => by cases h; obtain ⟨t, rfl⟩ := r; exact ⟨_, Reads.str _ t⟩
  | .tup ds, _, _, 0, ok, h, r => by simp [D.ok] at ok
  | .tup ds, _, _, n + 1, ok, h, r => by
    cases h with
    | tup hs ha =>
      cases r
      obtain ⟨its, rv, ⟨o, ho, hc, k, hd⟩, _⟩ := I.tuple (sameT hF hs)
      obtain ⟨as, hr⟩ := Rps.readsAll I hF ds _ its n (by simpa [D.ok] using ok) ha rv
      exact ⟨_, Reads.tuple ho hc hd hr⟩
  | .lst ds, _, _, 0, ok, h, r => by simp [D.ok] at ok
  | .lst ds, _, _, n + 1, ok, h, r => by
    cases h with
    | lst hs ha =>
      cases r
      obtain ⟨its, rv, ⟨o, k, ho, hc, _, hd⟩, _⟩ := I.list (.of (hF _ _ hs))
      obtain ⟨as, hr⟩ := Rps.readsAll I hF ds _ its n (by simpa [D.ok] using ok) ha rv
      exact ⟨_, Reads.list ho hc hd hr⟩
  | .cup, _, _, n, ok, _, _ => by cases n <;> simp [D.ok] at ok
  | .scr, _, _, n, ok, _, _ => by cases n <;> simp [D.ok] at ok
  | .dct _ _, _, _, n, ok, _, _ => by cases n <;> simp [D.ok] at ok
theorem Rps.readsAll (I : Inv X pins σ H s) (hF : Same F H) : ∀ (ds : List D) (vs : List V) (us : List Value) (n : Nat), ds.all (D.ok n) = true → Rps X.K F C vs ds → Vals vs us → ∃ as, ReadsAll s.heap us (toPys ds) as
  | [], _, _, _, _, h, r => by cases h; cases r; exact ⟨_, ReadsAll.nil⟩
  | d :: ds, _, _, n, ok, h, r => by
    cases h with
    | cons h1 h2 =>
      cases r with
      | cons r1 r2 =>
        obtain ⟨as, q1⟩ := Rp.reads I hF d _ _ n (ok_cons ok).1 h1 r1
        obtain ⟨bs, q2⟩ := Rps.readsAll I hF ds _ _ n (ok_cons ok).2 h2 r2
        exact ⟨_, ReadsAll.cons q1 q2⟩
end
theorem RpB.reads (I : Inv X pins σ H s) (hf : HF H F C) {d : D} {v : V} {u : Value} {n : Nat} (ok : D.ok n d = true) (h : RpB X.K F H C v d) (r : RelV v u) : ∃ as, Reads s.heap u (toPy d) as := by
  rcases h with h | ⟨p, vs, xs, rfl, rfl, hp, c, rs⟩ | ⟨p, vs, ks, ds, rfl, rfl, hp, c, rs⟩
  · exact h.reads I hf.sub d v u n ok r
  · cases n with
    | zero => simp [D.ok] at ok
    | succ n =>
      cases r
      obtain ⟨its, rv, ⟨o, k, ho, hc, _, hd⟩, _⟩ := I.list (.of hp)
      obtain ⟨as, hr⟩ := Rps.readsAll I hf.sub xs _ its n (by simpa [D.ok] using ok) rs rv
      exact ⟨_, Reads.list ho hc hd hr⟩
  · cases n <;> simp [D.ok] at ok
end

/-! ### operators: what the values' operation g promises -/
def rG (K : PySem.W.Frag) (g : D → D → M D) : R2 := fun x y H Q => ∃ F C a b, HF H F C ∧ RpB K F H C x a ∧ RpB K F H C y b ∧ (g a b).All fun d => ∀ v H' F' C', Step H F C H' F' C' → Rp K F' C' v d → Q v H'
abbrev OG (X : Cx) (f : Value → Value → Sem Value) (g : D → D → M D) : Prop := OpR X f (rG X.K g)
/-- .. where it makes a new list -/
def rN (K : PySem.W.Frag) (g : D → D → M D) : R2 := fun x y H Q => ∃ F C a b, HF H F C ∧ RpB K F H C x a ∧ RpB K F H C y b ∧ (g a b).All fun d => ∀ v H' F' C', Step H F C H' F' C' → RpN K H F' H' C' v d → Q v H'
abbrev ON (X : Cx) (f : Value → Value → Sem Value) (g : D → D → M D) : Prop := OpR X f (rN X.K g)
theorem opr_mono {X : Cx} {f : Value → Value → Sem Value} {r r' : R2} (h : OpR X f r) (i : ∀ x y H Q, r' x y H Q → r x y H Q) : OpR X f r' := fun pins s σ H x y v u Q I rx ry q => h pins s σ H x y v u Q I rx ry (i x y H Q q)

section
variable {X : Cx} {K : PySem.W.Frag} {H F : Hp} {C : Option Addr}
/-- an answer that is no new thing -/
theorem out {Q : VK} {d : D} {v : V} (hf : HF H F C) (h : (M.ret d).All fun d => ∀ v H' F' C', Step H F C H' F' C' → Rp K F' C' v d → Q v H') (r : Rp K F C v d) : Q v H := h v H F C hf.refl r
/-- a new tuple, a new list -/
theorem outT {Q : VK} {ds : List D} {vs : List V} (hf : HF H F C) (h : (M.ret (.tup ds)).All fun d => ∀ v H' F' C', Step H F C H' F' C' → Rp K F' C' v d → Q v H') (r : Rps K F C vs ds) : ∀ p, H p = none → Q (.ref p) (upd H p (.tup vs)) :=
  fun p np => h _ _ _ _ (hf.laidF np) (.tup (.of upd_same) (r.mono (upd_sub (hf.notNew np).1) fun _ z => z))
theorem outL {Q : VK} {ds : List D} {vs : List V} (hf : HF H F C) (h : (M.ret (.lst ds)).All fun d => ∀ v H' F' C', Step H F C H' F' C' → Rp K F' C' v d → Q v H') (r : Rps K F C vs ds) : ∀ p, H p = none → Q (.ref p) (upd H p (.lst vs)) :=
  fun p np => h _ _ _ _ (hf.laidF np) (.lst upd_same (r.mono (upd_sub (hf.notNew np).1) fun _ z => z))
theorem outN {Q : VK} {ds : List D} {vs : List V} (hf : HF H F C) (h : (M.ret (.lst ds)).All fun d => ∀ v H' F' C', Step H F C H' F' C' → RpN K H F' H' C' v d → Q v H') (r : Rps K F C vs ds) : ∀ p, H p = none → Q (.ref p) (upd H p (.lst vs)) :=
  fun p np => h _ _ _ _ (hf.laid np) ⟨p, vs, ds, rfl, rfl, np, upd_same, (hf.notNew np).1, (hf.notNew np).2, r⟩
theorem all_fit {P : D → Prop} {n : Nat} {m : M D} (h : (fit n m).All P) : n ≤ sizeMax ∧ m.All P := by
  unfold fit at h
  split at h
  · exact ⟨by assumption, h⟩
  · exact h.elim
theorem all_if {α : Type} {P : α → Prop} {c : Prop} [Decidable c] {m : M α} (h : (if c then m else .bad).All P) : c ∧ m.All P := by
  split at h
  · exact ⟨by assumption, h⟩
  · exact h.elim
theorem fits {n : Nat} (h : n ≤ sizeMax) : n < sizeLine := Nat.lt_of_le_of_lt h (by decide)
theorem ss_append (a b : List Nat) : SS a ++ SS b = SS (a ++ b) := by
  show Str.mk (a.toArray ++ b.toArray) = Str.mk (a ++ b).toArray
  simp
theorem ss_length (a : List Nat) : (SS a).length = a.length := List.size_toArray

/-- all pairs of kinds but those told are refused -/
theorem og_add : OG X (binaryOp .Add) gAdd := by
  intro pins s σ H x y v u Q I rx ry h
  obtain ⟨F, C, a, b, hf, ra, rb, h⟩ := h
  cases a with
  | int i =>
    cases b with
    | int j =>
      cases ra.int; cases rb.int
      exact op_add pins s σ H _ _ v u Q I rx ry ⟨i, j, rfl, rfl, out hf h (.int _)⟩
    | _ => exact h.elim
  | str i =>
    cases b with
    | str j =>
      cases ra.str; cases rb.str
      obtain ⟨hz, h⟩ := all_fit h
      refine op_add_str pins s σ H _ _ v u Q I rx ry ⟨_, _, rfl, rfl, ?_, ?_⟩
      · rw [ss_length, ss_length]; exact Nat.le_of_lt (fits hz)
      · rw [ss_append]; exact out hf h (.str _)
    | _ => exact h.elim
  | lst xs =>
    cases b with
    | lst ys =>
      obtain ⟨p, vs, rfl, hp, rp⟩ := ra.list hf
      obtain ⟨q, ws, rfl, hq, rq⟩ := rb.list hf
      obtain ⟨hz, h⟩ := all_fit h
      exact op_cat pins s σ H _ _ v u Q I rx ry ⟨p, q, vs, ws, rfl, rfl, hp, hq, by rw [rp.length, rq.length]; exact Nat.le_of_lt (fits hz), outL hf h (rp.append rq)⟩
    | _ => exact h.elim
  | tup xs =>
    cases b with
    | tup ys =>
      obtain ⟨p, vs, rfl, hpF, hp, rp⟩ := ra.tup hf
      obtain ⟨q, ws, rfl, hqF, hq, rq⟩ := rb.tup hf
      obtain ⟨hz, h⟩ := all_fit h
      refine op_catA pins s σ H _ _ v u Q I rx ry ⟨p, q, vs, ws, rfl, rfl, hp, hq, by rw [rp.length, rq.length]; exact Nat.le_of_lt (fits hz), fun e => ?_, fun _ e => ?_, fun _ _ => outT hf h (rp.append rq)⟩
      · subst e; cases rp.nilV; exact out hf h (.tup hqF rq)
      · subst e; cases rq.nilV; rw [List.append_nil] at h; exact out hf h (.tup hpF rp)
    | _ => exact h.elim
  | _ => exact h.elim
/-- a new list of two -/
def gCat : D → D → M D
  | .lst a, .lst b => fit (a.length + b.length) (.ret (.lst (a ++ b)))
  | _, _ => .bad
theorem on_cat : ON X (binaryOp .Add) gCat := by
  intro pins s σ H x y v u Q I rx ry h
  obtain ⟨F, C, a, b, hf, ra, rb, h⟩ := h
  cases a with
  | lst xs =>
    cases b with
    | lst ys =>
      obtain ⟨p, vs, rfl, hp, rp⟩ := ra.list hf
      obtain ⟨q, ws, rfl, hq, rq⟩ := rb.list hf
      obtain ⟨hz, h⟩ := all_fit h
      exact op_cat pins s σ H _ _ v u Q I rx ry ⟨p, q, vs, ws, rfl, rfl, hp, hq, by rw [rp.length, rq.length]; exact Nat.le_of_lt (fits hz), outN hf h (rp.append rq)⟩
    | _ => exact h.elim
  | _ => exact h.elim
theorem og_sub : OG X (binaryOp .Sub) gSub := by
  intro pins s σ H x y v u Q I rx ry h
  obtain ⟨F, C, a, b, hf, ra, rb, h⟩ := h
  cases a with
  | int i =>
    cases b with
    | int j =>
      cases ra.int; cases rb.int
      exact op_sub pins s σ H _ _ v u Q I rx ry ⟨i, j, rfl, rfl, out hf h (.int _)⟩
    | _ => exact h.elim
  | _ => exact h.elim
theorem og_div : OG X (binaryOp .FloorDiv) gDiv := by
  intro pins s σ H x y v u Q I rx ry h
  obtain ⟨F, C, a, b, hf, ra, rb, h⟩ := h
  cases a with
  | int i =>
    cases b with
    | int j =>
      cases ra.int; cases rb.int
      obtain ⟨hc, h⟩ := all_if h
      exact op_fdiv pins s σ H _ _ v u Q I rx ry ⟨i, j, rfl, rfl, ⟨hc.1, by omega⟩, out hf h (.int _)⟩
    | _ => exact h.elim
  | _ => exact h.elim
theorem og_mod : OG X (binaryOp .Mod) gMod := by
  intro pins s σ H x y v u Q I rx ry h
  obtain ⟨F, C, a, b, hf, ra, rb, h⟩ := h
  cases a with
  | int i =>
    cases b with
    | int j =>
      cases ra.int; cases rb.int
      obtain ⟨hc, h⟩ := all_if h
      exact op_mod pins s σ H _ _ v u Q I rx ry ⟨i, j, rfl, rfl, hc, out hf h (.int _)⟩
    | _ => exact h.elim
  | _ => exact h.elim
theorem flat_foldl (a : List Nat) : ∀ (k : Nat) (z : Array Nat), (List.replicate k a.toArray).foldl (· ++ ·) z = z ++ (List.replicate k a).flatten.toArray
  | 0, z => by simp
  | k + 1, z => by
    rw [List.replicate_succ, List.foldl_cons, flat_foldl a k, List.replicate_succ, List.flatten_cons, Array.append_assoc]
    congr 1
    exact Array.ext' (by rw [Array.toList_append])
theorem int_lt_div {l k : Nat} (hk : 1 ≤ k) (h : l * k ≤ 15000000) : ¬ ((l : Int) > (2 ^ 63 - 1) / (k : Int)) := by
  intro q
  have h2 : (l : Int) * (k : Int) ≤ 15000000 := by
    rw [← Int.natCast_mul]
    omega
  have h3 : (l : Int) ≤ (2 ^ 63 - 1) / (k : Int) := by
    rw [Int.le_ediv_iff_mul_le (by omega)]
    omega
  omega
theorem tuple_mulW1 (l : Addr) (items : Array Value) (n : Nat) (dd : Option Addr) (sl : Array (Option Value)) (u : Tok) :
    Meets (Builtin.«tuple.__mul__» ⟨[.ref l, .int 1 u], []⟩) (fun _ R s => s.heap.get? l = some { cls := .type "tuple", dict := dd, data := .seq items n, slots := sl } ∧ R (.ok (.ret (Value.ref l))) s) :=
  .of_wp fun prog w A R s h => by
    obtain ⟨hp, g, d, tk, os⟩ := s
    obtain ⟨hl, h⟩ := h
    have f1 := PySem.AutoSeq1.idx_int
    have c1 : (items.isEmpty || (1 : Int) == 1) = true := by simp
    have c0 : (decide ((1 : Int) < -(2 ^ 63)) || decide ((1 : Int) ≥ 2 ^ 63)) = false := by decide
    wp_walk using wpAny_loadPart' hl
    repeat (first
      | (refine wpAny_ite_false (decide_eq_false (by rw [c0]; exact Bool.false_ne_true)) ?_; wp_walk using wpAny_loadPart' hl)
      | (refine wpAny_ite_true (decide_eq_true c1) ?_; wp_walk using wpAny_loadPart' hl))
    exact ⟨_, rfl, h⟩
theorem og_mulT {pins : List (Addr × Obj)} {s : Shared} {σ : St} {x y : V} {v u : Value} {Q : VK} {xs : List D} {j : Int} (I : Inv X pins σ H s) (rx : RelV x v) (ry : RelV y u) (hf : HF H F C) (ra : RpB X.K F H C x (.tup xs)) (rb : RpB X.K F H C y (.int j))
    (h : (gMul (.tup xs) (.int j)).All fun d => ∀ v H' F' C', Step H F C H' F' C' → Rp X.K F' C' v d → Q v H') : wpAny (model X.prog X.w) X.A (binaryOp .Mult v u) (EP X pins σ Q) X.xe s := by
  obtain ⟨p, vs, rfl, hpF, hp, rp⟩ := ra.tup hf
  cases rb.int
  obtain ⟨⟨h1, h2, h3, h4⟩, h⟩ := all_if h
  by_cases hj : j = 1
  · subst hj
    cases rx
    obtain ⟨t, rfl⟩ := ry
    have e : (List.replicate (1 : Int).toNat xs).flatten = xs := by simp
    rw [e] at h
    obtain ⟨its, r, ⟨⟨cls, dd, data, sl⟩, ho, hc, n, hd⟩, hs⟩ := I.tuple hp
    simp only at hc hd
    subst hc hd
    exact wpAny_binaryOp_repeat_ref (T := "tuple") (U := "int") (by decide) ⟨_, ho, rfl⟩ (fun s' => typeIs_int s' 1 t) noFill_tuple_mul PySem.F.fills_int_mul PySem.F.slot_int_rmul repeat_tuple PySem.F.slot_int_index.lookup
      (call_meets PySem.F.slot_int_rmul (typeIs_int s 1 t) PySem.F.entry_int_rmul (PySem.F.args_int_rmul_2 _ _) (int_rmul_tuple 1 t p its.toArray n dd sl)
        ⟨ho, rfl, ⟨_, ho, rfl⟩, call_meets PySem.F.slot_tuple_mul ⟨_, ho, rfl⟩ PySem.F.entry_tuple_mul (PySem.F.args_tuple_mul_2 _ _) (tuple_mulW1 p its.toArray n dd sl t) ⟨ho, ⟨.ref p, H, I, rfl, out hf h (.tup hpF rp)⟩⟩⟩)
  · refine op_repT pins s σ H _ _ v u Q I rx ry ⟨p, j, vs, rfl, rfl, hp, fun e => ?_, by omega, by omega, by rw [rp.length]; exact h2, outT hf h (rp.flat _)⟩
    subst e
    cases rp.nilV
    simp at h4
theorem og_mul : OG X (binaryOp .Mult) gMul := by
  intro pins s σ H x y v u Q I rx ry h
  obtain ⟨F, C, a, b, hf, ra, rb, h⟩ := h
  cases a with
  | int i =>
    cases b with
    | int j =>
      cases ra.int; cases rb.int
      obtain ⟨hc, h⟩ := all_if h
      refine op_mul pins s σ H _ _ v u Q I rx ry ⟨i, j, rfl, rfl, ?_, out hf h (.int _)⟩
      rw [Bool.or_eq_true] at hc
      rcases hc with hc | hc
      · have hc : i.natAbs < 18446744073709551616 := of_decide_eq_true hc
        exact .inl ⟨by omega, by omega⟩
      · have hc : j.natAbs < 18446744073709551616 := of_decide_eq_true hc
        exact .inr ⟨by omega, by omega⟩
    | _ => exact h.elim
  | str i =>
    cases b with
    | int j =>
      cases ra.str; cases rb.int
      obtain ⟨⟨h1, h2, h3⟩, h⟩ := all_if h
      obtain ⟨t, rfl⟩ := rx
      obtain ⟨t', rfl⟩ := ry
      have q : Q (.str (SS (List.replicate j.toNat i).flatten)) H := out hf h (.str _)
      have hm : i.length * j.toNat ≤ 15000000 := by
        have : i.length * j.toNat ≤ 15 * 1000000 := Nat.mul_le_mul h2 (by omega)
        omega
      refine PySem.P.mul_str ?_ (fun h4 _ => ?_) (fun _ _ => ?_) ?_
      · rw [decide_eq_false (by omega), decide_eq_false (by omega)]; rfl
      · rw [ss_length]
        have := int_lt_div (l := i.length) (k := j.toNat) (by omega) hm
        rw [Int.toNat_of_nonneg h3] at this
        exact this
      · rw [ss_length]
        unfold Builtin.Str.tooLong
        first
          | exact decide_eq_false (by rw [sizeLine_eq]; omega)
          | (simp [sizeLine_eq]; omega)
      · by_cases h0 : j < 1
        · rw [if_pos h0]
          have e : j.toNat = 0 := by omega
          rw [e] at q
          exact ⟨by decide, ⟨.str (SS []), H, I.tok _, ⟨_, rfl⟩, q⟩⟩
        · rw [if_neg h0]
          by_cases h1 : (j == 1 || (SS i).length == 0) = true
          · rw [if_pos h1]
            rw [Bool.or_eq_true] at h1
            have e : (List.replicate j.toNat i).flatten = i := by
              rcases h1 with h1 | h1
              · rw [eq_of_beq h1]; simp
              · have : i.length = 0 := by rw [← ss_length]; exact eq_of_beq h1
                have : i = [] := List.eq_nil_of_length_eq_zero this
                subst this; simp
            rw [e] at q
            exact ⟨.str (SS i), H, I, ⟨_, rfl⟩, q⟩
          · rw [if_neg h1]
            have e : (⟨(List.replicate j.toNat (SS i).cps).foldl (· ++ ·) #[]⟩ : Str) = SS (List.replicate j.toNat i).flatten := by
              show Str.mk ((List.replicate j.toNat i.toArray).foldl (· ++ ·) #[]) = _
              rw [flat_foldl]; simp
            rw [e]
            refine ⟨?_, ⟨.str _, H, I.tok _, ⟨_, rfl⟩, q⟩⟩
            rw [ss_length, List.length_flatten, List.map_replicate, List.sum_replicate_nat, sizeLine_eq, Nat.mul_comm]
            omega
    | _ => exact h.elim
  | lst xs =>
    cases b with
    | int j =>
      obtain ⟨p, vs, rfl, hp, rp⟩ := ra.list hf
      cases rb.int
      obtain ⟨⟨h1, h2, h3⟩, h⟩ := all_if h
      refine op_rep pins s σ H _ _ v u Q I rx ry ⟨p, j, vs, rfl, rfl, hp, by omega, by omega, ?_, outL hf h (rp.flat _)⟩
      rw [rp.length, sizeLine_eq]
      have : xs.length * j.toNat ≤ 15 * 1000000 := Nat.mul_le_mul h2 (by omega)
      omega
    | _ => exact h.elim
  | tup xs =>
    cases b with
    | int j => exact og_mulT I rx ry hf ra rb h
    | _ => exact h.elim
  | _ => exact h.elim
end
end WK
end

section
set_option Elab.async false
set_option linter.all false
set_option maxRecDepth 100000
/-! Comparisons. -/
namespace WK
open PySem L2
section
variable {X : Cx} {K : PySem.W.Frag} {H F : Hp} {C : Option Addr}
theorem units_ok {A : Around} {k : Nat} (hr : Room k A) {da db : PyData} {n m : Nat} (a : da.depth ≤ n) (hn : n ≤ 30) : A.units + min da.depth db.depth < cLine := by
  have h1 := hr.units
  have h2 : min da.depth db.depth ≤ da.depth := Nat.min_le_left _ _
  omega
theorem og_eq {k : Nat} (hr : Room k X.A) : OG X (compareOp .Eq) gEq := by
  intro pins s σ H x y v u Q I rx ry h
  obtain ⟨F, C, a, b, hf, ra, rb, h⟩ := h
  obtain ⟨hc, h⟩ := all_if h
  rw [Bool.and_eq_true] at hc
  obtain ⟨as, r1⟩ := ra.reads I hf hc.1 rx
  obtain ⟨bs, r2⟩ := rb.reads I hf hc.2 ry
  obtain ⟨p1, d1⟩ := plain_ok a _ hc.1
  obtain ⟨p2, d2⟩ := plain_ok b _ hc.2
  refine PySem.SeqAt.eq_plain r1 r2 p1 p2 (units_ok (n := 20) (m := 20) hr d1 (by omega)) ?_
  rw [eqv_toPy a b _ _ hc.1 hc.2]
  exact ⟨.bl _, H, I, rfl, out hf h (.bl _)⟩
theorem og_ne {k : Nat} (hr : Room k X.A) : OG X (compareOp .NotEq) gNe := by
  intro pins s σ H x y v u Q I rx ry h
  obtain ⟨F, C, a, b, hf, ra, rb, h⟩ := h
  obtain ⟨hc, h⟩ := all_if h
  rw [Bool.and_eq_true] at hc
  obtain ⟨as, r1⟩ := ra.reads I hf hc.1 rx
  obtain ⟨bs, r2⟩ := rb.reads I hf hc.2 ry
  obtain ⟨p1, d1⟩ := plain_ok a _ hc.1
  obtain ⟨p2, d2⟩ := plain_ok b _ hc.2
  refine PySem.SeqAt.ne_plain r1 r2 p1 p2 (units_ok (n := 20) (m := 20) hr d1 (by omega)) ?_
  rw [eqv_toPy a b _ _ hc.1 hc.2]
  exact ⟨.bl _, H, I, rfl, out hf h (.bl _)⟩
theorem found_sub (a s : List Nat) : (!(Builtin.Str.occurrences (SS s) (SS a) 0 (SS s).length 1).isEmpty) = subIn a s := by
  rw [Bool.eq_iff_iff, PySem.StrLaws.found_iff]
  unfold subIn
  rw [List.any_eq_true]
  have e : ∀ i, Builtin.Str.subAt (SS s) (SS a) i = ((s.drop i).take a.length == a) := fun i => by
    rw [PySem.StrLaws.subAt_eq]
    simp [SS, Str.length]
  constructor
  · rintro ⟨i, h1, h2⟩
    have h1 : i + a.length ≤ s.length := h1
    rw [e] at h2
    exact ⟨i, List.mem_range.mpr (by omega), by rw [h2, Bool.and_true]; exact decide_eq_true h1⟩
  · rintro ⟨i, _, h⟩
    rw [Bool.and_eq_true] at h
    exact ⟨i, of_decide_eq_true h.1, by rw [e]; exact h.2⟩
theorem og_in {k : Nat} (hr : Room k X.A) : OG X (compareOp .In) gIn := by
  intro pins s σ H x y v u Q I rx ry h
  obtain ⟨F, C, a, b, hf, ra, rb, h⟩ := h
  have seq : ∀ (ds : List D) (b : D), b = .lst ds ∨ b = .tup ds → RpB X.K F H C y b → (if (D.ok 20 a && ds.all (D.ok 20)) = true then M.ret (.bl (ds.any fun y => D.eq y a)) else .bad).All (fun d => ∀ v H' F' C', Step H F C H' F' C' → Rp X.K F' C' v d → Q v H') →
      wpAny (model X.prog X.w) X.A (compareOp .In v u) (EP X pins σ Q) X.xe s := by
    intro ds b hb rb h
    obtain ⟨hc, h⟩ := all_if h
    rw [Bool.and_eq_true] at hc
    obtain ⟨as, r1⟩ := ra.reads I hf hc.1 rx
    obtain ⟨p1, d1⟩ := plain_ok a _ hc.1
    obtain ⟨p2, d2⟩ := plain_oks ds _ hc.2
    have hu : X.A.units + 1 + min (PyData.depthAll (toPys ds)) (toPy a).depth < cLine := by
      have h1 := hr.units
      have h2 : min (PyData.depthAll (toPys ds)) (toPy a).depth ≤ PyData.depthAll (toPys ds) := Nat.min_le_left _ _
      omega
    have e : ((toPys ds).any fun y => PyData.eqv y (toPy a)) = ds.any fun y => D.eq y a := by
      have : ∀ ds : List D, ds.all (D.ok 20) = true → ((toPys ds).any fun y => PyData.eqv y (toPy a)) = ds.any fun y => D.eq y a := by
        intro ds
        induction ds with
        | nil => intro _; rfl
        | cons z zs ih =>
          intro hz
          obtain ⟨z1, z2⟩ := ok_cons hz
          rw [toPys, List.any_cons, List.any_cons, ih z2, eqv_toPy z a _ _ z1 hc.1]
      exact this ds hc.2
    rcases hb with rfl | rfl
    · obtain ⟨bs, r2⟩ := rb.reads (n := 21) I hf (by simpa [D.ok] using hc.2) ry
      refine PySem.SeqAt.in_list_data r2 r1 p2 p1 hu ?_
      rw [e]
      exact ⟨.bl _, H, I, rfl, out hf h (.bl _)⟩
    · obtain ⟨bs, r2⟩ := rb.reads (n := 21) I hf (by simpa [D.ok] using hc.2) ry
      refine PySem.SeqAt.in_tuple_data r2 r1 p2 p1 hu ?_
      rw [e]
      exact ⟨.bl _, H, I, rfl, out hf h (.bl _)⟩
  cases b with
  | lst ds => exact seq ds _ (.inl rfl) rb (by cases a with | str z => (cases z with | nil => exact h | cons c r => cases r <;> exact h) | _ => exact h)
  | tup ds => exact seq ds _ (.inr rfl) rb (by cases a with | str z => (cases z with | nil => exact h | cons c r => cases r <;> exact h) | _ => exact h)
  | str z =>
    cases a with
    | str c =>
      cases c with
      | nil =>
        cases ra.str; cases rb.str
        exact op_in_str pins s σ H _ _ v u Q I rx ry ⟨SS [], SS z, rfl, rfl, by rw [found_sub]; exact out hf h (.bl _)⟩
      | cons c r =>
        cases r with
        | nil =>
          cases ra.str; cases rb.str
          exact op_in_sign pins s σ H _ _ v u Q I rx ry ⟨c, SS z, rfl, rfl, out hf h (.bl _)⟩
        | cons c' r =>
          cases ra.str; cases rb.str
          exact op_in_str pins s σ H _ _ v u Q I rx ry ⟨SS (c :: c' :: r), SS z, rfl, rfl, by rw [found_sub]; exact out hf h (.bl _)⟩
    | _ => exact h.elim
  | _ =>
    cases a with
    | str c => (cases c with
      | nil => exact h.elim
      | cons c r => cases r <;> exact h.elim)
    | _ => exact h.elim
theorem og_notIn {k : Nat} (hr : Room k X.A) : OG X (compareOp .NotIn) gNotIn := by
  intro pins s σ H x y v u Q I rx ry h
  obtain ⟨F, C, a, b, hf, ra, rb, h⟩ := h
  have seq : ∀ (ds : List D) (b : D), b = .lst ds ∨ b = .tup ds → RpB X.K F H C y b → (if (D.ok 20 a && ds.all (D.ok 20)) = true then M.ret (.bl (!ds.any fun y => D.eq y a)) else .bad).All (fun d => ∀ v H' F' C', Step H F C H' F' C' → Rp X.K F' C' v d → Q v H') →
      wpAny (model X.prog X.w) X.A (compareOp .NotIn v u) (EP X pins σ Q) X.xe s := by
    intro ds b hb rb h
    obtain ⟨hc, h⟩ := all_if h
    rw [Bool.and_eq_true] at hc
    obtain ⟨as, r1⟩ := ra.reads I hf hc.1 rx
    obtain ⟨p1, d1⟩ := plain_ok a _ hc.1
    obtain ⟨p2, d2⟩ := plain_oks ds _ hc.2
    have hu : X.A.units + 1 + min (PyData.depthAll (toPys ds)) (toPy a).depth < cLine := by
      have h1 := hr.units
      have h2 : min (PyData.depthAll (toPys ds)) (toPy a).depth ≤ PyData.depthAll (toPys ds) := Nat.min_le_left _ _
      omega
    have e : ((toPys ds).any fun y => PyData.eqv y (toPy a)) = ds.any fun y => D.eq y a := by
      have : ∀ ds : List D, ds.all (D.ok 20) = true → ((toPys ds).any fun y => PyData.eqv y (toPy a)) = ds.any fun y => D.eq y a := by
        intro ds
        induction ds with
        | nil => intro _; rfl
        | cons z zs ih =>
          intro hz
          obtain ⟨z1, z2⟩ := ok_cons hz
          rw [toPys, List.any_cons, List.any_cons, ih z2, eqv_toPy z a _ _ z1 hc.1]
      exact this ds hc.2
    rcases hb with rfl | rfl
    · obtain ⟨bs, r2⟩ := rb.reads (n := 21) I hf (by simpa [D.ok] using hc.2) ry
      refine PySem.SeqAt.notIn_list_data r2 r1 p2 p1 hu ?_
      rw [e]
      exact ⟨.bl _, H, I, rfl, out hf h (.bl _)⟩
    · obtain ⟨bs, r2⟩ := rb.reads (n := 21) I hf (by simpa [D.ok] using hc.2) ry
      refine PySem.SeqAt.notIn_tuple_data r2 r1 p2 p1 hu ?_
      rw [e]
      exact ⟨.bl _, H, I, rfl, out hf h (.bl _)⟩
  cases b with
  | lst ds => exact seq ds _ (.inl rfl) rb (by cases a with | str z => (cases z with | nil => exact h | cons c r => cases r <;> exact h) | _ => exact h)
  | tup ds => exact seq ds _ (.inr rfl) rb (by cases a with | str z => (cases z with | nil => exact h | cons c r => cases r <;> exact h) | _ => exact h)
  | str z =>
    cases a with
    | str c =>
      cases c with
      | nil =>
        cases ra.str; cases rb.str
        exact op_notIn_str pins s σ H _ _ v u Q I rx ry ⟨SS [], SS z, rfl, rfl, by rw [found_sub]; exact out hf h (.bl _)⟩
      | cons c r =>
        cases r with
        | nil =>
          cases ra.str; cases rb.str
          exact op_notIn_sign pins s σ H _ _ v u Q I rx ry ⟨c, SS z, rfl, rfl, out hf h (.bl _)⟩
        | cons c' r =>
          cases ra.str; cases rb.str
          exact op_notIn_str pins s σ H _ _ v u Q I rx ry ⟨SS (c :: c' :: r), SS z, rfl, rfl, by rw [found_sub]; exact out hf h (.bl _)⟩
    | _ => exact h.elim
  | _ =>
    cases a with
    | str c => (cases c with
      | nil => exact h.elim
      | cons c r => cases r <;> exact h.elim)
    | _ => exact h.elim

theorem og_lt : OG X (compareOp .Lt) gLt := by
  intro pins s σ H x y v u Q I rx ry h
  obtain ⟨F, C, a, b, hf, ra, rb, h⟩ := h
  cases a with
  | int i =>
    cases b with
    | int j => cases ra.int; cases rb.int; exact op_lt pins s σ H _ _ v u Q I rx ry ⟨i, j, rfl, rfl, out hf h (.bl _)⟩
    | _ => exact h.elim
  | str i =>
    cases b with
    | str j => cases ra.str; cases rb.str; exact op_lt_str pins s σ H _ _ v u Q I rx ry ⟨_, _, rfl, rfl, out hf h (.bl _)⟩
    | _ => exact h.elim
  | _ => exact h.elim
theorem og_le : OG X (compareOp .LtE) gLe := by
  intro pins s σ H x y v u Q I rx ry h
  obtain ⟨F, C, a, b, hf, ra, rb, h⟩ := h
  cases a with
  | int i =>
    cases b with
    | int j => cases ra.int; cases rb.int; exact op_le pins s σ H _ _ v u Q I rx ry ⟨i, j, rfl, rfl, out hf h (.bl _)⟩
    | _ => exact h.elim
  | str i =>
    cases b with
    | str j => cases ra.str; cases rb.str; exact op_le_str pins s σ H _ _ v u Q I rx ry ⟨_, _, rfl, rfl, out hf h (.bl _)⟩
    | _ => exact h.elim
  | _ => exact h.elim
theorem og_gt : OG X (compareOp .Gt) gGt := by
  intro pins s σ H x y v u Q I rx ry h
  obtain ⟨F, C, a, b, hf, ra, rb, h⟩ := h
  cases a with
  | int i =>
    cases b with
    | int j => cases ra.int; cases rb.int; exact op_gt pins s σ H _ _ v u Q I rx ry ⟨i, j, rfl, rfl, out hf h (.bl _)⟩
    | _ => exact h.elim
  | str i =>
    cases b with
    | str j => cases ra.str; cases rb.str; exact op_gt_str pins s σ H _ _ v u Q I rx ry ⟨_, _, rfl, rfl, out hf h (.bl _)⟩
    | _ => exact h.elim
  | _ => exact h.elim
theorem og_ge : OG X (compareOp .GtE) gGe := by
  intro pins s σ H x y v u Q I rx ry h
  obtain ⟨F, C, a, b, hf, ra, rb, h⟩ := h
  cases a with
  | int i =>
    cases b with
    | int j => cases ra.int; cases rb.int; exact op_ge pins s σ H _ _ v u Q I rx ry ⟨i, j, rfl, rfl, out hf h (.bl _)⟩
    | _ => exact h.elim
  | str i =>
    cases b with
    | str j => cases ra.str; cases rb.str; exact op_ge_str pins s σ H _ _ v u Q I rx ry ⟨_, _, rfl, rfl, out hf h (.bl _)⟩
    | _ => exact h.elim
  | _ => exact h.elim
theorem isNon_iff {x : V} {a : D} (r : RpB K F H C x a) : decide (x = .non) = isNon a := by
  rcases r with r | ⟨p, vs, xs, rfl, rfl, _⟩ | ⟨p, vs, ks, ds, rfl, rfl, _⟩
  · cases r <;> rfl
  · rfl
  · rfl
theorem og_is : OG X (compareOp .Is) gIs := by
  intro pins s σ H x y v u Q I rx ry h
  obtain ⟨F, C, a, b, hf, ra, rb, h⟩ := h
  cases b with
  | non =>
    cases rb.non
    refine op_isN pins s σ H _ _ v u Q I rx ry ⟨rfl, ?_⟩
    rw [isNon_iff ra]
    exact out hf (by cases a <;> exact h) (.bl _)
  | bl j =>
    cases a with
    | bl i =>
      cases ra.bl; cases rb.bl
      refine op_isBl pins s σ H _ _ v u Q I rx ry ⟨i, j, rfl, rfl, ?_⟩
      have e : decide (i = j) = (i == j) := by cases i <;> cases j <;> rfl
      rw [e]
      exact out hf h (.bl _)
    | _ => exact h.elim
  | _ => cases a <;> exact h.elim
theorem og_isNot : OG X (compareOp .IsNot) gIsNot := by
  intro pins s σ H x y v u Q I rx ry h
  obtain ⟨F, C, a, b, hf, ra, rb, h⟩ := h
  cases b with
  | non =>
    cases rb.non
    refine op_notN pins s σ H _ _ v u Q I rx ry ⟨rfl, ?_⟩
    rw [isNon_iff ra]
    exact out hf (by cases a <;> exact h) (.bl _)
  | bl j =>
    cases a with
    | bl i =>
      cases ra.bl; cases rb.bl
      refine op_notBl pins s σ H _ _ v u Q I rx ry ⟨i, j, rfl, rfl, ?_⟩
      have e : decide (i = j) = (i == j) := by cases i <;> cases j <;> rfl
      rw [e]
      exact out hf h (.bl _)
    | _ => exact h.elim
  | _ => cases a <;> exact h.elim
end
end WK
end

section
set_option Elab.async false
set_option linter.all false
set_option maxRecDepth 100000
/-! Expressions, arguments, tests. -/
namespace WK
open PySem L2
def tA (K : PySem.W.Frag) (f : FL) : TA := fun σ H Q => ∃ B F C ρ, EnvOk K B σ H F C ρ ∧ (f ρ).All fun ds => ∀ vs H' F' C', Step H F C H' F' C' → Rps K F' C' vs ds → Q vs H'
abbrev CA (X : Cx) (es : List Expr) (f : FL) : Prop := PA X es (tA X.K f)
def tT (K : PySem.W.Frag) (f : FE) : TT := fun σ H Q => ∃ B F C ρ, EnvOk K B σ H F C ρ ∧ (f ρ).All fun d => ∃ b, d = .bl b ∧ ∀ H' F' C', Step H F C H' F' C' → Q b H'
abbrev CT (X : Cx) (e : Expr) (f : FE) : Prop := PT X e (tT X.K f)
abbrev CW (X : Cx) (e : Expr) (f : FE) : Prop := PW X e (tT X.K f)

theorem all_onB {α : Type} {P : α → Prop} {d : D} {m n : M α} (h : (onB d m n).All P) : ∃ b, d = .bl b ∧ (if b = true then m else n).All P := by
  cases d with
  | bl b => cases b <;> exact ⟨_, rfl, h⟩
  | _ => exact h.elim

section
variable {X : Cx} {a b c e : Expr} {es rest : List Expr} {f g f1 f2 f3 : FE} {fl : FL} {pos : Pos} {i : Nat}

/-! ### names, constants -/
theorem c_var {x : Str} (h : PE X (.Name x pos) (tVar i)) : CF X (.Name x pos) (fVar i) :=
  pe_mono h fun σ H Q ⟨B, F, C, ρ, E, q⟩ => by
    unfold fVar at q
    cases e : ρ[i]? with
    | none => rw [e] at q; exact q.elim
    | some s =>
      rw [e] at q
      have z := E.slot i s e
      cases s with
      | fz d =>
        obtain ⟨v, e1, r⟩ := z
        exact ⟨v, e1, q v H F C E.hf.refl r⟩
      | _ => exact q.elim
theorem c_bor {x : Str} (h : PE X (.Name x pos) (tVar i)) : CB X (.Name x pos) (fBor i) :=
  pe_mono h fun σ H Q ⟨B, F, C, ρ, E, q⟩ => by
    unfold fBor at q
    cases e : ρ[i]? with
    | none => rw [e] at q; exact q.elim
    | some s =>
      rw [e] at q
      have z := E.slot i s e
      cases s with
      | fz d =>
        obtain ⟨v, e1, r⟩ := z
        exact ⟨v, e1, q v H F C E.hf.refl (.inl r)⟩
      | ow xs =>
        obtain ⟨p, vs, e1, hp, r, _, _, c⟩ := z
        exact ⟨.ref p, e1, q _ H F C E.hf.refl (.inr (.inl ⟨p, vs, xs, rfl, rfl, hp, c, r⟩))⟩
      | od ks ds =>
        obtain ⟨p, vs, e1, hp, r, _, _, c⟩ := z
        exact ⟨.ref p, e1, q _ H F C E.hf.refl (.inr (.inr ⟨p, vs, ks, ds, rfl, rfl, .inl hp, c, r⟩))⟩
      | ol ks ds =>
        obtain ⟨p, vs, od, e1, hp, r, _, _, c⟩ := z
        exact ⟨.ref p, e1, q _ H F C E.hf.refl (.inr (.inr ⟨p, vs, ks, ds, rfl, rfl, .inr ⟨od, hp⟩, c, r⟩))⟩
      | on xss => exact q.elim
      | no => exact q.elim
theorem c_of {v : V} {d : D} (h : PE X e (tC v)) (r : ∀ F C, Rp X.K F C v d) : CF X e (fC d) :=
  pe_mono h fun σ H Q ⟨B, F, C, ρ, E, q⟩ => q v H F C E.hf.refl (r F C)
theorem c_int {j : Int} {k} : CF X (.Constant (.int j) k pos) (fC (.int j)) := c_of pe_int fun _ _ => .int j
theorem c_bl {j : Bool} {k} : CF X (.Constant (.bool j) k pos) (fC (.bl j)) := c_of pe_bl fun _ _ => .bl j
theorem c_non {k} : CF X (.Constant .none k pos) (fC .non) := c_of pe_non fun _ _ => .non
theorem c_str (z : List Nat) {s : Str} {k} (h : s = SS z := by decide +kernel) : CF X (.Constant (.str s) k pos) (fC (.str z)) := by
  subst h
  exact c_of pe_str fun _ _ => .str z

/-! ### operators -/
theorem bin_go {R : RK} {t : R2} {gg : D → D → M D} (hr : ∀ {x y H Q}, (∃ F C a b, HF H F C ∧ RpB X.K F H C x a ∧ RpB X.K F H C y b ∧ (gg a b).All fun d => ∀ v H' F' C', Step H F C H' F' C' → R X.K H F' H' C' v d → Q v H') → t x y H Q)
    (hw : ∀ {H F C H1 F1 C1 H2 F2 C2 v d}, HF H F C → Step H F C H1 F1 C1 → R X.K H1 F2 H2 C2 v d → R X.K H F2 H2 C2 v d) {σ : St} {H : Hp} {Q : VK} (h : tG X.K R (fOp gg f1 f2) σ H Q) : tOp t (tG X.K RB f1) (tG X.K RB f2) σ H Q := by
  obtain ⟨B, F, C, ρ, E, q⟩ := h
  refine ⟨B, F, C, ρ, E, (M.all_bind.mp q).mono fun d q x H1 F1 C1 s1 r1 => ?_⟩
  refine ⟨B, F1, C1, ρ, E.step s1, (M.all_bind.mp q).mono fun d2 q y H2 F2 C2 s2 r2 => ?_⟩
  have s12 := s1.trans E.hf s2
  exact hr ⟨F2, C2, d, d2, s2.hf, r1.step s2, r2, q.mono fun d3 q v H3 F3 C3 s3 r3 => q v H3 F3 C3 (s12.trans E.hf s3) (hw E.hf s12 r3)⟩
theorem rn_back {K : PySem.W.Frag} {H F H1 F1 F2 H2 : Hp} {C C1 C2 : Option Addr} {v : V} {d : D} (hf : HF H F C) (s : Step H F C H1 F1 C1) (r : RpN K H1 F2 H2 C2 v d) : RpN K H F2 H2 C2 v d := by
  obtain ⟨p, vs, xs, e1, e2, np, r⟩ := r
  refine ⟨p, vs, xs, e1, e2, ?_, r⟩
  cases q : H p with
  | none => rfl
  | some o => exact absurd np (s.there hf (by rw [q]; simp))
theorem c_op {op : Operator} {gg : D → D → M D} (ho : OG X (binaryOp op) gg) (ha : CB X a f1) (hb : CB X b f2) : CF X (.BinOp a op b pos) (fOp gg f1 f2) :=
  pe_mono (pe_op ho ha hb) fun _ _ _ h => bin_go (R := RF) (fun q => q) (fun _ _ r => r) h
theorem c_opN {op : Operator} {gg : D → D → M D} (ho : ON X (binaryOp op) gg) (ha : CB X a f1) (hb : CB X b f2) : CN X (.BinOp a op b pos) (fOp gg f1 f2) :=
  pe_mono (pe_op ho ha hb) fun _ _ _ h => bin_go (R := RN) (fun q => q) (fun hf s r => rn_back hf s r) h
theorem c_cmp {op : CmpOp} {gg : D → D → M D} (ho : OG X (compareOp op) gg) (ha : CB X a f1) (hb : CB X b f2) (hm : behindInMarks op b = false := by rfl) : CF X (.Compare a [op] [b] pos) (fOp gg f1 f2) :=
  pe_mono (pe_cmpR ho ha hb hm) fun _ _ _ h => bin_go (R := RF) (fun q => q) (fun _ _ r => r) h
theorem rf_bl {K : PySem.W.Frag} {F : Hp} {C : Option Addr} {v : V} {b : Bool} (r : Rp K F C v (.bl b)) : v = .bl b := by cases r; rfl
/-- a reading as a test, from one as a value -/
theorem test_go {σ : St} {H : Hp} {Q : Bool → Hp → Prop} (h : tT X.K f σ H Q) : tG X.K RF f σ H fun v H' => ∃ k, v = .bl k ∧ Q k H' := by
  obtain ⟨B, F, C, ρ, E, q⟩ := h
  refine ⟨B, F, C, ρ, E, q.mono fun d ⟨b, e, q⟩ v H' F' C' s r => ?_⟩
  subst e
  exact ⟨b, rf_bl r, q H' F' C' s⟩
theorem test_goB {σ : St} {H : Hp} {Q : Bool → Hp → Prop} (h : tT X.K f σ H Q) : tG X.K RB f σ H fun v H' => ∃ k, v = .bl k ∧ Q k H' := by
  obtain ⟨B, F, C, ρ, E, q⟩ := h
  refine ⟨B, F, C, ρ, E, q.mono fun d ⟨b, e, q⟩ v H' F' C' s r => ?_⟩
  subst e
  exact ⟨b, r.bl, q H' F' C' s⟩
theorem ct_cmp {op : CmpOp} {gg : D → D → M D} (ho : OG X (compareOp op) gg) (ha : CB X a f1) (hb : CB X b f2) (hm : behindInMarks op b = false := by rfl) : CT X (.Compare a [op] [b] pos) (fOp gg f1 f2) :=
  pt_mono (pt_cmpR ho ha hb hm) fun _ _ _ h => bin_go (R := RF) (fun q => q) (fun _ _ r => r) (test_go h)
theorem ct_val (h : CB X e f) (he : ∀ whole, isTrue e X.env whole = (do let v ← whole; standAt e.pos; holding [v] (truthy v)) := by intro _; rfl) : CT X e f :=
  pt_mono (pt_val h he) fun _ _ _ q => test_goB q
theorem chain_go {op op' : CmpOp} {gg gg' : D → D → M D} {σ : St} {H : Hp} {Q : VK} (h : tG X.K RF (fChain gg gg' f1 f2 f3) σ H Q) : tChain (rG X.K gg) (rG X.K gg') (tG X.K RB f1) (tG X.K RB f2) (tG X.K RB f3) σ H Q := by
  obtain ⟨B, F, C, ρ, E, q⟩ := h
  refine ⟨B, F, C, ρ, E, (M.all_bind.mp q).mono fun d q x H1 F1 C1 s1 r1 => ?_⟩
  refine ⟨B, F1, C1, ρ, E.step s1, (M.all_bind.mp q).mono fun d2 q y H2 F2 C2 s2 r2 => ?_⟩
  have s12 := s1.trans E.hf s2
  refine ⟨F2, C2, d, d2, s2.hf, r1.step s2, r2, (M.all_bind.mp q).mono fun d3 q v H3 F3 C3 s3 r3 => ?_⟩
  obtain ⟨k, e, q'⟩ := all_onB q
  clear q
  subst e
  have q := q'
  clear q'
  cases rf_bl r3
  refine ⟨k, rfl, ?_⟩
  have s13 := s12.trans E.hf s3
  cases k with
  | false =>
    rw [if_neg Bool.false_ne_true] at q ⊢
    exact q _ _ _ _ s13 (.bl false)
  | true =>
    rw [if_pos rfl] at q ⊢
    refine ⟨B, F3, C3, ρ, E.step s13, (M.all_bind.mp q).mono fun d4 q z H4 F4 C4 s4 r4 => ?_⟩
    have s14 := s13.trans E.hf s4
    exact ⟨F4, C4, d2, d4, s4.hf, (r2.step s3).step s4, r4, q.mono fun d5 q v H5 F5 C5 s5 r5 => q v H5 F5 C5 (s14.trans E.hf s5) r5⟩
theorem c_chain {op op' : CmpOp} {gg gg' : D → D → M D} (ho : OG X (compareOp op) gg) (ho' : OG X (compareOp op') gg') (ha : CB X a f1) (hb : CB X b f2) (hc : CB X c f3) (hm : lastMarks [op, op'] [b, c] = false := by with_unfolding_all rfl) :
    CF X (.Compare a [op, op'] [b, c] pos) (fChain gg gg' f1 f2 f3) := pe_mono (pe_chain ho ho' ha hb hc hm) fun _ _ _ h => chain_go (op := op) (op' := op') h
theorem ct_chain {op op' : CmpOp} {gg gg' : D → D → M D} (ho : OG X (compareOp op) gg) (ho' : OG X (compareOp op') gg') (ha : CB X a f1) (hb : CB X b f2) (hc : CB X c f3) (hm : lastMarks [op, op'] [b, c] = false := by with_unfolding_all rfl) :
    CT X (.Compare a [op, op'] [b, c] pos) (fChain gg gg' f1 f2 f3) := pt_mono (pt_chain ho ho' ha hb hc hm) fun _ _ _ h => chain_go (op := op) (op' := op') (test_go h)

/-! ### one operand -/
/-- what a one-place operation promises -/
def rU1 (K : PySem.W.Frag) (R : RK) (g : D → M D) : V → Hp → VK → Prop := fun x H Q => ∃ F C a, HF H F C ∧ RpB K F H C x a ∧ (g a).All fun d => ∀ v H' F' C', Step H F C H' F' C' → R K H F' H' C' v d → Q v H'
theorem un_go {R : RK} {t : V → Hp → VK → Prop} {gg : D → M D} (hr : ∀ {x H Q}, rU1 X.K R gg x H Q → t x H Q)
    (hw : ∀ {H F C H1 F1 C1 H2 F2 C2 v d}, HF H F C → Step H F C H1 F1 C1 → R X.K H1 F2 H2 C2 v d → R X.K H F2 H2 C2 v d) {σ : St} {H : Hp} {Q : VK} (h : tG X.K R (fUn gg f) σ H Q) : tUn t (tG X.K RB f) σ H Q := by
  obtain ⟨B, F, C, ρ, E, q⟩ := h
  refine ⟨B, F, C, ρ, E, (M.all_bind.mp q).mono fun d q x H1 F1 C1 s1 r1 => ?_⟩
  exact hr ⟨F1, C1, d, s1.hf, r1, q.mono fun d3 q v H3 F3 C3 s3 r3 => q v H3 F3 C3 (s1.trans E.hf s3) (hw E.hf s1 r3)⟩
theorem c_neg (ha : CB X a f) : CF X (.UnaryOp .USub a pos) (fUn gNeg f) :=
  pe_mono (pe_un un_neg ha) fun _ _ _ h => un_go (R := RF) (fun ⟨F, C, d, hf, r, q⟩ => by
    cases d with
    | int i => cases r.int; exact ⟨i, rfl, out hf q (.int _)⟩
    | _ => exact q.elim) (fun _ _ r => r) h
theorem c_not (ha : CB X a f) : CF X (.UnaryOp .Not a pos) (fUn gNot f) :=
  pe_mono (pe_not ha) fun _ _ _ h => un_go (R := RF) (t := fun x H1 Q => ∃ c, x = .bl c ∧ Q (.bl (!c)) H1) (fun ⟨F, C, d, hf, r, q⟩ => by
    obtain ⟨k, e, q'⟩ := all_onB q
    clear q
    subst e
    have q := q'
    clear q'
    cases r.bl
    refine ⟨k, rfl, ?_⟩
    cases k
    · exact out hf q (.bl _)
    · exact out hf q (.bl _)) (fun _ _ r => r) h
theorem ct_not (ha : CT X a f) : CT X (.UnaryOp .Not a pos) (fUn gNot f) :=
  pt_mono (pt_not ha) fun σ H Q ⟨B, F, C, ρ, E, q⟩ => ⟨B, F, C, ρ, E, (M.all_bind.mp q).mono fun d q => by
    obtain ⟨k, e, q'⟩ := all_onB q
    clear q
    subst e
    have q := q'
    clear q'
    refine ⟨k, rfl, fun H' F' C' s => ?_⟩
    cases k
    · obtain ⟨b, e, q⟩ := q; cases e; exact q H' F' C' s
    · obtain ⟨b, e, q⟩ := q; cases e; exact q H' F' C' s⟩

/-! ### and, or, if -/
theorem c_one {op} (h : CB X a f) : CB X (.BoolOp op [a] pos) f := pe_one h
theorem and_go {R : RK} {t : TE} (ht : ∀ {σ H Q}, tG X.K R g σ H Q → t σ H Q) (hb : ∀ {H0 F H C b}, R X.K H0 F H C (.bl b) (.bl b)) (hw : ∀ {H F C H1 F1 C1 H2 F2 C2 v d}, HF H F C → Step H F C H1 F1 C1 → R X.K H1 F2 H2 C2 v d → R X.K H F2 H2 C2 v d) {σ : St} {H : Hp} {Q : VK} (h : tG X.K R (fAnd f g) σ H Q) : tAndV (tG X.K RB f) t σ H Q := by
  obtain ⟨B, F, C, ρ, E, q⟩ := h
  refine ⟨B, F, C, ρ, E, (M.all_bind.mp q).mono fun d q x H1 F1 C1 s1 r1 => ?_⟩
  obtain ⟨k, e, q'⟩ := all_onB q
  clear q
  subst e
  have q := q'
  clear q'
  cases r1.bl
  refine ⟨k, rfl, ?_⟩
  cases k with
  | false => rw [if_neg Bool.false_ne_true] at q ⊢; exact q _ _ _ _ s1 hb
  | true => rw [if_pos rfl] at q ⊢; exact ht ⟨B, F1, C1, ρ, E.step s1, q.mono fun d q v H2 F2 C2 s2 r2 => q v H2 F2 C2 (s1.trans E.hf s2) (hw E.hf s1 r2)⟩
theorem or_go {R : RK} {t : TE} (ht : ∀ {σ H Q}, tG X.K R g σ H Q → t σ H Q) (hb : ∀ {H0 F H C b}, R X.K H0 F H C (.bl b) (.bl b)) (hw : ∀ {H F C H1 F1 C1 H2 F2 C2 v d}, HF H F C → Step H F C H1 F1 C1 → R X.K H1 F2 H2 C2 v d → R X.K H F2 H2 C2 v d) {σ : St} {H : Hp} {Q : VK} (h : tG X.K R (fOr f g) σ H Q) : tOrV (tG X.K RB f) t σ H Q := by
  obtain ⟨B, F, C, ρ, E, q⟩ := h
  refine ⟨B, F, C, ρ, E, (M.all_bind.mp q).mono fun d q x H1 F1 C1 s1 r1 => ?_⟩
  obtain ⟨k, e, q'⟩ := all_onB q
  clear q
  subst e
  have q := q'
  clear q'
  cases r1.bl
  refine ⟨k, rfl, ?_⟩
  cases k with
  | true => rw [if_pos rfl] at q ⊢; exact q _ _ _ _ s1 hb
  | false => rw [if_neg Bool.false_ne_true] at q ⊢; exact ht ⟨B, F1, C1, ρ, E.step s1, q.mono fun d q v H2 F2 C2 s2 r2 => q v H2 F2 C2 (s1.trans E.hf s2) (hw E.hf s1 r2)⟩
theorem c_and (ha : CB X a f) (hb : CB X (.BoolOp .And (b :: rest) pos) g) : CB X (.BoolOp .And (a :: b :: rest) pos) (fAnd f g) :=
  pe_mono (pe_and ha hb) fun _ _ _ h => and_go (R := RB) (fun q => q) (.inl (.bl _)) (fun _ _ r => r) h
theorem c_or (ha : CB X a f) (hb : CB X (.BoolOp .Or (b :: rest) pos) g) : CB X (.BoolOp .Or (a :: b :: rest) pos) (fOr f g) :=
  pe_mono (pe_or ha hb) fun _ _ _ h => or_go (R := RB) (fun q => q) (.inl (.bl _)) (fun _ _ r => r) h
/-- .. whose last one is a value that may be kept -/
theorem c_oneF {op} (h : CF X a f) : CF X (.BoolOp op [a] pos) f := pe_one h
theorem c_andF (ha : CB X a f) (hb : CF X (.BoolOp .And (b :: rest) pos) g) : CF X (.BoolOp .And (a :: b :: rest) pos) (fAnd f g) :=
  pe_mono (pe_and ha hb) fun _ _ _ h => and_go (R := RF) (fun q => q) (.bl _) (fun _ _ r => r) h
theorem c_orF (ha : CB X a f) (hb : CF X (.BoolOp .Or (b :: rest) pos) g) : CF X (.BoolOp .Or (a :: b :: rest) pos) (fOr f g) :=
  pe_mono (pe_or ha hb) fun _ _ _ h => or_go (R := RF) (fun q => q) (.bl _) (fun _ _ r => r) h
theorem tt_sub {f' : FE} {σ : St} {H : Hp} {Q : Bool → Hp → Prop} {t : TT} (ht : ∀ {σ H Q}, tT X.K g σ H Q → t σ H Q) (h : tT X.K (fAnd f g) σ H Q) : tAnd (tT X.K f) t σ H Q := by
  obtain ⟨B, F, C, ρ, E, q⟩ := h
  refine ⟨B, F, C, ρ, E, (M.all_bind.mp q).mono fun d q => ?_⟩
  obtain ⟨k, e, q'⟩ := all_onB q
  clear q
  subst e
  have q := q'
  clear q'
  refine ⟨k, rfl, fun H1 F1 C1 s1 => ?_⟩
  cases k with
  | false =>
    rw [if_neg Bool.false_ne_true] at q ⊢
    obtain ⟨b, e, q⟩ := q
    cases e
    exact q _ _ _ s1
  | true =>
    rw [if_pos rfl] at q ⊢
    exact ht ⟨B, F1, C1, ρ, E.step s1, q.mono fun d ⟨b, e, q⟩ => ⟨b, e, fun H2 F2 C2 s2 => q H2 F2 C2 (s1.trans E.hf s2)⟩⟩
theorem to_sub {f' : FE} {σ : St} {H : Hp} {Q : Bool → Hp → Prop} {t : TT} (ht : ∀ {σ H Q}, tT X.K g σ H Q → t σ H Q) (h : tT X.K (fOr f g) σ H Q) : tOr (tT X.K f) t σ H Q := by
  obtain ⟨B, F, C, ρ, E, q⟩ := h
  refine ⟨B, F, C, ρ, E, (M.all_bind.mp q).mono fun d q => ?_⟩
  obtain ⟨k, e, q'⟩ := all_onB q
  clear q
  subst e
  have q := q'
  clear q'
  refine ⟨k, rfl, fun H1 F1 C1 s1 => ?_⟩
  cases k with
  | true =>
    rw [if_pos rfl] at q ⊢
    obtain ⟨b, e, q⟩ := q
    cases e
    exact q _ _ _ s1
  | false =>
    rw [if_neg Bool.false_ne_true] at q ⊢
    exact ht ⟨B, F1, C1, ρ, E.step s1, q.mono fun d ⟨b, e, q⟩ => ⟨b, e, fun H2 F2 C2 s2 => q H2 F2 C2 (s1.trans E.hf s2)⟩⟩
theorem cw_and1 (ha : CT X a f) : CW X (.BoolOp .And [a] pos) f := pw_and1 ha
theorem cw_or1 (ha : CT X a f) : CW X (.BoolOp .Or [a] pos) f := pw_or1 ha
theorem cw_and (ha : CT X a f) (hb : CW X (.BoolOp .And (b :: rest) pos) g) : CW X (.BoolOp .And (a :: b :: rest) pos) (fAnd f g) :=
  pw_mono (pw_and ha hb) fun _ _ _ h => tt_sub (f' := f) (fun q => q) h
theorem cw_or (ha : CT X a f) (hb : CW X (.BoolOp .Or (b :: rest) pos) g) : CW X (.BoolOp .Or (a :: b :: rest) pos) (fOr f g) :=
  pw_mono (pw_or ha hb) fun _ _ _ h => to_sub (f' := f) (fun q => q) h
theorem CW.ct (h : CW X e f) : CT X e f := PW.pt h
theorem if_go {R : RK} (hw : ∀ {H F C H1 F1 C1 H2 F2 C2 v d}, HF H F C → Step H F C H1 F1 C1 → R X.K H1 F2 H2 C2 v d → R X.K H F2 H2 C2 v d) {σ : St} {H : Hp} {Q : VK} (h : tG X.K R (fIf f1 f2 f3) σ H Q) : tIf (tT X.K f1) (tG X.K R f2) (tG X.K R f3) σ H Q := by
  obtain ⟨B, F, C, ρ, E, q⟩ := h
  refine ⟨B, F, C, ρ, E, (M.all_bind.mp q).mono fun d q => ?_⟩
  obtain ⟨k, e, q'⟩ := all_onB q
  clear q
  subst e
  have q := q'
  clear q'
  refine ⟨k, rfl, fun H1 F1 C1 s1 => ?_⟩
  cases k with
  | true => rw [if_pos rfl] at q ⊢; exact ⟨B, F1, C1, ρ, E.step s1, q.mono fun d q v H2 F2 C2 s2 r2 => q v H2 F2 C2 (s1.trans E.hf s2) (hw E.hf s1 r2)⟩
  | false => rw [if_neg Bool.false_ne_true] at q ⊢; exact ⟨B, F1, C1, ρ, E.step s1, q.mono fun d q v H2 F2 C2 s2 r2 => q v H2 F2 C2 (s1.trans E.hf s2) (hw E.hf s1 r2)⟩
theorem c_if (hc : CT X c f1) (ha : CF X a f2) (hb : CF X b f3) : CF X (.IfExp c a b pos) (fIf f1 f2 f3) := pe_mono (pe_ifExp hc ha hb) fun _ _ _ h => if_go (R := RF) (fun _ _ r => r) h
theorem c_ifB (hc : CT X c f1) (ha : CB X a f2) (hb : CB X b f3) : CB X (.IfExp c a b pos) (fIf f1 f2 f3) := pe_mono (pe_ifExp hc ha hb) fun _ _ _ h => if_go (R := RB) (fun _ _ r => r) h
theorem c_ifN (hc : CT X c f1) (ha : CN X a f2) (hb : CN X b f3) : CN X (.IfExp c a b pos) (fIf f1 f2 f3) := pe_mono (pe_ifExp hc ha hb) fun _ _ _ h => if_go (R := RN) (fun hf s r => rn_back hf s r) h

/-! ### arguments, displays -/
theorem ca_nil : CA X [] fNil := pa_mono pa_nil fun σ H Q ⟨B, F, C, ρ, E, q⟩ => q [] H F C E.hf.refl .nil
theorem ca_cons (ha : CF X e f) (hr : CA X es fl) (hs : starEach (e :: es) X.env = (false, eval e X.env) :: starEach es X.env := by rfl) : CA X (e :: es) (fCons f fl) :=
  pa_mono (pa_cons ha hr hs) fun σ H Q ⟨B, F, C, ρ, E, q⟩ => by
    refine ⟨B, F, C, ρ, E, (M.all_bind.mp q).mono fun d q x H1 F1 C1 s1 r1 => ?_⟩
    refine ⟨B, F1, C1, ρ, E.step s1, (M.all_bind.mp q).mono fun ds q xs H2 F2 C2 s2 r2 => ?_⟩
    exact q (x :: xs) H2 F2 C2 (s1.trans E.hf s2) (.cons (r1.step s2) r2)
theorem c_tup {k} (h : CA X es fl) : CF X (.Tuple es k pos) (fArgs gTup fl) :=
  pe_mono (pe_tup h) fun σ H Q ⟨B, F, C, ρ, E, q⟩ => by
    refine ⟨B, F, C, ρ, E, (M.all_bind.mp q).mono fun ds q vs H1 F1 C1 s1 r1 => ?_⟩
    obtain ⟨hz, q⟩ := all_fit q
    refine ⟨by rw [r1.length]; exact Nat.le_of_lt (fits hz), fun p np => q _ _ _ _ (s1.trans E.hf (s1.hf.laidF np)) (.tup (.of upd_same) (r1.mono (upd_sub (s1.hf.notNew np).1) fun _ z => z))⟩
theorem c_lst (h : CA X es fl) : CN X (.List es pos) (fArgs gLst fl) :=
  pe_mono (pe_lst h) fun σ H Q ⟨B, F, C, ρ, E, q⟩ => by
    refine ⟨B, F, C, ρ, E, (M.all_bind.mp q).mono fun ds q vs H1 F1 C1 s1 r1 => ?_⟩
    obtain ⟨hz, q⟩ := all_fit q
    refine ⟨by rw [r1.length]; exact Nat.le_of_lt (fits hz), fun p np => q _ _ _ _ (s1.trans E.hf (s1.hf.laid np)) (rn_back E.hf s1 ⟨p, vs, ds, rfl, rfl, np, upd_same, (s1.hf.notNew np).1, (s1.hf.notNew np).2, r1⟩)⟩

/-! ### built-ins with one, two operands -/
def rC1 (K : PySem.W.Frag) (R : RK) (g : D → M D) : List V → Hp → VK → Prop := fun xs H Q => ∃ x, xs = [x] ∧ rU1 K R g x H Q
def rC2 (K : PySem.W.Frag) (g : D → D → M D) : List V → Hp → VK → Prop := fun xs H Q => ∃ x y, xs = [x, y] ∧ rG K g x y H Q
theorem callr_mono {f : Value} {r r' : List V → Hp → VK → Prop} (h : CallR X f r) (i : ∀ xs H Q, r' xs H Q → r xs H Q) : CallR X f r' := fun pins s σ H xs us Q I rx q => h pins s σ H xs us Q I rx (i xs H Q q)
theorem tcb_go {R : RK} {gg : D → M D} (hw : ∀ {H F C H1 F1 C1 H2 F2 C2 v d}, HF H F C → Step H F C H1 F1 C1 → R X.K H1 F2 H2 C2 v d → R X.K H F2 H2 C2 v d) {σ : St} {H : Hp} {Q : VK} (h : tG X.K R (fUn gg f) σ H Q) : tCB (rC1 X.K R gg) (tCons (tG X.K RB f) tNil) σ H Q := by
  have h1 := un_go (R := R) (t := rU1 X.K R gg) (fun q => q) hw h
  obtain ⟨B, F, C, ρ, E, q⟩ := h1
  exact ⟨B, F, C, ρ, E, q.mono fun d q v H' F' C' s r => ⟨v, rfl, q v H' F' C' s r⟩⟩
theorem tcb2_go {gg : D → D → M D} {σ : St} {H : Hp} {Q : VK} (h : tG X.K RF (fOp gg f1 f2) σ H Q) : tCB (rC2 X.K gg) (tCons (tG X.K RB f1) (tCons (tG X.K RB f2) tNil)) σ H Q := by
  have h1 := bin_go (R := RF) (t := rG X.K gg) (fun q => q) (fun _ _ r => r) h
  obtain ⟨B, F, C, ρ, E, q⟩ := h1
  exact ⟨B, F, C, ρ, E, q.mono fun d q v H' F' C' s r => by
    obtain ⟨B2, F2, C2, ρ2, E2, q2⟩ := q v H' F' C' s r
    exact ⟨B2, F2, C2, ρ2, E2, q2.mono fun d q v2 H' F' C' s r => ⟨v, v2, rfl, q v2 H' F' C' s r⟩⟩⟩
variable {id T : String} {x : Str} {p : Pos} {gg : D → M D} {g2 : D → D → M D}
theorem c_b1 (hc : CallR X (.builtin id) (rC1 X.K RF gg)) (hg : Gl X x) (hm : X.mg x = none) (hv : bootBuiltins x = some (.builtin id)) (ha : CB X e f) (hn : x ≠ "__name__" := by decide) (hdb : (x == ("__debug__" : Str)) = false := by decide)
    (he : starEach [e] X.env = (false, eval e X.env) :: starEach [] X.env := by rfl) (hpl : (backTo pos (starEach [] X.env)).any (·.1) = false := by rfl) : CF X (.Call (.Name x p) [e] [] pos) (fUn gg f) :=
  pe_mono (pe_callB hc hg hm hv (pa_cons ha pa_nil he) hn hdb he hpl) fun _ _ _ h => tcb_go (R := RF) (fun _ _ r => r) h
theorem c_b1N (hc : CallR X (.builtin id) (rC1 X.K RN gg)) (hg : Gl X x) (hm : X.mg x = none) (hv : bootBuiltins x = some (.builtin id)) (ha : CB X e f) (hn : x ≠ "__name__" := by decide) (hdb : (x == ("__debug__" : Str)) = false := by decide)
    (he : starEach [e] X.env = (false, eval e X.env) :: starEach [] X.env := by rfl) (hpl : (backTo pos (starEach [] X.env)).any (·.1) = false := by rfl) : CN X (.Call (.Name x p) [e] [] pos) (fUn gg f) :=
  pe_mono (pe_callB hc hg hm hv (pa_cons ha pa_nil he) hn hdb he hpl) fun _ _ _ h => tcb_go (R := RN) (fun hf s r => rn_back hf s r) h
theorem c_t1 (hc : CallR X (.type T) (rC1 X.K RF gg)) (hg : Gl X x) (hm : X.mg x = none) (hv : bootBuiltins x = some (.type T)) (ha : CB X e f) (hn : x ≠ "__name__" := by decide) (hdb : (x == ("__debug__" : Str)) = false := by decide)
    (he : starEach [e] X.env = (false, eval e X.env) :: starEach [] X.env := by rfl) (hpl : (backTo pos (starEach [] X.env)).any (·.1) = false := by rfl) : CF X (.Call (.Name x p) [e] [] pos) (fUn gg f) :=
  pe_mono (pe_callTy hc hg hm hv (pa_cons ha pa_nil he) hn hdb he hpl) fun _ _ _ h => tcb_go (R := RF) (fun _ _ r => r) h
theorem c_t1N (hc : CallR X (.type T) (rC1 X.K RN gg)) (hg : Gl X x) (hm : X.mg x = none) (hv : bootBuiltins x = some (.type T)) (ha : CB X e f) (hn : x ≠ "__name__" := by decide) (hdb : (x == ("__debug__" : Str)) = false := by decide)
    (he : starEach [e] X.env = (false, eval e X.env) :: starEach [] X.env := by rfl) (hpl : (backTo pos (starEach [] X.env)).any (·.1) = false := by rfl) : CN X (.Call (.Name x p) [e] [] pos) (fUn gg f) :=
  pe_mono (pe_callTy hc hg hm hv (pa_cons ha pa_nil he) hn hdb he hpl) fun _ _ _ h => tcb_go (R := RN) (fun hf s r => rn_back hf s r) h
theorem c_b2 (hc : CallR X (.builtin id) (rC2 X.K g2)) (hg : Gl X x) (hm : X.mg x = none) (hv : bootBuiltins x = some (.builtin id)) (ha : CB X a f1) (hb : CB X b f2) (hn : x ≠ "__name__" := by decide) (hdb : (x == ("__debug__" : Str)) = false := by decide)
    (he : starEach [a, b] X.env = (false, eval a X.env) :: starEach [b] X.env := by rfl) (he2 : starEach [b] X.env = (false, eval b X.env) :: starEach [] X.env := by rfl) (hpl : (backTo pos (starEach [b] X.env)).any (·.1) = false := by rfl) : CF X (.Call (.Name x p) [a, b] [] pos) (fOp g2 f1 f2) :=
  pe_mono (pe_callB hc hg hm hv (pa_cons ha (pa_cons hb pa_nil he2) he) hn hdb he hpl) fun _ _ _ h => tcb2_go h

/-! ### items, slices -/
theorem ix_mono {r r' : R2} (h : IxR X r) (i : ∀ x y H Q, r' x y H Q → r x y H Q) : IxR X r' := by
  intro value slice pins s σ H x y v u Q I rx ry q hs
  exact h value slice pins s σ H x y v u Q I rx ry (i _ _ _ _ q) hs
theorem at_ok {α : Type} {xs : List α} {i : Int} {x : α} (h : at? xs i = some x) : atI xs i = some x := by
  unfold at? at h
  unfold atI ixN
  by_cases h0 : 0 ≤ i
  · rw [if_pos h0] at h ⊢
    have hl := (List.getElem?_eq_some_iff.mp h).1
    rw [if_pos (by omega)]
    exact h
  · rw [if_neg h0] at h ⊢
    by_cases h1 : -(xs.length : Int) ≤ i
    · rw [if_pos h1] at h ⊢
      exact h
    · rw [if_neg h1] at h; cases h
theorem at_rps {K : PySem.W.Frag} {F : Hp} {C : Option Addr} {vs : List V} {ds : List D} {i : Int} {d : D} (r : Rps K F C vs ds) (h : at? ds i = some d) : ∃ v, atI vs i = some v ∧ Rp K F C v d := by
  have hl := r.length
  unfold at? at h
  unfold atI ixN
  rw [hl]
  by_cases h0 : 0 ≤ i
  · rw [if_pos h0] at h ⊢
    have hl := (List.getElem?_eq_some_iff.mp h).1
    rw [if_pos (by omega)]
    exact r.get h
  · rw [if_neg h0] at h ⊢
    by_cases h1 : -(ds.length : Int) ≤ i
    · rw [if_pos h1] at h ⊢
      exact r.get h
    · rw [if_neg h1] at h; cases h
theorem all_ofO {P : D → Prop} {o : Option D} (h : (ofO o).All P) : ∃ d, o = some d ∧ P d := by
  cases o with
  | none => exact h.elim
  | some d => exact ⟨d, rfl, h⟩
theorem ix_all : IxR X (rG X.K gIx) := ix_mono ix_seq fun x y H Q ⟨F, C, a, b, hf, ra, rb, h⟩ => by
  cases a with
  | lst xs =>
    cases b with
    | int i =>
      cases rb.int
      obtain ⟨p, vs, rfl, hp, r⟩ := ra.list hf
      obtain ⟨d, e, h⟩ := all_ofO h
      obtain ⟨v, e2, rv⟩ := at_rps r e
      exact .inl ⟨p, vs, i, v, rfl, rfl, .of hp, e2, h v H F C hf.refl rv⟩
    | _ => exact h.elim
  | tup xs =>
    cases b with
    | int i =>
      cases rb.int
      obtain ⟨p, vs, rfl, _, hp, r⟩ := ra.tup hf
      obtain ⟨d, e, h⟩ := all_ofO h
      obtain ⟨v, e2, rv⟩ := at_rps r e
      exact .inr (.inl ⟨p, vs, i, v, rfl, rfl, hp, e2, h v H F C hf.refl rv⟩)
    | _ => exact h.elim
  | str s =>
    cases b with
    | int i =>
      cases ra.str; cases rb.int
      obtain ⟨hz, h⟩ := all_fit h
      obtain ⟨d, e, h⟩ := all_ofO h
      cases q : at? s i with
      | none => rw [q] at e; cases e
      | some c =>
        rw [q] at e
        cases e
        exact .inr (.inr ⟨SS s, i, c, rfl, rfl, by rw [ss_length]; exact Nat.le_of_lt (fits hz), at_ok q, h _ H F C hf.refl (.str [c])⟩)
    | _ => exact h.elim
  | _ => exact h.elim
theorem c_ix (ha : CB X a f1) (hb : CB X b f2) (hs : PlainIx b := by exact fun _ _ => rfl) : CF X (.Subscript a b pos) (fOp gIx f1 f2) :=
  pe_mono (pe_ix ix_all ha hb hs) fun _ _ _ h => bin_go (R := RF) (fun q => q) (fun _ _ r => r) h

/-- a part of a slice -/
def tO (K : PySem.W.Frag) (f : FO) : TO := fun σ H Q => ∃ B F C ρ, EnvOk K B σ H F C ρ ∧ (f ρ).All fun o => ∀ H' F' C', Step H F C H' F' C' → Q o H'
abbrev CO (X : Cx) (e : Option Expr) (f : FO) : Prop := PO X e (tO X.K f)
theorem po_mono {e : Option Expr} {t t' : TO} (h : PO X e t) (i : ∀ σ H Q, t' σ H Q → t σ H Q) : PO X e t' := ⟨fun pins s σ H Q I q => h.run pins s σ H Q I (i σ H Q q)⟩
theorem co_none : CO X none fNoPart := po_mono po_none fun σ H Q ⟨B, F, C, ρ, E, q⟩ => q H F C E.hf.refl
theorem co_some (h : CB X e f) : CO X (some e) (fPart f) := po_mono (po_some h) fun σ H Q ⟨B, F, C, ρ, E, q⟩ => by
  refine ⟨B, F, C, ρ, E, (M.all_bind.mp q).mono fun d q v H1 F1 C1 s1 r1 => ?_⟩
  cases d with
  | int i => cases r1.int; exact ⟨i, rfl, q H1 F1 C1 s1⟩
  | _ => exact q.elim
theorem slr_mono {r r' : V → Option Int → Option Int → Hp → VK → Prop} (h : L2.SlR X r) (i : ∀ x a b H Q, r' x a b H Q → r x a b H Q) : L2.SlR X r' := by
  intro pins s σ H x v vl vu lo hi sl Q I rx hs pl pu q
  exact h pins s σ H x v vl vu lo hi sl Q I rx hs pl pu (i _ _ _ _ _ q)
theorem cut_rps {K : PySem.W.Frag} {F : Hp} {C : Option Addr} {vs : List V} {ds : List D} {lo hi : Option Int} (r : Rps K F C vs ds) : Rps K F C (cutV vs lo hi) (cut ds lo hi) := by
  unfold cutV cut
  rw [r.length]
  exact (r.drop _).take _
def rSl (K : PySem.W.Frag) (R : RK) : V → Option Int → Option Int → Hp → VK → Prop := fun x lo hi H Q => ∃ F C a, HF H F C ∧ RpB K F H C x a ∧ (gSl a lo hi).All fun d => ∀ v H' F' C', Step H F C H' F' C' → R K H F' H' C' v d → Q v H'
theorem cut_all {α : Type} {xs : List α} {lo hi : Option Int} (h : HT.sIx xs.length 0 lo = 0 ∧ HT.sIx xs.length xs.length hi = xs.length) : cut xs lo hi = xs := by
  have e1 : cutIx xs.length 0 lo = 0 := h.1
  have e2 : cutIx xs.length xs.length hi = xs.length := h.2
  unfold cut
  rw [e1, e2]
  simp
theorem sl_all : L2.SlR X (rSl X.K RF) := slr_mono (L2.SlR.or sl_list (L2.SlR.or sl_tupA sl_str)) fun x lo hi H Q ⟨F, C, a, hf, ra, h⟩ => by
  cases a with
  | lst xs =>
    obtain ⟨p, vs, rfl, hp, r⟩ := ra.list hf
    exact .inl ⟨p, vs, rfl, .of hp, outL hf h (cut_rps r)⟩
  | tup xs =>
    obtain ⟨p, vs, rfl, hpF, hp, r⟩ := ra.tup hf
    refine .inr (.inl ⟨p, vs, rfl, hp, fun hw => ?_, fun _ => outT hf h (cut_rps r)⟩)
    rw [r.length] at hw
    have h' : (M.ret (D.tup (cut xs lo hi))).All _ := h
    rw [cut_all hw] at h'
    exact out hf h' (.tup hpF r)
  | str s =>
    cases ra.str
    obtain ⟨hz, h⟩ := all_fit h
    refine .inr (.inr ⟨SS s, rfl, by rw [ss_length]; exact Nat.le_of_lt (fits hz), ?_⟩)
    have e : cutS (SS s) lo hi = SS (cut s lo hi) := by
      unfold cutS cut
      rw [ss_length]
      rfl
    rw [e]
    exact out hf h (.str _)
  | _ => exact h.elim
/-- a list's part, as a new list -/
def gSlL (x : D) (lo hi : Option Int) : M D := match x with
  | .lst xs => .ret (.lst (cut xs lo hi))
  | _ => .bad
theorem c_sl {lo hi : Option Expr} {fa fb : FO} {p2 : Pos} (he : CB X e f) (hl : CO X lo fa) (hh : CO X hi fb) : CF X (.Subscript e (.Slice lo hi none p2) pos) (fSl f fa fb) :=
  pe_mono (pe_slice sl_all he hl hh) fun σ H Q ⟨B, F, C, ρ, E, q⟩ => by
    refine ⟨B, F, C, ρ, E, (M.all_bind.mp q).mono fun d q x H1 F1 C1 s1 r1 => ?_⟩
    refine ⟨B, F1, C1, ρ, E.step s1, (M.all_bind.mp q).mono fun o q H2 F2 C2 s2 => ?_⟩
    have s12 := s1.trans E.hf s2
    refine ⟨B, F2, C2, ρ, E.step s12, (M.all_bind.mp q).mono fun o2 q H3 F3 C3 s3 => ?_⟩
    have s13 := s12.trans E.hf s3
    exact ⟨F3, C3, d, s3.hf, (r1.step s2).step s3, q.mono fun d q v H4 F4 C4 s4 r4 => q v H4 F4 C4 (s13.trans E.hf s4) r4⟩
end
end WK
end

section
set_option Elab.async false
set_option linter.all false
set_option maxRecDepth 100000
/-! What is walked, comprehensions, targets, statements, defs. -/
namespace WK
open PySem L2
/-! ### what is walked -/
/-- J gives the things xs one after another, as long as P stands -/
def Wk (K : PySem.W.Frag) (P : Hp → Hp → Option Addr → Prop) (J : It) (xs : List D) : Prop := ∀ (i : Nat) (H F : Hp) (C : Option Addr), P H F C →
  (∀ d, xs[i]? = some d → J.go i H ∧ ∀ x H', J.yld i H x H' → ∃ F', Step H F C H' F' C ∧ Rp K F' C x d) ∧ (i = xs.length → J.stop i H)
/-- what stands through a loop; through a comprehension -/
def PL (H0 F0 : Hp) (C0 : Option Addr) : Hp → Hp → Option Addr → Prop := fun H F C => HF H F C ∧ Same F0 F ∧ ∀ c, C0 = some c → C = some c
def PC (H0 F0 : Hp) (C0 : Option Addr) : Hp → Hp → Option Addr → Prop := fun H F C => HF H0 F0 C0 ∧ Step H0 F0 C0 H F C
theorem PC.pl {H0 F0 H F : Hp} {C0 C : Option Addr} (p : PC H0 F0 C0 H F C) : PL H0 F0 C0 H F C := ⟨p.2.hf, p.2.frz, p.2.cup⟩
theorem Wk.weak {K : PySem.W.Frag} {P P' : Hp → Hp → Option Addr → Prop} {J : It} {xs : List D} (w : Wk K P J xs) (h : ∀ H F C, P' H F C → P H F C) : Wk K P' J xs := fun i H F C p => w i H F C (h _ _ _ p)
def tI (K : PySem.W.Frag) (PP : Hp → Hp → Option Addr → Hp → Hp → Option Addr → Prop) (f : FL) : TI := fun σ H R => ∃ B F C ρ, EnvOk K B σ H F C ρ ∧ (f ρ).All fun xs => ∀ J H' F' C', Step H F C H' F' C' → xs.length ≤ sizeLine → Wk K (PP H' F' C') J xs → R J H'
abbrev CI (X : Cx) (tg e : Expr) (f : FL) : Prop := PI X tg e (tI X.K PL f)
abbrev CJ (X : Cx) (tg e : Expr) (f : FL) : Prop := PI X tg e (tI X.K PC f)
theorem CI.cj {X : Cx} {tg e : Expr} {f : FL} (h : CI X tg e f) : CJ X tg e f := pi_mono h fun σ H R ⟨B, F, C, ρ, E, q⟩ =>
  ⟨B, F, C, ρ, E, q.mono fun xs q J H' F' C' s hz w => q J H' F' C' s hz (w.weak fun _ _ _ p => p.pl)⟩

/-- a list, a tuple, a text -/
def iAny (K : PySem.W.Frag) (te : TE) : TI := fun σ H R => te σ H fun x H1 => (∃ a xs, x = .ref a ∧ SqL K H1 a xs ∧ (xs.length ≤ sizeLine → R (Itl K a) H1)) ∨ (∃ a xs, x = .ref a ∧ SqT K H1 a xs ∧ (xs.length ≤ sizeLine → R (Itt K a) H1)) ∨ ∃ z, x = .str z ∧ R (Its z) H1
theorem pi_any {X : Cx} {tg e : Expr} {te : TE} (he : PE X e te) : PI X tg e (iAny X.K te) := by
  refine ⟨fun pins s σ H R I h => ?_⟩
  refine thn (he.run pins s σ H _ I h) fun v s1 ⟨x, H1, I1, r1, q1⟩ => ?_
  rcases q1 with ⟨a, xs, rfl, hq, q⟩ | ⟨a, xs, rfl, hq, q⟩ | ⟨z, rfl, q⟩
  · cases r1
    obtain ⟨its, rv, p, hz⟩ := I1.list hq
    refine wpAny_pyIter_list p.isList ?_
    refine ⟨s1.heap.objs.size, [s1.heap.objs.size], _, _, H1, rfl, I1.kept (t' := s1.toks) fun b o e => Heap.get?_push_of_some _ e, turn_list a _, ⟨_, Heap.get?_push_size _ rfl, rfl, rfl⟩, fun b hb => ?_, q hz⟩
    have e : b = s1.heap.objs.size := by simpa using hb
    subst e
    exact I1.fpOk (Nat.le_refl _) (I1.hok.fresh (Nat.le_refl _))
  · cases r1
    obtain ⟨its, rv, p, hz⟩ := I1.tuple hq
    refine wpAny_pyIter_tuple (show s1.heap.IsTuple a its.toArray from p) ?_
    refine ⟨s1.heap.objs.size, [s1.heap.objs.size], _, _, H1, rfl, I1.kept (t' := s1.toks) fun b o e => Heap.get?_push_of_some _ e, turn_tuple a _, ⟨_, Heap.get?_push_size _ rfl, rfl, rfl⟩, fun b hb => ?_, q hz⟩
    have e : b = s1.heap.objs.size := by simpa using hb
    subst e
    exact I1.fpOk (Nat.le_refl _) (I1.hok.fresh (Nat.le_refl _))
  · obtain ⟨t, rfl⟩ := r1
    cases ha : z.cps.all (· < 128)
    · exact wpAny_pyIter_wide ha (pi_one (tk := s1.toks) I1 _ (turn_str _ z t "str_iterator" (.inr rfl)) ⟨_, Heap.get?_push_size _ rfl, rfl, rfl⟩ q)
    · exact wpAny_pyIter_ascii ha (pi_one (tk := s1.toks) I1 _ (turn_str _ z t "str_ascii_iterator" (.inl rfl)) ⟨_, Heap.get?_push_size _ rfl, rfl, rfl⟩ q)
section
variable {K : PySem.W.Frag} {P : Hp → Hp → Option Addr → Prop}
theorem wk_lst {a : Addr} {vs : List V} {ds : List D} (h : ∀ H F C, P H F C → HF H F C ∧ SqL K H a vs ∧ Rps K F C vs ds) : Wk K P (Itl K a) ds := fun i H F C p => by
  obtain ⟨hf, hq, r⟩ := h H F C p
  refine ⟨fun d e => ?_, fun e => ⟨vs, hq, by rw [r.length, e]; exact Nat.le_refl _⟩⟩
  obtain ⟨v, e1, r1⟩ := r.get e
  refine ⟨⟨vs, v, hq, e1⟩, fun x H' y => ?_⟩
  obtain ⟨rfl, y⟩ := y
  have := y vs hq
  rw [e1] at this
  cases this
  exact ⟨F, hf.refl, r1⟩
theorem wk_tup {a : Addr} {vs : List V} {ds : List D} (h : ∀ H F C, P H F C → HF H F C ∧ SqT K H a vs ∧ Rps K F C vs ds) : Wk K P (Itt K a) ds := fun i H F C p => by
  obtain ⟨hf, hq, r⟩ := h H F C p
  refine ⟨fun d e => ?_, fun e => ⟨vs, hq, by rw [r.length, e]; exact Nat.le_refl _⟩⟩
  obtain ⟨v, e1, r1⟩ := r.get e
  refine ⟨⟨vs, v, hq, e1⟩, fun x H' y => ?_⟩
  obtain ⟨rfl, y⟩ := y
  have := y vs hq
  rw [e1] at this
  cases this
  exact ⟨F, hf.refl, r1⟩
theorem wk_str {z : List Nat} (h : ∀ H F C, P H F C → HF H F C) : Wk K P (Its (SS z)) (z.map fun c => .str [c]) := fun i H F C p => by
  have hf := h H F C p
  refine ⟨fun d e => ?_, fun e => ?_⟩
  · rw [List.getElem?_map] at e
    cases q : z[i]? with
    | none => rw [q] at e; cases e
    | some c =>
      rw [q] at e
      cases e
      have hi : i < z.length := (List.getElem?_eq_some_iff.mp q).1
      refine ⟨?_, fun x H' y => ?_⟩
      · show i < z.toArray.size
        rw [List.size_toArray]; exact hi
      · obtain ⟨rfl, c', e1, rfl⟩ := y
        have e1' : z.toArray[i]? = some c' := e1
        rw [List.getElem?_toArray, q] at e1'
        cases e1'
        exact ⟨F, hf.refl, .str [c]⟩
  · show z.toArray.size ≤ i
    rw [List.size_toArray, e, List.length_map]
    exact Nat.le_refl _
theorem wk_rng {lo : Int} {n : Nat} (h : ∀ H F C, P H F C → HF H F C) : Wk K P (Itr lo n) (rngL lo n) := fun i H F C p => by
  have hf := h H F C p
  have hl : (rngL lo n).length = n := by unfold rngL; simp
  refine ⟨fun d e => ?_, fun e => by rw [e, hl]; exact Nat.le_refl _⟩
  have hi : i < n := by
    have := (List.getElem?_eq_some_iff.mp e).1
    omega
  unfold rngL at e
  rw [List.getElem?_map, List.getElem?_range hi] at e
  cases e
  refine ⟨hi, fun x H' y => ?_⟩
  obtain ⟨rfl, rfl⟩ := y
  exact ⟨F, hf.refl, .int _⟩
end
section
variable {X : Cx} {tg e a b : Expr} {f f1 f2 : FE} {pos p : Pos}
theorem iseq_go {σ : St} {H : Hp} {R : It → Hp → Prop} (h : tI X.K PL (iSeq f) σ H R) : iAny X.K (tG X.K RF f) σ H R := by
  obtain ⟨B, F, C, ρ, E, q⟩ := h
  refine ⟨B, F, C, ρ, E, (M.all_bind.mp q).mono fun d q v H1 F1 C1 s1 r1 => ?_⟩
  cases r1 with
  | lst hs rs =>
    refine .inl ⟨_, _, rfl, .of (s1.hf.sub _ _ hs), fun hz => q (Itl X.K _) H1 F1 C1 s1 (by rw [← rs.length]; exact hz) (wk_lst fun H2 F2 C2 p => ⟨p.1, .of (p.1.sub _ _ (p.2.1 _ _ hs)), rs.mono p.2.1 p.2.2⟩)⟩
  | tup hs rs =>
    refine .inr (.inl ⟨_, _, rfl, sameT s1.hf.sub hs, fun hz => q (Itt X.K _) H1 F1 C1 s1 (by rw [← rs.length]; exact hz) (wk_tup fun H2 F2 C2 p => ⟨p.1, sameT p.1.sub (sameT p.2.1 hs), rs.mono p.2.1 p.2.2⟩)⟩)
  | str z =>
    obtain ⟨hz, q⟩ := all_if q
    refine .inr (.inr ⟨_, rfl, q _ H1 F1 C1 s1 (by rw [List.length_map]; exact Nat.le_of_lt (fits hz)) (wk_str fun _ _ _ p => p.1)⟩)
  | _ => exact q.elim
theorem iseq_goB {σ : St} {H : Hp} {R : It → Hp → Prop} (h : tI X.K PC (iSeq f) σ H R) : iAny X.K (tG X.K RB f) σ H R := by
  obtain ⟨B, F, C, ρ, E, q⟩ := h
  refine ⟨B, F, C, ρ, E, (M.all_bind.mp q).mono fun d q v H1 F1 C1 s1 r1 => ?_⟩
  rcases r1 with r1 | ⟨p, vs, xs, rfl, rfl, hp, hc, rs⟩ | ⟨p, vs, ks, ds, rfl, rfl, hp, hc, rs⟩
  · cases r1 with
    | lst hs rs =>
      refine .inl ⟨_, _, rfl, .of (s1.hf.sub _ _ hs), fun hz => q (Itl X.K _) H1 F1 C1 s1 (by rw [← rs.length]; exact hz) (wk_lst fun H2 F2 C2 p => ⟨p.2.hf, .of (p.2.hf.sub _ _ (p.2.frz _ _ hs)), rs.mono p.2.frz p.2.cup⟩)⟩
    | tup hs rs =>
      refine .inr (.inl ⟨_, _, rfl, sameT s1.hf.sub hs, fun hz => q (Itt X.K _) H1 F1 C1 s1 (by rw [← rs.length]; exact hz) (wk_tup fun H2 F2 C2 p => ⟨p.2.hf, sameT p.2.hf.sub (sameT p.2.frz hs), rs.mono p.2.frz p.2.cup⟩)⟩)
    | str z =>
      obtain ⟨hz, q⟩ := all_if q
      refine .inr (.inr ⟨_, rfl, q _ H1 F1 C1 s1 (by rw [List.length_map]; exact Nat.le_of_lt (fits hz)) (wk_str fun _ _ _ p => p.2.hf)⟩)
    | _ => exact q.elim
  · exact .inl ⟨p, vs, rfl, .of hp, fun hz => q (Itl X.K p) H1 F1 C1 s1 (by rw [← rs.length]; exact hz) (wk_lst fun H2 F2 C2 z => ⟨z.2.hf, .of (z.2.same _ _ hc hp), rs.mono z.2.frz z.2.cup⟩)⟩
  · exact q.elim
theorem ci_seq (h : CF X e f) : CI X tg e (iSeq f) := pi_mono (pi_any h) fun _ _ _ q => iseq_go q
theorem cj_seq (h : CB X e f) : CJ X tg e (iSeq f) := pi_mono (pi_any h) fun _ _ _ q => iseq_goB q
theorem ci_rng1 (hg : Gl X "range") (hm : X.mg "range" = none) (ha : CB X a f) (hs : starEach [a] X.env = [(false, eval a X.env)] := by rfl) : CI X tg (.Call (.Name "range" p) [a] [] pos) (iRange1 f) :=
  pi_mono (pi_range1 hg hm (pa_cons ha pa_nil hs) hs) fun σ H R ⟨B, F, C, ρ, E, q⟩ => by
    refine ⟨B, F, C, ρ, E, (M.all_bind.mp q).mono fun d q v H1 F1 C1 s1 r1 => ?_⟩
    cases d with
    | int j =>
      cases r1.int
      obtain ⟨h1, q⟩ := all_if q
      refine ⟨j, rfl, by omega, by omega, q _ H1 F1 C1 s1 ?_ (wk_rng fun _ _ _ p => p.1)⟩
      unfold rngL
      rw [List.length_map, List.length_range]
      have e : sizeMax = 16000000 := rfl
      exact Nat.le_of_lt (fits (by omega))
    | _ => exact q.elim
theorem ci_rng2 (hg : Gl X "range") (hm : X.mg "range" = none) (ha : CB X a f1) (hb : CB X b f2) (hs : starEach [a, b] X.env = [(false, eval a X.env), (false, eval b X.env)] := by rfl) (hs2 : starEach [b] X.env = [(false, eval b X.env)] := by rfl) : CI X tg (.Call (.Name "range" p) [a, b] [] pos) (iRange2 f1 f2) :=
  pi_mono (pi_range2 hg hm (pa_cons ha (pa_cons hb pa_nil hs2) (by rw [hs, hs2])) hs hs2) fun σ H R ⟨B, F, C, ρ, E, q⟩ => by
    refine ⟨B, F, C, ρ, E, (M.all_bind.mp q).mono fun d q v H1 F1 C1 s1 r1 => ?_⟩
    refine ⟨B, F1, C1, ρ, E.step s1, (M.all_bind.mp q).mono fun d2 q v2 H2 F2 C2 s2 r2 => ?_⟩
    cases d with
    | int i =>
      cases d2 with
      | int j =>
        cases r1.int; cases r2.int
        obtain ⟨⟨h1, h2⟩, q⟩ := all_if q
        refine ⟨i, j, rfl, ⟨by omega, by omega, by omega, by omega⟩, q _ H2 F2 C2 (s1.trans E.hf s2) ?_ (wk_rng fun _ _ _ p => p.1)⟩
        unfold rngL
        rw [List.length_map, List.length_range]
        have e : sizeMax = 16000000 := rfl
        exact Nat.le_of_lt (fits (by omega))
      | _ => exact q.elim
    | _ => cases d2 <;> exact q.elim
end

/-! ### targets -/
theorem wipe_set (i : Nat) (x : Option V) (σ : St) : ∀ vs : List Nat, i ∈ vs → L2.wipe (σ.set i x) vs = L2.wipe σ vs := by
  have gen : ∀ vs : List Nat, (i ∈ vs → L2.wipe (σ.set i x) vs = L2.wipe σ vs) ∧ (i ∉ vs → L2.wipe (σ.set i x) vs = (L2.wipe σ vs).set i x) := by
    intro vs
    induction vs with
    | nil => exact ⟨fun h => absurd h (by simp), fun _ => rfl⟩
    | cons v vs ih =>
      refine ⟨fun h => ?_, fun h => ?_⟩
      · show (L2.wipe (σ.set i x) vs).set v none = (L2.wipe σ vs).set v none
        by_cases hi : i ∈ vs
        · rw [ih.1 hi]
        · rw [ih.2 hi]
          have e : i = v := by
            rcases List.mem_cons.mp h with h | h
            · exact h
            · exact absurd h hi
          subst e
          rw [List.set_set]
      · show (L2.wipe (σ.set i x) vs).set v none = ((L2.wipe σ vs).set v none).set i x
        have h1 : i ∉ vs := fun z => h (List.mem_cons_of_mem _ z)
        have h2 : v ≠ i := fun z => h (z ▸ List.mem_cons_self)
        rw [ih.2 h1, List.set_comm _ _ h2]
  intro vs h
  exact (gen vs).1 h
/-- is: the names that are stored -/
def tTg (K : PySem.W.Frag) (is : List Nat) (g : FG) : TG := fun v σ H Q => ∃ B F C ρ d, EnvOk K B σ H F C ρ ∧ Rp K F C v d ∧ ∃ ρ', g d ρ = some ρ' ∧ ∀ σ', EnvOk K B σ' H F C ρ' → (∀ vs : List Nat, (∀ i, i ∈ is → i ∈ vs) → L2.wipe σ' vs = L2.wipe σ vs) → Q σ' H
abbrev CGt (X : Cx) (is : List Nat) (e : Expr) (g : FG) : Prop := PG X e (tTg X.K is g)
def tTgs (K : PySem.W.Frag) (is : List Nat) (gs : List FG) : TGs := fun vs σ H Q => ∃ B F C ρ ds, EnvOk K B σ H F C ρ ∧ Rps K F C vs ds ∧ ∃ ρ', gtSeq gs ds ρ = some ρ' ∧ ∀ σ', EnvOk K B σ' H F C ρ' → (∀ vs : List Nat, (∀ i, i ∈ is → i ∈ vs) → L2.wipe σ' vs = L2.wipe σ vs) → Q σ' H
abbrev CGs (X : Cx) (is : List Nat) (es : List Expr) (gs : List FG) : Prop := PGs X es (tTgs X.K is gs)
theorem pgs_mono {X : Cx} {e : List Expr} {t t' : TGs} (h : PGs X e t) (i : ∀ v σ H Q, t' v σ H Q → t v σ H Q) : PGs X e t' := ⟨fun pins s σ H v u Q I r q => h.run pins s σ H v u Q I r (i v σ H Q q)⟩
section
variable {X : Cx} {e : Expr} {es : List Expr} {pos : Pos} {i : Nat} {x : Str} {g : FG} {gs : List FG} {is js : List Nat}
theorem cg_name (h : PG X (.Name x pos) (gName i)) : CGt X [i] (.Name x pos) (gtName i) := pg_mono h fun v σ H Q ⟨B, F, C, ρ, d, E, r, ρ', e, q⟩ => by
  unfold gtName at e
  split at e
  · cases e; exact q _ (E.set r) fun vs h => wipe_set _ _ _ vs (h i List.mem_cons_self)
  · cases e
theorem cgs_nil : CGs X [] [] [] := pgs_mono pgs_nil fun vs σ H Q ⟨B, F, C, ρ, ds, E, r, ρ', e, q⟩ => by
  cases ds with
  | nil => cases e; exact ⟨r.nilD, q _ E fun _ _ => rfl⟩
  | cons _ _ => cases e
theorem cgs_cons (h1 : CGt X is e g) (h2 : CGs X js es gs) (hs : (assignEach (e :: es) X.env).map (·.2) = assign e X.env :: (assignEach es X.env).map (·.2) := by rfl) : CGs X (is ++ js) (e :: es) (g :: gs) :=
  pgs_mono (pgs_cons h1 h2 hs) fun vs σ H Q ⟨B, F, C, ρ, ds, E, r, ρ', e, q⟩ => by
    cases r with
    | nil => cases e
    | @cons v vs d ds r rs =>
      have e' : (match g d ρ with | some ρ1 => gtSeq gs ds ρ1 | none => none) = some ρ' := e
      cases z : g d ρ with
      | none => rw [z] at e'; cases e'
      | some ρ1 =>
        rw [z] at e'
        exact ⟨_, _, rfl, B, F, C, ρ, d, E, r, ρ1, z, fun σ1 E1 w1 => ⟨B, F, C, ρ1, ds, E1, rs, ρ', e', fun σ2 E2 w2 => q σ2 E2 fun vs h =>
          (w2 vs fun i hi => h i (List.mem_append_right _ hi)).trans (w1 vs fun i hi => h i (List.mem_append_left _ hi))⟩⟩
theorem gtSeq_len : ∀ {gs : List FG} {ds : List D} {ρ ρ' : Ev}, gtSeq gs ds ρ = some ρ' → ds.length = gs.length
  | [], [], _, _, _ => rfl
  | [], _ :: _, _, _, h => by cases h
  | _ :: _, [], _, _, h => by cases h
  | g :: gs, d :: ds, ρ, ρ', h => by
    have h' : (match g d ρ with | some ρ1 => gtSeq gs ds ρ1 | none => none) = some ρ' := h
    cases z : g d ρ with
    | none => rw [z] at h'; cases h'
    | some ρ1 =>
      rw [z] at h'
      rw [List.length_cons, List.length_cons, gtSeq_len h']
theorem pg_or {tg : Expr} {g1 g2 : TG} (h1 : PG X tg g1) (h2 : PG X tg g2) : PG X tg (fun v σ H Q => g1 v σ H Q ∨ g2 v σ H Q) := ⟨fun pins s σ H v u Q I r q => by
  rcases q with q | q
  · exact h1.run pins s σ H v u Q I r q
  · exact h2.run pins s σ H v u Q I r q⟩
theorem cg_tup {k : Nat} {n : Nat} (hc : X.calm = true) (h : CGs X is es gs) (hl : gs.length = n := by rfl) (hn : (assignEach es X.env).length = n := by rfl) (hst : (assignEach es X.env).findIdx? (·.1) = none := by rfl) : CGt X is (.Tuple es k pos) (gtTup gs) :=
  pg_mono (pg_or (pg_tup hc h hn hst) (pg_unl hc h hn hst)) fun v σ H Q ⟨B, F, C, ρ, d, E, r, ρ', e, q⟩ => by
    cases r with
    | @tup a vs ds hs rs =>
      have e' : gtSeq gs ds ρ = some ρ' := e
      exact .inl ⟨a, vs, rfl, sameT E.hf.sub hs, by rw [rs.length, gtSeq_len e', hl], B, F, C, ρ, ds, E, rs, ρ', e', q⟩
    | @lst a vs ds hs rs =>
      have e' : gtSeq gs ds ρ = some ρ' := e
      exact .inr ⟨a, vs, rfl, .of (E.hf.sub _ _ hs), by rw [rs.length, gtSeq_len e', hl], B, F, C, ρ, ds, E, rs, ρ', e', q⟩
    | _ => cases e
end

/-! ### comprehensions -/
theorem wipe_twice (σ : St) : ∀ vs : List Nat, L2.wipe (L2.wipe σ vs) vs = L2.wipe σ vs := by
  have gen : ∀ (vs ws : List Nat), (∀ i, i ∈ ws → i ∈ vs) → ∀ τ : St, L2.wipe (L2.wipe τ ws) vs = L2.wipe τ vs := by
    intro vs ws
    induction ws with
    | nil => intro _ τ; rfl
    | cons w ws ih =>
      intro h τ
      show L2.wipe ((L2.wipe τ ws).set w none) vs = L2.wipe τ vs
      rw [wipe_set w none _ vs (h w List.mem_cons_self), ih fun i hi => h i (List.mem_cons_of_mem _ hi)]
  intro vs
  exact gen vs vs (fun _ h => h) σ
section
variable {X : Cx} {elt tg iter : Expr} {ifs : List Expr} {scope : Scope} {own : List (Str × Nat)} {pos : Pos} {it : FL} {g : FG} {tf fe : FE}
abbrev CTs (X : Cx) (ifs : List Expr) (f : FE) : Prop := PTs X ifs (tT X.K f)
theorem cts_nil : CTs X [] (fC (.bl true)) := ⟨fun pins s σ H Q I ⟨B, F, C, ρ, E, q⟩ => by
  obtain ⟨b, e, q⟩ := q
  cases e
  exact pts_nil.run pins s σ H Q I (q H F C E.hf.refl)⟩
theorem cts_one {c : Expr} (h : CT X c tf) : CTs X [c] tf := pts_one h
/-- the turns that are left: what they make behind acc is what is wanted -/
theorem lc_go {is : List Nat} (his : ∀ i, i ∈ is → i ∈ own.map (·.2)) {σ : St} {H : Hp} {Q : VK} (h : tG X.K RN (fLc it g tf fe (own.map (·.2))) σ H Q) : tLc (tI X.K PC it) (tTg X.K is g) (tT X.K tf) (tG X.K RF fe) (own.map (·.2)) σ H Q := by
  obtain ⟨B, F, C, ρ, E, q⟩ := h
  refine ⟨B, F, C, ρ, E, (M.all_bind.mp q).mono fun xs q J H1 F1 C1 s1 hz wk => ?_⟩
  obtain ⟨hz, q⟩ := all_if q
  intro D nD
  have nF : F1 D = none := s1.hf.sub.free nD
  have nB : B D = none := (E.step s1).base.free nD
  have nC : C1 ≠ some D := (s1.hf.notNew nD).2
  have nH : H D = none := by
    cases z : H D with
    | none => rfl
    | some o => exact absurd nD (s1.there E.hf (by rw [z]; simp))
  -- what stands ahead of turn i
  let turn : Ev → WK.D → M (List WK.D) := fun ρ' x => match g x ρ' with
    | some ρ2 => (tf ρ2).bind fun b => onB b ((fe ρ2).bind fun d => .ret [d]) (.ret [])
    | none => .bad
  let ρ' := WK.wipe ρ (own.map (·.2))
  let St : Nat → Hp → Prop := fun i H2 => ∃ (F2 : Hp) (C2 : Option Addr) (acc : List V) (ds : List WK.D), Step H1 F1 C1 H2 F2 C2 ∧ H2 D = some (.lst acc) ∧ F2 D = none ∧ C2 ≠ some D ∧ acc.length ≤ i ∧ Rps X.K F2 C2 acc ds ∧
    (mapM (turn ρ') (xs.drop i)).All fun yss => ∀ v H' F' C', Step H F C H' F' C' → RpN X.K H F' H' C' v (.lst (ds ++ yss.flatten)) → Q v H'
  refine ⟨fun i m H2 => m = xs.length - i ∧ i ≤ xs.length ∧ St i H2, ⟨xs.length, by simp, Nat.zero_le _, F1, C1, [], [], s1.hf.laid nD, upd_same, nF, nC, Nat.le_refl _, .nil, ?_⟩, ?_⟩
  · rw [List.drop_zero]
    exact (M.all_bind.mp q).mono fun yss q v H' F' C' s r => q v H' F' C' s r
  · rintro i m H2 ⟨rfl, hi, F2, C2, acc, ds, s2, hD, fD, cD, hacc, rs, q⟩
    have s02 := s1.trans E.hf s2
    obtain ⟨w1, w2⟩ := wk i H2 F2 C2 ⟨s1.hf, s2⟩
    by_cases hlt : i < xs.length
    · have ex : xs[i]? = some xs[i] := List.getElem?_eq_getElem hlt
      obtain ⟨go, yl⟩ := w1 _ ex
      refine .inr ⟨go, St (i + 1), fun H' st => ⟨xs.length - (i + 1), by omega, rfl, hlt, st⟩, fun x H3 y => ?_⟩
      obtain ⟨F3, s3, r3⟩ := yl x H3 y
      have s03 := s02.trans E.hf s3
      have s13 := s2.trans s1.hf s3
      rw [List.drop_eq_getElem_cons hlt] at q
      have q : ((turn ρ' xs[i]).bind fun y => (mapM (turn ρ') (xs.drop (i + 1))).bind fun ys => .ret (y :: ys)).All _ := q
      rw [M.all_bind] at q
      have E3 : EnvOk X.K B (L2.wipe σ (own.map (·.2))) H3 F3 C2 ρ' := (E.step s03).wipe _
      have hD3 : H3 D = some (.lst acc) := s3.same D _ cD hD
      have fD3 : F3 D = none := s3.new D (by rw [hD]; simp) fD
      refine ⟨B, F3, C2, ρ', xs[i], E3, r3, ?_⟩
      cases eg : g xs[i] ρ' with
      | none =>
        have z : turn ρ' xs[i] = .bad := by show (match g xs[i] ρ' with | some _ => _ | none => _) = _; rw [eg]
        rw [z] at q
        exact q.elim
      | some ρ2 =>
        have z : turn ρ' xs[i] = (tf ρ2).bind fun b => onB b ((fe ρ2).bind fun d => .ret [d]) (.ret []) := by show (match g xs[i] ρ' with | some _ => _ | none => _) = _; rw [eg]
        rw [z] at q
        refine ⟨ρ2, rfl, fun σ2 E2 w2 => ⟨?_, ?_⟩⟩
        · exact (w2 _ his).trans (wipe_twice _ _)
        · refine ⟨B, F3, C2, ρ2, E2, (M.all_bind.mp q).mono fun b q => ?_⟩
          obtain ⟨k, e, q'⟩ := all_onB q
          clear q
          subst e
          refine ⟨k, rfl, fun H4 F4 C4 s4 => ?_⟩
          have s04 := s03.trans E.hf s4
          have s14 := s13.trans s1.hf s4
          have hD4 : H4 D = some (.lst acc) := s4.same D _ cD hD3
          have fD4 : F4 D = none := s4.new D (by rw [hD3]; simp) fD3
          have cD4 : C4 ≠ some D := fun z => by
            rcases s4.cupN D z with z | z
            · exact cD z
            · rw [hD3] at z; cases z
          cases k with
          | false =>
            rw [if_neg Bool.false_ne_true] at q'
            refine iteF ?_
            refine ⟨F4, C4, acc, ds, s14, hD4, fD4, cD4, Nat.le_succ_of_le hacc, rs.mono (s3.frz.trans s4.frz) s4.cup, ?_⟩
            exact (M.all_bind.mp q').mono fun ys q v H' F' C' s r => q v H' F' C' s (by simpa using r)
          | true =>
            rw [if_pos rfl] at q'
            refine iteT ?_
            refine ⟨B, F4, C4, ρ2, E2.step s4, (M.all_bind.mp q').mono fun d q v H5 F5 C5 s5 r5 => ?_⟩
            have hD5 : H5 D = some (.lst acc) := s5.same D _ cD4 hD4
            have fD5 : F5 D = none := s5.new D (by rw [hD4]; simp) fD4
            have cD5 : C5 ≠ some D := fun z => by
              rcases s5.cupN D z with z | z
              · exact cD4 z
              · rw [hD4] at z; cases z
            have s15 := s14.trans s1.hf s5
            refine ⟨acc, hD5, Nat.lt_of_le_of_lt hacc (Nat.lt_trans hlt (Nat.lt_trans hz (by decide))), F5, C5, acc ++ [v], ds ++ [d], ?_, upd_same, fD5, cD5, by rw [List.length_append, List.length_singleton]; omega, ((rs.mono (s3.frz.trans (s4.frz.trans s5.frz)) fun c z => s5.cup c (s4.cup c z)).append (.one r5)), ?_⟩
            · exact s15.put hD5 fD5 cD5 nD
            · exact (M.all_bind.mp q).mono fun ys q v H' F' C' s r => q v H' F' C' s (by simpa using r)
    · have e : i = xs.length := by omega
      refine .inl ⟨w2 e, ?_⟩
      rw [e, List.drop_length] at q
      have q : ∀ v H' F' C', Step H F C H' F' C' → RpN X.K H F' H' C' v (.lst (ds ++ ([] : List (List WK.D)).flatten)) → Q v H' := q
      exact q (.ref D) H2 F2 C2 s02 ⟨D, acc, ds, rfl, by simp, nH, hD, fD, cD, rs⟩
end
end WK
end

section
set_option Elab.async false
set_option linter.all false
set_option maxRecDepth 100000
/-! Comprehensions as rules, statements, defs. -/
namespace WK
open PySem L2
section
variable {X : Cx} {elt tg iter : Expr} {ifs : List Expr} {scope : Scope} {own : List (Str × Nat)} {pos : Pos} {it : FL} {g : FG} {tf fe : FE} {is : List Nat}
theorem c_lc (hc : X.calm = true) (hN : X.N.Nodup) (hi : CJ X tg iter it) (ok : BlkOk X.N X.env.scope scope own) (his : ∀ i, i ∈ is → i ∈ own.map (·.2))
    (hg : ∀ (s : Shared) (H : Hp) (C : Addr) (cl : List (Str × Addr)) (fp : List Addr), CGt (X.blk s H scope (compEnvC scope cl C X.env) fp) is tg g)
    (ht : ∀ (s : Shared) (H : Hp) (C : Addr) (cl : List (Str × Addr)) (fp : List Addr), CTs (X.blk s H scope (compEnvC scope cl C X.env) fp) ifs tf)
    (he : ∀ (s : Shared) (H : Hp) (C : Addr) (cl : List (Str × Addr)) (fp : List Addr), CF (X.blk s H scope (compEnvC scope cl C X.env) fp) elt fe)
    (hs : ∀ x, foldedSetIterable iter X.env x = pure x := by intro _; rfl) : CN X (.ListComp elt [⟨tg, iter, ifs, 0⟩] scope pos) (fLc it g tf fe (own.map (·.2))) :=
  pe_mono (pe_lc hc hN hi ok hg ht he hs) fun _ _ _ h => lc_go his h
end

/-! ### statements -/
/-- from F, C on: nothing that stood ahead of the def is changed -/
structure Grow (B F : Hp) (C : Option Addr) (F' : Hp) (C' : Option Addr) : Prop where
  frz : Same F F'
  cup : ∀ c, C = some c → C' = some c
  new : ∀ b, B b ≠ none → F b = none → F' b = none
theorem Grow.refl (B F : Hp) (C : Option Addr) : Grow B F C F C := ⟨Same.refl _, fun _ e => e, fun _ _ e => e⟩
theorem Grow.trans {B F F1 F2 : Hp} {C C1 C2 : Option Addr} (a : Grow B F C F1 C1) (b : Grow B F1 C1 F2 C2) : Grow B F C F2 C2 := ⟨a.frz.trans b.frz, fun c e => b.cup c (a.cup c e), fun x n e => b.new x n (a.new x n e)⟩
theorem EnvOk.grow {K : PySem.W.Frag} {B : Hp} {σ : St} {H F H' F' : Hp} {C C' : Option Addr} {ρ : Ev} (E : EnvOk K B σ H F C ρ) (s : Step H F C H' F' C') : Grow B F C F' C' :=
  ⟨s.frz, s.cup, fun b n e => s.new b (fun z => n (E.base.free z)) e⟩
def Post (K : PySem.W.Frag) (B F : Hp) (C : Option Addr) (D : Ends) : Fl → Prop
  | .nx ρ' => ∀ σ' H' F' C', EnvOk K B σ' H' F' C' ρ' → Grow B F C F' C' → D.nx σ' H'
  | .bk ρ' => ∀ σ' H' F' C', EnvOk K B σ' H' F' C' ρ' → Grow B F C F' C' → D.bk σ' H'
  | .ct ρ' => ∀ σ' H' F' C', EnvOk K B σ' H' F' C' ρ' → Grow B F C F' C' → D.ct σ' H'
  | .rt d => ∀ v H' F' C', HF H' F' C' → Same B H' → (∀ c, C' = some c → B c = none) → Grow B F C F' C' → Rp K F' C' v d → D.rt v H'
theorem Post.grow {K : PySem.W.Frag} {B F F1 : Hp} {C C1 : Option Addr} {D : Ends} (g : Grow B F C F1 C1) : ∀ {fl : Fl}, Post K B F C D fl → Post K B F1 C1 D fl
  | .nx _, p => fun σ' H' F' C' E g' => p σ' H' F' C' E (g.trans g')
  | .bk _, p => fun σ' H' F' C' E g' => p σ' H' F' C' E (g.trans g')
  | .ct _, p => fun σ' H' F' C' E g' => p σ' H' F' C' E (g.trans g')
  | .rt _, p => fun v H' F' C' h b c g' r => p v H' F' C' h b c (g.trans g') r
def tX (K : PySem.W.Frag) (f : FS) : TS := fun D σ H => ∃ B F C ρ, EnvOk K B σ H F C ρ ∧ (f ρ).All (Post K B F C D)
abbrev CS (X : Cx) (st : Stmt) (f : FS) : Prop := PS X st (tX X.K f)
abbrev CSs (X : Cx) (sts : List Stmt) (f : FS) : Prop := PSs X sts (tX X.K f)
section
variable {X : Cx} {st : Stmt} {sts : List Stmt} {e : Expr} {f g : FE} {s t : FS} {pos : Pos} {i j : Nat} {x : Str} {gt : FG} {is : List Nat} {tg : Expr}
theorem ss_nil : CSs X [] sNil := pss_mono pss_nil fun D σ H ⟨B, F, C, ρ, E, q⟩ => q σ H F C E (Grow.refl _ _ _)
theorem seq_go {D : Ends} {σ : St} {H : Hp} (h : tX X.K (sSeq s t) D σ H) : tSeq (tX X.K s) (tX X.K t) D σ H := by
  obtain ⟨B, F, C, ρ, E, q⟩ := h
  refine ⟨B, F, C, ρ, E, (M.all_bind.mp q).mono fun fl q => ?_⟩
  cases fl with
  | nx ρ' => exact fun σ' H' F' C' E' gr => ⟨B, F', C', ρ', E', M.All.mono (fun fl p => p.grow gr) q⟩
  | rt d => exact q
  | bk ρ' => exact q
  | ct ρ' => exact q
theorem ss_cons (h1 : CS X st s) (h2 : CSs X sts t) : CSs X (st :: sts) (sSeq s t) := pss_mono (pss_cons h1 h2) fun _ _ _ h => seq_go h
theorem ss_one (h1 : CS X st s) : CSs X [st] s := pss_one h1
/-- a name's own list is shared from here on -/
theorem ss_frz (i : Nat) (h : CSs X sts s) : CSs X sts (sFrz i s) := pss_mono h fun D σ H ⟨B, F, C, ρ, E, q⟩ => by
  obtain ⟨F', E', sm, nw⟩ := E.freeze i
  exact ⟨B, F', C, frz i ρ, E', M.All.mono (fun fl p => p.grow ⟨sm, fun _ z => z, nw⟩) q⟩
theorem asg_go {D : Ends} {σ : St} {H : Hp} (h : tX X.K (sAsg f gt) D σ H) : tAsg (tG X.K RF f) (tTg X.K is gt) D σ H := by
  obtain ⟨B, F, C, ρ, E, q⟩ := h
  refine ⟨B, F, C, ρ, E, (M.all_bind.mp q).mono fun d q v H1 F1 C1 s1 r1 => ?_⟩
  cases z : gt d ρ with
  | none => rw [z] at q; exact q.elim
  | some ρ' =>
    rw [z] at q
    exact ⟨B, F1, C1, ρ, d, E.step s1, r1, ρ', z, fun σ' E' _ => q σ' H1 F1 C1 E' (E.grow s1)⟩
theorem s_asg (h : PS X st (tAsg (tG X.K RF f) (tTg X.K is gt))) : CS X st (sAsg f gt) := ps_mono h fun _ _ _ q => asg_go q
theorem name_go {D : Ends} {σ : St} {H : Hp} (h : tX X.K (sAsg f (gtName i)) D σ H) : tAsg (tG X.K RF f) (gName i) D σ H := by
  obtain ⟨B, F, C, ρ, E, q⟩ := h
  refine ⟨B, F, C, ρ, E, (M.all_bind.mp q).mono fun d q v H1 F1 C1 s1 r1 => ?_⟩
  unfold gtName at q
  split at q
  next hz =>
    split at hz
    next hi => cases hz; exact q _ H1 F1 C1 ((E.step s1).set r1) (E.grow s1)
    next => cases hz
  next => exact q.elim
/-- name = e -/
theorem s_set (h : PS X st (tAsg (tG X.K RF f) (gName i))) : CS X st (sAsg f (gtName i)) := ps_mono h fun _ _ _ q => name_go q
theorem own_go {D : Ends} {σ : St} {H : Hp} (h : tX X.K (sOwn i f) D σ H) : tAsg (tG X.K RN f) (gName i) D σ H := by
  obtain ⟨B, F, C, ρ, E, q⟩ := h
  refine ⟨B, F, C, ρ, E, (M.all_bind.mp q).mono fun d q v H1 F1 C1 s1 r1 => ?_⟩
  obtain ⟨p, vs, xs, rfl, rfl, np, hp, fp, cp, rs⟩ := r1
  obtain ⟨hi, q⟩ := all_if (m := M.ret (Fl.nx (ρ.set i (.ow xs)))) q
  exact q _ H1 F1 C1 ((E.step s1).setOwn hp rs (E.base.free np) fp cp (E.noOwn s1 np)) (E.grow s1)
theorem s_own (h : PS X st (tAsg (tG X.K RN f) (gName i))) : CS X st (sOwn i f) := ps_mono h fun _ _ _ q => own_go q
/-- .. where the statement has a rule of its own for a comprehension -/
theorem lcs {own : List (Str × Nat)} {it : FL} {tf fe : FE} {g2 : FG} (h : PS X st (tAsg (tLc (tI X.K PC it) (tTg X.K is g2) (tT X.K tf) (tG X.K RF fe) (own.map (·.2))) (gName i))) (his : ∀ i, i ∈ is → i ∈ own.map (·.2)) :
    PS X st (tAsg (tG X.K RN (fLc it g2 tf fe (own.map (·.2)))) (gName i)) := ps_mono h fun D σ H q => lc_go his q
theorem nf (h : PS X st (tAsg (tG X.K RN f) (gName i))) : PS X st (tAsg (tG X.K RF f) (gName i)) := ps_mono h fun D σ H ⟨B, F, C, ρ, E, q⟩ => ⟨B, F, C, ρ, E, q.mono fun d k v H' F' C' s r => by
  obtain ⟨p, vs, xs, rfl, rfl, np, hp, fp, cp, rs⟩ := r
  exact k _ H' _ C' (s.freeze np hp fp cp) (.lst upd_same (rs.mono (upd_sub fp) fun _ z => z))⟩
/-- a, b = x, y -/
theorem s_par {a b : Expr} (hij : i ≠ j) (h : PS X st (tPar i j (tCons (tG X.K RF f) (tCons (tG X.K RF g) tNil)))) : CS X st (sPar i j f g) := ps_mono h fun D σ H ⟨B, F, C, ρ, E, q⟩ => by
  refine ⟨B, F, C, ρ, E, (M.all_bind.mp q).mono fun d q v H1 F1 C1 s1 r1 => ?_⟩
  refine ⟨B, F1, C1, ρ, E.step s1, (M.all_bind.mp q).mono fun d2 q v2 H2 F2 C2 s2 r2 => ?_⟩
  obtain ⟨hi, q⟩ := all_if q
  have s12 := s1.trans E.hf s2
  exact ⟨v, v2, rfl, q _ H2 F2 C2 (((E.step s12).set (r1.step s2)).set r2) (E.grow s12)⟩
/-- a, b = [..], y where a will change its list -/
theorem s_parO {a b : Expr} (hij : i ≠ j) (h : PS X st (tPar i j (tCons (tG X.K RN f) (tCons (tG X.K RF g) tNil)))) : CS X st (sParO i j f g) := ps_mono h fun D σ H ⟨B, F, C, ρ, E, q⟩ => by
  refine ⟨B, F, C, ρ, E, (M.all_bind.mp q).mono fun d q v H1 F1 C1 s1 r1 => ?_⟩
  obtain ⟨p, vs, xs, rfl, rfl, np, hp, fp, cp, rs⟩ := r1
  refine ⟨B, F1, C1, ρ, E.step s1, (M.all_bind.mp q).mono fun d2 q v2 H2 F2 C2 s2 r2 => ?_⟩
  obtain ⟨hi, q⟩ := all_if q
  have s12 := s1.trans E.hf s2
  have cp2 : C2 ≠ some p := fun z => by
    rcases s2.cupN p z with z | z
    · exact cp z
    · rw [hp] at z; cases z
  refine ⟨.ref p, v2, rfl, q _ H2 F2 C2 (((E.step s12).setOwn (s2.same p _ cp hp) (rs.mono s2.frz s2.cup) (E.base.free np) (s2.new p (by rw [hp]; simp) fp) cp2 (E.noOwn s12 np)).set r2) (E.grow s12)⟩
theorem s_if {c : Expr} {a b : List Stmt} (hc : CT X c f) (ha : CSs X a s) (hb : CSs X b t) : CS X (.If c a b pos) (sIf f s t) := ps_mono (ps_if hc ha hb) fun D σ H ⟨B, F, C, ρ, E, q⟩ => by
  refine ⟨B, F, C, ρ, E, (M.all_bind.mp q).mono fun d q => ?_⟩
  obtain ⟨k, e, q'⟩ := all_onB q
  clear q
  subst e
  refine ⟨k, rfl, fun H1 F1 C1 s1 => ?_⟩
  cases k with
  | true => exact iteT ⟨B, F1, C1, ρ, E.step s1, M.All.mono (fun fl p => p.grow (E.grow s1)) q'⟩
  | false => exact iteF ⟨B, F1, C1, ρ, E.step s1, M.All.mono (fun fl p => p.grow (E.grow s1)) q'⟩
theorem s_ret (h : CF X e f) : CS X (.Return (some e) pos) (sRet f) := ps_mono (ps_ret h) fun D σ H ⟨B, F, C, ρ, E, q⟩ =>
  ⟨B, F, C, ρ, E, (M.all_bind.mp q).mono fun d q v H1 F1 C1 s1 r1 => q v H1 F1 C1 s1.hf (E.step s1).base (E.step s1).cupB (E.grow s1) r1⟩
theorem s_retN : CS X (.Return none pos) sRetN := ps_mono ps_retN fun D σ H ⟨B, F, C, ρ, E, q⟩ => q .non H F C E.hf E.base E.cupB (Grow.refl _ _ _) .non
theorem s_expr (h : PS X st (tDrop (tG X.K RF f))) : CS X st (sExpr f) := ps_mono h fun D σ H ⟨B, F, C, ρ, E, q⟩ =>
  ⟨B, F, C, ρ, E, (M.all_bind.mp q).mono fun d q v H1 F1 C1 s1 r1 => q σ H1 F1 C1 (E.step s1) (E.grow s1)⟩
theorem s_never : CS X st sNever := ⟨fun _ _ _ _ _ _ ⟨_, _, _, _, _, q⟩ => q.elim⟩
theorem ss_never : CSs X sts sNever := ⟨fun _ _ _ _ _ _ ⟨_, _, _, _, _, q⟩ => q.elim⟩
theorem s_brk : CS X (.Break pos) sBrk := ps_mono ps_break fun D σ H ⟨B, F, C, ρ, E, q⟩ => q σ H F C E (Grow.refl _ _ _)
theorem s_ct : CS X (.Continue pos) sCt := ps_mono ps_continue fun D σ H ⟨B, F, C, ρ, E, q⟩ => q σ H F C E (Grow.refl _ _ _)
theorem s_pass : CS X (.Pass pos) sNil := ps_mono ps_pass fun D σ H ⟨B, F, C, ρ, E, q⟩ => q σ H F C E (Grow.refl _ _ _)
/-- an own list changed -/
theorem EnvOk.put {K : PySem.W.Frag} {B H F : Hp} {C : Option Addr} {σ : St} {ρ : Ev} (E : EnvOk K B σ H F C ρ) {xs ys : List D} {p : Addr} {ws : List V} (e : ρ[i]? = some (.ow xs)) (e1 : σ[i]? = some (some (.ref p))) (r : Rps K F C ws ys) :
    EnvOk K B σ (upd H p (.lst ws)) F C (ρ.set i (.ow ys)) := by
  obtain ⟨b, fp, cp, _⟩ := (E.slot i _ e).facts (a := p) e1
  exact E.putS e (p := p) e1 ⟨p, ws, e1, upd_same, r, b, fp, cp⟩ fun a w => w
/-- xs.append(e) -/
theorem s_app (h : PS X st (tDrop (tBM X.K "list" rAppend (tVar i) (tCons (tG X.K RF f) tNil)))) : CS X st (sApp i f) := ps_mono h fun D σ H ⟨B, F, C, ρ, E, q⟩ => by
  unfold sApp at q
  cases e : ρ[i]? with
  | none => rw [e] at q; exact q.elim
  | some s =>
    rw [e] at q
    cases s with
    | ow xs =>
      obtain ⟨p, vs, e1, hp, rs, b, fp, cp⟩ := E.slot i _ e
      refine ⟨.ref p, e1, .inl ⟨rfl, vs, .of hp⟩, B, F, C, ρ, E, (M.all_bind.mp q).mono fun d q v H1 F1 C1 s1 r1 => ?_⟩
      obtain ⟨hz, q⟩ := all_if q
      refine ⟨p, vs, v, rfl, rfl, s1.same p _ cp hp, ?_, q _ _ F1 C1 ((E.step s1).put e e1 ((rs.mono s1.frz s1.cup).append (.one r1))) (E.grow s1)⟩
      rw [rs.length]
      exact Nat.lt_trans hz (by decide)
    | _ => exact q.elim
theorem loop_go {xs : List D} {J : It} {D : Ends} {σ : St} {H1 B F1 : Hp} {C1 : Option Addr} {ρ : Ev} (E : EnvOk X.K B σ H1 F1 C1 ρ) (wk : Wk X.K (PL H1 F1 C1) J xs) (q : (loop gt s xs ρ).All (Post X.K B F1 C1 D)) :
    ∃ W : Nat → Nat → St → Hp → Prop, (∃ m, W 0 m σ H1) ∧ ∀ i m σ H, W i m σ H →
      (J.stop i H ∧ D.nx σ H) ∨ (J.go i H ∧ ∃ N : St → Hp → Prop, (∀ σ' H', N σ' H' → ∃ m', m' < m ∧ W (i + 1) m' σ' H') ∧ ∀ x H', J.yld i H x H' → tTg X.K is gt x σ H' fun σ2 H2 => tX X.K s { D with nx := N, ct := N, bk := D.nx } σ2 H2) := by
  let St : Nat → L2.St → Hp → Prop := fun i σ2 H2 => ∃ F2 C2 ρ2, EnvOk X.K B σ2 H2 F2 C2 ρ2 ∧ Grow B F1 C1 F2 C2 ∧ (loop gt s (xs.drop i) ρ2).All (Post X.K B F1 C1 D)
  refine ⟨fun i m σ2 H2 => m = xs.length - i ∧ i ≤ xs.length ∧ St i σ2 H2, ⟨xs.length, by simp, Nat.zero_le _, F1, C1, ρ, E, Grow.refl _ _ _, by rw [List.drop_zero]; exact q⟩, ?_⟩
  rintro i m σ2 H2 ⟨rfl, hi, F2, C2, ρ2, E2, g2, q⟩
  obtain ⟨w1, w2⟩ := wk i H2 F2 C2 ⟨E2.hf, g2.frz, g2.cup⟩
  by_cases hlt : i < xs.length
  · obtain ⟨go, yl⟩ := w1 _ (List.getElem?_eq_getElem hlt)
    refine .inr ⟨go, St (i + 1), fun σ' H' st => ⟨xs.length - (i + 1), by omega, rfl, hlt, st⟩, fun x H3 y => ?_⟩
    obtain ⟨F3, s3, r3⟩ := yl x H3 y
    rw [List.drop_eq_getElem_cons hlt] at q
    have q : (match gt xs[i] ρ2 with
      | none => M.bad
      | some ρ1 => (s ρ1).bind fun fl => match fl with
        | .nx ρ2 => loop gt s (xs.drop (i + 1)) ρ2
        | .ct ρ2 => loop gt s (xs.drop (i + 1)) ρ2
        | .bk ρ2 => .ret (.nx ρ2)
        | .rt d => .ret (.rt d)).All (Post X.K B F1 C1 D) := q
    cases eg : gt xs[i] ρ2 with
    | none => rw [eg] at q; exact q.elim
    | some ρ3 =>
      rw [eg] at q
      have g3 := g2.trans (E2.grow s3)
      refine ⟨B, F3, C2, ρ2, xs[i], E2.step s3, r3, ρ3, eg, fun σ3 E3 _ => ⟨B, F3, C2, ρ3, E3, (M.all_bind.mp q).mono fun fl q => ?_⟩⟩
      cases fl with
      | nx ρ4 => exact fun σ4 H4 F4 C4 E4 g4 => ⟨F4, C4, ρ4, E4, g3.trans g4, q⟩
      | ct ρ4 => exact fun σ4 H4 F4 C4 E4 g4 => ⟨F4, C4, ρ4, E4, g3.trans g4, q⟩
      | bk ρ4 => exact fun σ4 H4 F4 C4 E4 g4 => q σ4 H4 F4 C4 E4 (g3.trans g4)
      | rt d => exact fun v H4 F4 C4 h b c g4 r => q v H4 F4 C4 h b c (g3.trans g4) r
  · have e : i = xs.length := by omega
    rw [e, List.drop_length] at q
    exact .inl ⟨w2 e, q σ2 H2 F2 C2 E2 g2⟩
theorem for_go {it : FL} {D : Ends} {σ : St} {H : Hp} (h : tX X.K (sFor it gt s) D σ H) : tFor (tI X.K PL it) (tTg X.K is gt) (tX X.K s) D σ H := by
  obtain ⟨B, F, C, ρ, E, q⟩ := h
  exact ⟨B, F, C, ρ, E, (M.all_bind.mp q).mono fun xs q J H1 F1 C1 s1 hz wk => loop_go (E.step s1) wk (M.All.mono (fun fl p => p.grow (E.grow s1)) q)⟩
theorem s_for {iter : Expr} {body : List Stmt} {it : FL} (hp : PassesOwn (model X.prog X.w) X.A X.env X.xe) (hc : X.calm = true) (hi : CI X tg iter it) (hg : CGt X is tg gt) (hb : CSs X body s) (hs : ∀ x, foldedSetIterable iter X.env x = pure x := by intro _; rfl) :
    CS X (.For tg iter body [] pos) (sFor it gt s) := ps_mono (ps_for hp hc hi hg hb hs) fun _ _ _ h => for_go h
theorem while_go {n : Nat} {D : Ends} {σ : St} {H : Hp} (h : tX X.K (sWhile n f s) D σ H) : tWhile (tT X.K f) (tX X.K s) D σ H := by
  obtain ⟨B, F, C, ρ, E, q⟩ := h
  let W : Nat → L2.St → Hp → Prop := fun m σ2 H2 => ∃ F2 C2 ρ2, EnvOk X.K B σ2 H2 F2 C2 ρ2 ∧ Grow B F C F2 C2 ∧ (wloop f s m ρ2).All (Post X.K B F C D)
  refine ⟨W, ⟨n, F, C, ρ, E, Grow.refl _ _ _, q⟩, fun m σ2 H2 ⟨F2, C2, ρ2, E2, g2, q⟩ => ?_⟩
  cases m with
  | zero => exact q.elim
  | succ m =>
    refine ⟨B, F2, C2, ρ2, E2, (M.all_bind.mp q).mono fun d q => ?_⟩
    obtain ⟨k, e, q'⟩ := all_onB q
    clear q
    subst e
    refine ⟨k, rfl, fun H3 F3 C3 s3 => ?_⟩
    have g3 := g2.trans (E2.grow s3)
    cases k with
    | false => exact iteF (q' σ2 H3 F3 C3 (E2.step s3) g3)
    | true =>
      refine iteT ⟨W m, fun σ' H' w => ⟨m, Nat.lt_succ_self m, w⟩, B, F3, C3, ρ2, E2.step s3, (M.all_bind.mp q').mono fun fl q => ?_⟩
      cases fl with
      | nx ρ4 => exact fun σ4 H4 F4 C4 E4 g4 => ⟨F4, C4, ρ4, E4, g3.trans g4, q⟩
      | ct ρ4 => exact fun σ4 H4 F4 C4 E4 g4 => ⟨F4, C4, ρ4, E4, g3.trans g4, q⟩
      | bk ρ4 => exact fun σ4 H4 F4 C4 E4 g4 => q σ4 H4 F4 C4 E4 (g3.trans g4)
      | rt d => exact fun v H4 F4 C4 h b c g4 r => q v H4 F4 C4 h b c (g3.trans g4) r
theorem s_while (n : Nat) {c : Expr} {body : List Stmt} (hp : PassesOwn (model X.prog X.w) X.A X.env X.xe) (hc : CT X c f) (hb : CSs X body s) : CS X (.While c body [] pos) (sWhile n f s) :=
  ps_mono (ps_while hp hc hb) fun _ _ _ h => while_go h
end

/-! ### defs -/
/-- what a def promises: f of its arguments -/
def spF (K : PySem.W.Frag) (n : Nat) (f : List D → M D) : Sp := fun vs H Q _ => vs.length = n ∧ ∃ F C ds, HF H F C ∧ Rps K F C vs ds ∧ (f ds).All fun d => ∀ v H' F' C', Step H F C H' F' C' → Rp K F' C' v d → Q v H'
section
variable {P : Program} {w : World} {K : PySem.W.Frag} {mg : Str → Option Value} {base : Heap}
theorem start_env {N : List Str} {vs : List V} {ds : List D} {H F : Hp} {C : Option Addr} (hf : HF H F C) (r : Rps K F C vs ds) (hN : vs.length ≤ N.length) :
    EnvOk K (fun b => if C = some b then none else H b) (L2.start N vs) H F C (ds.map .fz ++ List.replicate (N.length - ds.length) .no) := by
  refine ⟨hf, fun b o e => ?_, fun c e => by rw [if_pos e], ?_, fun i s e => ?_, fun i j p xs ys n e1 e2 => ?_⟩
  · have e' : (if C = some b then none else H b) = some o := e
    split at e'
    · cases e'
    · exact e'
  · unfold L2.start
    rw [List.length_append, List.length_append, List.length_map, List.length_map, List.length_replicate, List.length_replicate, r.length]
  · by_cases hi : i < ds.length
    · rw [List.getElem?_append_left (by simpa using hi), List.getElem?_map, List.getElem?_eq_getElem hi] at e
      cases e
      obtain ⟨v, e1, rv⟩ := r.get (List.getElem?_eq_getElem hi)
      refine ⟨v, ?_, rv⟩
      unfold L2.start
      rw [List.getElem?_append_left (by rw [List.length_map, r.length]; exact hi), List.getElem?_map, e1]
      rfl
    · rw [List.getElem?_append_right (by simpa using hi), List.getElem?_replicate] at e
      split at e
      · cases e; trivial
      · cases e
  · by_cases hi : i < ds.length
    · rw [List.getElem?_append_left (by simpa using hi), List.getElem?_map, List.getElem?_eq_getElem hi] at e1
      cases e1
      exact fun w => w.elim
    · rw [List.getElem?_append_right (by simpa using hi), List.getElem?_replicate] at e1
      split at e1
      · cases e1
        exact fun w => w.elim
      · cases e1
theorem fn_run {x qual : Str} {params : Arguments} {body : List Stmt} {scope : Scope} {fa : Addr} {fd : FuncData} {N ps : List Str} {k : Nat} {b : FS}
    (Fd : FunD K x qual params body scope [] [] fa fd) (S : FnScope N ps scope)
    (h : ∀ (cdv : Value) (A : Around) (outer : List Env) (s : Shared) (H : Hp) (E : XK), Room k (A.deeper (PyProof.Rows.envOfC qual scope s.heap.objs.size fa cdv)) → CSs (cxOf CX0 P w K mg base N qual scope fa cdv A outer s H E).nox body b) :
    FnOk P w K mg base CX0 (k + 1) fa fd ps (spF K ps.length (run N.length ps.length b)) := by
  refine Fd.ok S (fun vs H Q E h => h.1) fun cdv A outer s H vs Q E hr hsp => ⟨tX K b, PSs.nox (h cdv A outer s H E hr), ?_⟩
  obtain ⟨hl, F, C, ds, hf, r, q⟩ := hsp
  have hd : ds.length = ps.length := by rw [← r.length]; exact hl
  unfold run at q
  rw [if_pos hd] at q
  have hN : vs.length ≤ N.length := by
    rw [hl]
    have := congrArg List.length S.pre
    rw [List.length_take] at this
    omega
  have E0 := start_env (K := K) (N := N) hf r hN
  rw [hd] at E0
  refine ⟨_, F, C, _, E0, (M.all_bind.mp q).mono fun fl q => ?_⟩
  have back : ∀ {H' F' : Hp} {C' : Option Addr}, HF H' F' C' → Same (fun b => if C = some b then none else H b) H' → (∀ c, C' = some c → (if C = some c then none else H c) = none) → Grow (fun b => if C = some b then none else H b) F C F' C' → Step H F C H' F' C' := fun {H' F' C'} hf' bs cb g => by
    refine ⟨hf', fun b o n e => bs b o (by show (if C = some b then none else H b) = some o; rw [if_neg n]; exact e), g.frz, fun b n e => ?_, g.cup, fun c e => ?_⟩
    · by_cases hb : C = some b
      · exact (hf'.cup b (g.cup b hb)).2
      · exact g.new b (by show (if C = some b then none else H b) ≠ none; rw [if_neg hb]; exact n) e
    · have z := cb c e
      split at z
      · exact .inl (by assumption)
      · exact .inr z
  cases fl with
  | rt d => exact fun v H' F' C' hf' bs cb g r => q v H' F' C' (back hf' bs cb g) r
  | nx ρ' => exact fun σ' H' F' C' E' g => q .non H' F' C' (back E'.hf E'.base E'.cupB g) .non
  | bk ρ' => exact q.elim
  | ct ρ' => exact q.elim
end
section
variable {X : Cx} {k : Nat} {fa : Addr} {fd : FuncData} {ps : List Str} {x : Str} {p pos : Pos} {e : Expr} {es : List Expr} {fl : FL} {sf : List D → M D} {n : Nat}
/-- a promise that says how many arguments there are -/
def Arity (n : Nat) (sf : List D → M D) : Prop := ∀ (ds : List D) (P : D → Prop), (sf ds).All P → ds.length = n
theorem arity_run {m n : Nat} {b : FS} : Arity n (run m n b) := fun ds P h => by
  unfold run at h
  exact (all_if h).1
/-- a def called -/
theorem c_call (Fn : FnOk X.prog X.w X.K X.mg X.base CX0 k fa fd ps (spF X.K n sf)) (hsf : Arity n sf) (hr : Room k X.A) (hg : Gl X x) (hm : X.mg x = some (.ref fa)) (hk : PySem.W.keepIn X.K (.ref fa) = true) (hb : Binds X.K fd ps [])
    (ha : CA X (e :: es) fl) (hdb : (x == ("__debug__" : Str)) = false := by decide) (he : starEach (e :: es) X.env = (false, eval e X.env) :: starEach es X.env := by rfl) (hpl : (backTo pos (starEach es X.env)).any (·.1) = false := by rfl) : CF X (.Call (.Name x p) (e :: es) [] pos) (fArgs sf fl) :=
  pe_mono (pe_call Fn hr hg hm hk hb .nil pass0 ha hdb he hpl) fun σ H Q ⟨B, F, C, ρ, E, q⟩ => by
    refine ⟨B, F, C, ρ, E, M.All.mono (fun ds q vs H1 F1 C1 s1 r1 => ?_) (M.all_bind.mp q)⟩
    show spF X.K n sf (vs ++ []) H1 Q E0
    rw [List.append_nil]
    exact ⟨by rw [r1.length]; exact hsf ds _ q, F1, C1, ds, s1.hf, r1, M.All.mono (fun d q v H' F' C' s r => q v H' F' C' (s1.trans E.hf s) r) q⟩
end
end WK
end

section
set_option Elab.async false
set_option linter.all false
set_option maxRecDepth 100000
/-! Built-ins. -/
namespace WK
open PySem L2
section
variable {X : Cx}
theorem cr1 {f : Value} {r : List V → Hp → VK → Prop} {R : RK} {g : D → M D} (h : CallR X f r) (i : ∀ x H Q F C a, HF H F C → RpB X.K F H C x a → ((g a).All fun d => ∀ v H' F' C', Step H F C H' F' C' → R X.K H F' H' C' v d → Q v H') → r [x] H Q) : CallR X f (rC1 X.K R g) :=
  callr_mono h fun xs H Q ⟨x, e, F, C, a, hf, ra, q⟩ => by subst e; exact i x H Q F C a hf ra q
theorem cr2 {f : Value} {r : List V → Hp → VK → Prop} {g : D → D → M D} (h : CallR X f r) (i : ∀ x y H Q F C a b, HF H F C → RpB X.K F H C x a → RpB X.K F H C y b → ((g a b).All fun d => ∀ v H' F' C', Step H F C H' F' C' → Rp X.K F' C' v d → Q v H') → r [x, y] H Q) : CallR X f (rC2 X.K g) :=
  callr_mono h fun xs H Q ⟨x, y, e, F, C, a, b, hf, ra, rb, q⟩ => by subst e; exact i x y H Q F C a b hf ra rb q
theorem bi_len : CallR X (.builtin "len") (rC1 X.K RF gLen) := cr1 (CallR.or call_len_seq call_len_str) fun x H Q F C a hf ra h => by
  cases a with
  | lst xs =>
    obtain ⟨p, vs, rfl, hp, r⟩ := ra.list hf
    refine .inl ⟨p, vs, rfl, .inl (.of hp), ?_⟩
    rw [r.length]
    exact out hf h (.int _)
  | tup xs =>
    obtain ⟨p, vs, rfl, _, hp, r⟩ := ra.tup hf
    refine .inl ⟨p, vs, rfl, .inr hp, ?_⟩
    rw [r.length]
    exact out hf h (.int _)
  | str s =>
    cases ra.str
    obtain ⟨hz, h⟩ := all_fit h
    refine .inr ⟨SS s, rfl, by rw [ss_length]; exact Nat.le_of_lt (fits hz), ?_⟩
    rw [ss_length]
    exact out hf h (.int _)
  | _ => exact h.elim
theorem all_mopt {α : Type} {P : D → Prop} {o : Option α} {g : α → M D} (h : (onO o g).All P) : ∃ a, o = some a ∧ (g a).All P := by
  cases o with
  | none => exact h.elim
  | some a => exact ⟨a, rfl, h⟩
theorem bi_all (hc : X.calm = true) : CallR X (.builtin "all") (rC1 X.K RF gAll) := cr1 (cr_all hc) fun x H Q F C a hf ra h => by
  cases a with
  | lst xs =>
    obtain ⟨p, vs, rfl, hp, r⟩ := ra.list hf
    obtain ⟨bs, e, h⟩ := all_mopt h
    cases r.bools e
    exact ⟨p, bs, rfl, .of hp, out hf h (.bl _)⟩
  | _ => exact h.elim
theorem bi_sum (hc : X.calm = true) : CallR X (.builtin "sum") (rC1 X.K RF gSum) := cr1 (cr_sum hc) fun x H Q F C a hf ra h => by
  cases a with
  | lst xs =>
    obtain ⟨p, vs, rfl, hp, r⟩ := ra.list hf
    obtain ⟨bs, e, h⟩ := all_mopt h
    cases r.ints e
    exact ⟨p, bs, rfl, .of hp, out hf h (.int _)⟩
  | _ => exact h.elim
theorem maxI_spec : ∀ (ns : List Int) (m : Int), m ∈ ns → (∀ y, y ∈ ns → y ≤ m) → maxI ns = m
  | [], m, h, _ => by simp at h
  | [x], m, h, _ => by simp at h; subst h; rfl
  | x :: y :: r, m, h, k => by
    show max x (maxI (y :: r)) = m
    have hx : x ≤ m := k x List.mem_cons_self
    rcases List.mem_cons.mp h with e | h'
    · subst e
      have hle : ∀ (l : List Int), l ≠ [] → (∀ z, z ∈ l → z ≤ m) → maxI l ≤ m := by
        intro l
        induction l with
        | nil => intro z; exact absurd rfl z
        | cons a l ih =>
          intro _ hz
          cases l with
          | nil => exact hz a List.mem_cons_self
          | cons b l =>
            have := ih (by simp) fun z hz' => hz z (List.mem_cons_of_mem _ hz')
            have := hz a List.mem_cons_self
            show max a (maxI (b :: l)) ≤ m
            omega
      have := hle (y :: r) (by simp) fun z hz => k z (List.mem_cons_of_mem _ hz)
      omega
    · rw [maxI_spec (y :: r) m h' fun z hz => k z (List.mem_cons_of_mem _ hz)]
      omega
theorem minI_spec : ∀ (ns : List Int) (m : Int), m ∈ ns → (∀ y, y ∈ ns → m ≤ y) → minI ns = m
  | [], m, h, _ => by simp at h
  | [x], m, h, _ => by simp at h; subst h; rfl
  | x :: y :: r, m, h, k => by
    show min x (minI (y :: r)) = m
    have hx : m ≤ x := k x List.mem_cons_self
    rcases List.mem_cons.mp h with e | h'
    · subst e
      have hle : ∀ (l : List Int), l ≠ [] → (∀ z, z ∈ l → m ≤ z) → m ≤ minI l := by
        intro l
        induction l with
        | nil => intro z; exact absurd rfl z
        | cons a l ih =>
          intro _ hz
          cases l with
          | nil => exact hz a List.mem_cons_self
          | cons b l =>
            have := ih (by simp) fun z hz' => hz z (List.mem_cons_of_mem _ hz')
            have := hz a List.mem_cons_self
            show m ≤ min a (minI (b :: l))
            omega
      have := hle (y :: r) (by simp) fun z hz => k z (List.mem_cons_of_mem _ hz)
      omega
    · rw [minI_spec (y :: r) m h' fun z hz => k z (List.mem_cons_of_mem _ hz)]
      omega
theorem asInts_len : ∀ {xs : List D} {ns : List Int}, asInts xs = some ns → ns.length = xs.length
  | [], ns, e => by cases e; rfl
  | x :: xs, ns, e => by
    cases x with
    | int i =>
      have e' : (asInts xs).map (i :: ·) = some ns := e
      cases q : asInts xs with
      | none => rw [q] at e'; cases e'
      | some ms => rw [q] at e'; cases e'; rw [List.length_cons, List.length_cons, asInts_len q]
    | _ => exact nomatch e
theorem bi_max (hc : X.calm = true) : CallR X (.builtin "max") (rC1 X.K RF gMaxL) := cr1 (cr_max hc) fun x H Q F C a hf ra h => by
  cases a with
  | lst xs =>
    cases xs with
    | nil => exact h.elim
    | cons d xs =>
      obtain ⟨p, vs, rfl, hp, r⟩ := ra.list hf
      obtain ⟨ns, e, h⟩ := all_mopt h
      cases r.ints e
      refine ⟨p, ns, rfl, .of hp, by rw [asInts_len e]; simp, fun m h1 h2 => ?_⟩
      rw [maxI_spec ns m h1 h2] at h
      exact out hf h (.int _)
  | _ => exact h.elim
theorem bi_min (hc : X.calm = true) : CallR X (.builtin "min") (rC1 X.K RF gMinL) := cr1 (cr_min hc) fun x H Q F C a hf ra h => by
  cases a with
  | lst xs =>
    cases xs with
    | nil => exact h.elim
    | cons d xs =>
      obtain ⟨p, vs, rfl, hp, r⟩ := ra.list hf
      obtain ⟨ns, e, h⟩ := all_mopt h
      cases r.ints e
      refine ⟨p, ns, rfl, .of hp, by rw [asInts_len e]; simp, fun m h1 h2 => ?_⟩
      rw [minI_spec ns m h1 h2] at h
      exact out hf h (.int _)
  | _ => exact h.elim
theorem bi_max2 (hc : X.calm = true) : CallR X (.builtin "max") (rC2 X.K gMax2) := cr2 (call_max2 hc) fun x y H Q F C a b hf ra rb h => by
  cases a with
  | int i =>
    cases b with
    | int j => cases ra.int; cases rb.int; exact ⟨i, j, rfl, out hf h (.int _)⟩
    | _ => exact h.elim
  | _ => exact h.elim
theorem bi_min2 (hc : X.calm = true) : CallR X (.builtin "min") (rC2 X.K gMin2) := cr2 (call_min2 hc) fun x y H Q F C a b hf ra rb h => by
  cases a with
  | int i =>
    cases b with
    | int j => cases ra.int; cases rb.int; exact ⟨i, j, rfl, out hf h (.int _)⟩
    | _ => exact h.elim
  | _ => exact h.elim
theorem bi_tuple : CallR X (.type "tuple") (rC1 X.K RF gTuple) := cr1 call_tuple_of fun x H Q F C a hf ra h => by
  cases a with
  | lst xs =>
    obtain ⟨p, vs, rfl, hp, r⟩ := ra.list hf
    exact ⟨p, vs, rfl, .inl ⟨.of hp, outT hf h r⟩⟩
  | tup xs =>
    obtain ⟨p, vs, rfl, hpF, hp, r⟩ := ra.tup hf
    exact ⟨p, vs, rfl, .inr ⟨hp, out hf h (.tup hpF r)⟩⟩
  | _ => exact h.elim
theorem bi_list : CallR X (.type "list") (rC1 X.K RN gList) := cr1 call_list_of fun x H Q F C a hf ra h => by
  cases a with
  | lst xs =>
    obtain ⟨p, vs, rfl, hp, r⟩ := ra.list hf
    exact ⟨p, vs, rfl, .inl (.of hp), outN hf h r⟩
  | tup xs =>
    obtain ⟨p, vs, rfl, hpF, hp, r⟩ := ra.tup hf
    exact ⟨p, vs, rfl, .inr hp, outN hf h r⟩
  | _ => exact h.elim
theorem bi_int : CallR X (.type "int") (rC1 X.K RF gInt) := cr1 call_int1 fun x H Q F C a hf ra h => by
  cases a with
  | int i => cases ra.int; exact .inl ⟨i, rfl, out hf h (.int _)⟩
  | _ => exact h.elim
theorem bi_str : CallR X (.type "str") (rC1 X.K RF gStr) := cr1 SkE.call_str_str fun x H Q F C a hf ra h => by
  cases a with
  | str i => cases ra.str; exact ⟨SS i, rfl, out hf h (.str _)⟩
  | _ => exact h.elim
theorem bi_sorted : CallR X (.builtin "sorted") (rC1 X.K RN gSorted) := cr1 cr_sortedI fun x H Q F C a hf ra h => by
  cases a with
  | lst xs =>
    obtain ⟨p, vs, rfl, hp, r⟩ := ra.list hf
    obtain ⟨ns, e, h⟩ := all_mopt h
    cases r.ints e
    refine ⟨p, ns, rfl, .of hp, fun ns' q pm rs nq => ?_⟩
    have e2 : ns' = isort ns := sorted_uniq (pm.trans (isort_perm ns).symm) rs (isort_le ns)
    rw [e2]
    exact outN hf h (Rps.ofInts _) q nq
  | _ => exact h.elim
/-! ### isinstance -/
def tyName : Ty → String
  | .int => "int"
  | .bool => "bool"
  | .str => "str"
  | .tuple => "tuple"
  | .list => "list"
theorem tup_ty {K : PySem.W.Frag} {H : Hp} {a : Addr} {vs : List V} (h : SqT K H a vs) : TyX K H (.ref a) (.type "tuple") := by
  rcases h with (h | ⟨o, h⟩) | ⟨o, its, n, h, c, _⟩
  · exact .base (.tup h)
  · exact .fTuple h
  · exact .kTuple h c
theorem isi_go {K : PySem.W.Frag} {H F : Hp} {C : Option Addr} {x : V} {d : D} {t : Ty} {b : Bool} (hf : HF H F C) (r : RpB K F H C x d) (e : isTy t d = some b) : ∃ T : String, TyX K H x (.type T) ∧ PySem.W.kitOne K (.type T) (.type (tyName t)) = some b := by
  cases d with
  | non => cases r.non; exact ⟨_, .base .non, kit_ty (by cases t <;> cases e <;> decide +kernel)⟩
  | bl _ => cases r.bl; exact ⟨_, .base (.bl _), kit_ty (by cases t <;> cases e <;> decide +kernel)⟩
  | int _ => cases r.int; exact ⟨_, .base (.int _), kit_ty (by cases t <;> cases e <;> decide +kernel)⟩
  | str _ => cases r.str; exact ⟨_, .base (.str _), kit_ty (by cases t <;> cases e <;> decide +kernel)⟩
  | tup xs =>
    obtain ⟨p, vs, rfl, _, hp, _⟩ := r.tup hf
    exact ⟨_, tup_ty hp, kit_ty (by cases t <;> cases e <;> decide +kernel)⟩
  | lst xs =>
    obtain ⟨p, vs, rfl, hp, _⟩ := r.list hf
    exact ⟨_, .base (.lst hp), kit_ty (by cases t <;> cases e <;> decide +kernel)⟩
  | cup => cases t <;> cases e
  | scr => cases t <;> cases e
  | dct => cases t <;> cases e
variable {a : Expr} {f : FE} {p p2 pos : Pos} {y : Str}
theorem c_isi (t : Ty) (hg : Gl X "isinstance") (hm : X.mg "isinstance" = none) (hg2 : Gl X y) (hm2 : X.mg y = none) (hv2 : bootBuiltins y = some (.type (tyName t))) (ha : CB X a f) (hn2 : y ≠ "__name__" := by decide) (hd2 : (y == ("__debug__" : Str)) = false := by decide)
    (he : starEach [a, .Name y p2] X.env = (false, eval a X.env) :: starEach [.Name y p2] X.env := by rfl) (hpl : (backTo pos (starEach [.Name y p2] X.env)).any (·.1) = false := by rfl) : CF X (.Call (.Name "isinstance" p) [a, .Name y p2] [] pos) (fUn (gIsT t) f) :=
  pe_mono (pe_callB call_isi hg hm (by decide +kernel) (pa_cons ha (pa_cons (pe_bltn (v := .ty (tyName t)) hg2 hm2 hv2 rfl hn2 hd2) pa_nil) he) (by decide) (by decide) he hpl) fun σ H Q ⟨B, F, C, ρ, E, q⟩ => by
    refine ⟨B, F, C, ρ, E, M.All.mono (fun d q v H1 F1 C1 s1 r1 => ?_) (M.all_bind.mp q)⟩
    unfold gIsT at q
    cases e : isTy t d with
    | none => rw [e] at q; exact q.elim
    | some b =>
      rw [e] at q
      obtain ⟨T, ty, k⟩ := isi_go s1.hf r1 e
      exact ⟨v, .ty (tyName t), .type T, .type (tyName t), b, rfl, .ty _, ty, k, q _ H1 F1 C1 s1 (.bl b)⟩

/-! ### texts -/
theorem joinL_nil : ∀ ys : List (List Nat), TL.joinL [] ys = ys.flatten
  | [] => rfl
  | [x] => by simp [TL.joinL]
  | x :: y :: r => by
    show x ++ ([] ++ TL.joinL [] (y :: r)) = x ++ (y :: r).flatten
    rw [joinL_nil (y :: r), List.nil_append]
theorem sum_lens (ss : List (List Nat)) : ((ss.map SS).map (·.length)).sum = (ss.map List.length).sum := by
  rw [List.map_map]
  congr 1
def tStr1 (r : V → List V → Hp → VK → Prop) (to te : TE) : TE := tM1 r to te
/-- "".join(xs) -/
theorem c_join {apos : Pos} {s0 : Str} {k} (hs0 : s0 = SS [] := by decide +kernel) (ha : CB X a f) (hs : starEach [a] X.env = [(false, eval a X.env)] := by rfl) (hbase : attributeBase (.Constant (.str s0) k p) "join" X.env (eval (.Constant (.str s0) k p) X.env) = eval (.Constant (.str s0) k p) X.env := by rfl) (hline : (apos.endLine == pos.line) = true := by rfl) :
    CF X (.Call (.Attribute (.Constant (.str s0) k p) "join" apos) [a] [] pos) (fUn gJoin f) :=
  pe_mono (L2.pe_join (o := .Constant (.str s0) k p) pe_str ha hs hbase hline) fun σ H Q ⟨B, F, C, ρ, E, q⟩ => by
    subst hs0
    refine ⟨⟨_, rfl⟩, B, F, C, ρ, E, M.All.mono (fun d q v H1 F1 C1 s1 r1 => ?_) (M.all_bind.mp q)⟩
    have go : ∀ (p : Addr) (ss : List (List Nat)), (SqL X.K H1 p ((ss.map SS).map V.str) ∨ SqT X.K H1 p ((ss.map SS).map V.str)) → (fit (ss.map List.length).sum (.ret (.str ss.flatten))).All (fun d => ∀ v H' F' C', Step H F C H' F' C' → Rp X.K F' C' v d → Q v H') →
        ∃ a p', ∃ ys : List Str, V.str (SS []) = .str a ∧ [V.ref p] = [.ref p'] ∧ (SqL X.K H1 p' (ys.map V.str) ∨ SqT X.K H1 p' (ys.map V.str)) ∧ (ys.map (·.length)).sum + ys.length * a.length ≤ 16777216 ∧ Q (.str (Txt.join a ys)) H1 := fun p ss hp q => by
      obtain ⟨hz, q⟩ := all_fit q
      refine ⟨_, p, ss.map SS, rfl, rfl, hp, ?_, ?_⟩
      · rw [sum_lens, ss_length]
        have := fits hz
        have e : sizeLine = 16777216 := sizeLine_eq
        simp only [List.length_nil, Nat.mul_zero, Nat.add_zero]
        omega
      · rw [SX.join_S, joinL_nil]
        exact q _ H1 F1 C1 s1 (.str _)
    cases d with
    | lst xs =>
      obtain ⟨p, vs, rfl, hp, r⟩ := r1.list s1.hf
      obtain ⟨ss, e, q⟩ := all_mopt q
      cases r.strs e
      exact go p ss (.inl (.of hp)) q
    | tup xs =>
      obtain ⟨p, vs, rfl, _, hp, r⟩ := r1.tup s1.hf
      obtain ⟨ss, e, q⟩ := all_mopt q
      cases r.strs e
      exact go p ss (.inr hp) q
    | _ => exact q.elim
theorem cnt_sign (c : Nat) : ∀ l : List Nat, PyProof.Rows.cnt c l = (l.count c : Nat)
  | [] => rfl
  | n :: r => by
    rw [PyProof.Rows.cnt_cons, cnt_sign c r, List.count_cons]
    by_cases h : n = c
    · simp [h]; omega
    · simp [h]
/-- s.count(c), c one sign -/
theorem c_count {b : Expr} {g : FE} {apos : Pos} (ha : CB X a f) (hb : CB X b g) (hs : starEach [b] X.env = [(false, eval b X.env)] := by rfl) (hbase : attributeBase a "count" X.env (eval a X.env) = eval a X.env := by rfl) (hline : (apos.endLine == pos.line) = true := by rfl) :
    CF X (.Call (.Attribute a "count" apos) [b] [] pos) (fOp gCount (fUn asStr f) g) :=
  pe_mono (pe_m1 PySem.F.slot_str_count PySem.F.type_str_count mt_count ha hb hs hbase hline) fun σ H Q ⟨B, F, C, ρ, E, q⟩ => by
    refine ⟨B, F, C, ρ, E, M.All.mono (fun d q x H1 F1 C1 s1 r1 => ?_) (M.all_bind.mp (M.all_bind.mp q))⟩
    cases d with
    | str s =>
      cases r1.str
      refine ⟨⟨_, rfl⟩, B, F1, C1, ρ, E.step s1, M.All.mono (fun d2 q y H2 F2 C2 s2 r2 => ?_) (M.all_bind.mp q)⟩
      cases d2 with
      | str t =>
        match t, q, r2 with
        | [c], q, r2 =>
          cases r2.str
          refine ⟨_, _, rfl, rfl, ?_⟩
          rw [show SS [c] = ⟨#[c]⟩ from rfl, PyProof.Rows.count_is]
          have := cnt_sign c s
          unfold PyProof.Rows.cnt at this
          show Q (.int (PySem.Spec.countIn _ ((SS s).cps.toList.map _))) H2
          rw [show (SS s).cps.toList = s from rfl, this]
          exact q _ H2 F2 C2 (s1.trans E.hf s2) (.int _)
        | [], q, _ => exact q.elim
        | _ :: _ :: _, q, _ => exact q.elim
      | _ => exact q.elim
    | _ => exact q.elim
end
end WK
end

section
set_option Elab.async false
set_option linter.all false
set_option maxRecDepth 100000
set_option maxHeartbeats 4000000
/-! sorted(set(a list of ints)). -/
namespace WK
open PySem L2
/-- the object that set() lays -/
abbrev young (w : World) : Obj := { cls := .type "set", dict := none, data := .set #[] 0 (.fresh 0 0 (!w.params.followText "set-order")) }
section
variable {P : Program} {w : World} {A : Around} {E : Value → Shared → Prop} {s : Shared}
/-- what a filled set leaves -/
def Filled (w : World) (s : Shared) (ns : List Int) (h' : Heap) (c : Nat) : Prop :=
  SetR w h' s.heap.objs.size (fun j => decide (j ∈ ns)) c ∧ c ≤ ns.length ∧ ∀ b o, s.heap.get? b = some o → h'.get? b = some o
theorem old_ne {h : Heap} {b : Addr} {o : Obj} (e : h.get? b = some o) : b ≠ h.objs.size := Nat.ne_of_lt (Heap.lt_size e)
theorem set_init {l : Addr} {items : Array Value} (ns : List Int) (hh : A.handled = none) (hl : s.heap.IsList l items) (hit : PyProof.Rows.IntsAre items.toList ns) (hz : items.size = ns.length) (hb : ns.length + 1 < scanBound) {Q : Value → Shared → Prop}
    (h : ∀ (h' : Heap) (tk c : Nat), Filled w s ns h' c → Q .none { s with heap := h', toks := tk }) :
    codeAny (model P w) A (.call (.builtin "set.__init__") ⟨[.ref s.heap.objs.size, .ref l], []⟩) (wants Q E) { s with heap := s.heap.push (young w) } := by
  have hS : (s.heap.push (young w)).get? s.heap.objs.size = some (young w) := Heap.get?_push_size _ rfl
  have hT : Shared.TypeIs { s with heap := s.heap.push (young w) } (.ref s.heap.objs.size) "set" := ⟨_, hS, rfl⟩
  obtain ⟨⟨oc, od, odt, os⟩, hol, hcl, nl, hdl⟩ := hl
  simp only at hcl hdl
  subst hcl hdl
  have up1 : (s.heap.push (young w)).get? l = some { cls := .type "list", dict := od, data := .seq items nl, slots := os } := Heap.get?_push_of_some _ hol
  have q1 := F.sub_list_set
  have q2 := F.sub_list_frozenset
  have q3 : (Value.type "list" == Value.type "dict") = false := by decide
  have up2 : (s.heap.push (young w)).IsList l items := ⟨_, up1, rfl, nl, rfl⟩
  refine codeAny_call_builtin F.called_set.init.plain F.entry_set_init (check_set_init_1 hT ?_)
  unfold Builtin.«set.__init__» noKeywords Builtin.Frozenset.updateFrom
  generalize hg : pyIter = it
  wp_walk
  subst hg
  refine wpAny_pyIter_list up2 (wpAny_bind (wpAny_runValue ?_))
  have zz : (s.heap.push (young w)).objs.size = s.heap.objs.size + 1 := Heap.size_push ..
  have lt := Heap.lt_size hol
  have n1 : l ≠ (s.heap.push (young w)).objs.size := by rw [zz]; exact Nat.ne_of_lt (Nat.lt_succ_of_lt lt)
  have n2 : s.heap.objs.size ∉ [(s.heap.push (young w)).objs.size, l] := by
    simp only [List.mem_cons, List.not_mem_nil, or_false, not_or]
    exact ⟨by rw [zz]; exact Nat.ne_of_lt (Nat.lt_succ_self _), Nat.ne_of_gt lt⟩
  have hv : ∀ (i : Nat) (v : Value), items[i]? = some v → ∃ k t, ns[i]? = some k ∧ v = .int k t := fun i v hv => by
    have hi : i < ns.length := hz ▸ (Array.getElem?_eq_some_iff.mp hv).1
    obtain ⟨t, e⟩ := PyProof.Rows.IntsAre.int_at hit i v (by rw [Array.getElem?_toList]; exact hv)
    have e2 := List.getElem?_eq_getElem hi
    exact ⟨ns[i], t, e2, by rw [e, List.getD_eq_getElem?_getD, e2]; rfl⟩
  refine set_update_ints ((Walks.list (by simp [hh]) _ l n1 items).toS) s.heap.objs.size n2 ns hz hb hv (items.size - 0) 0 _ (by omega) (Nat.zero_le _) ⟨⟨_, Heap.get?_push_size _ rfl, rfl, rfl⟩, up2.push _⟩
    ⟨0, Nat.le_refl 0, setR_new_at (Heap.get?_push_of_some _ hS)⟩ fun s' c hm hc' hS' => ?_
  obtain ⟨h', g2, d', tk', os'⟩ := s'
  cases (show g2 = s.gens from hm.gens)
  cases (show d' = s.drawn from hm.drawn)
  cases (show os' = s.os from hm.os)
  show wpAny _ _ _ _ _ _
  refine wpAny_pure ?_
  show wpAny _ _ (ret Value.none) _ _ _
  refine wpAny_pure (h h' tk' c ⟨hS', hz ▸ hc', fun b o e => hm.heap b o ?_ (Heap.get?_push_of_some _ (Heap.get?_push_of_some _ e))⟩)
  have := Heap.lt_size e
  simp only [List.mem_cons, List.not_mem_nil, or_false, not_or]
  exact ⟨Nat.ne_of_lt this, by rw [zz]; exact Nat.ne_of_lt (Nat.lt_succ_of_lt this)⟩
theorem set_of_list {l : Addr} {items : Array Value} (ns : List Int) (hh : A.handled = none) (hl : s.heap.IsList l items) (hit : PyProof.Rows.IntsAre items.toList ns) (hz : items.size = ns.length) (hb : ns.length + 1 < scanBound) {Q : Value → Shared → Prop}
    (h : ∀ (h' : Heap) (tk c : Nat), Filled w s ns h' c → Q (.ref s.heap.objs.size) { s with heap := h', toks := tk }) :
    wpAny (model P w) A (call (.type "set") [.ref l]) Q E s := by
  obtain ⟨c, tl, hmro⟩ := F.called_set.mro
  have hmade := F.called_set.made
  have hsub := F.called_set.sub
  have h1 := F.called_set.notType
  have h2 := F.called_set.canCreate
  have hct := F.typeCall_set_1 (.ref l)
  have hS : (s.heap.push (young w)).get? s.heap.objs.size = some (young w) := Heap.get?_push_size _ rfl
  have hT : Shared.TypeIs { s with heap := s.heap.push (young w) } (.ref s.heap.objs.size) "set" := ⟨_, hS, rfl⟩
  have hli := F.called_set.init.lookup
  have hbi := F.called_set.init.bind (.ref s.heap.objs.size)
  refine wpAny_call (codeAny_of_tree ?_)
  show wpAny _ _ (callAny (.type "set") _) _ _ _
  refine wpAny_pure ⟨Code.quiet_builtin _ (by decide +kernel), codeAny_builtin F.entry_type_call ?_⟩
  rw [Around.under_plain (weight_type_call_type "set" [.ref l] []) rfl]
  repeat (any_goals (first | assumption | wp_step))
  refine codeAny_mono (code_set_led1 (.ref l) (E := E) (Q₁ := fun x s1 => x = .ref s.heap.objs.size ∧ s1 = { s with heap := s.heap.push (young w) }) ⟨rfl, rfl⟩) fun r s1 hr => ?_
  match r, hr with
  | .error e, hr => exact hr
  | .ok (.ret x), ⟨e1, e2⟩ =>
    subst e1 e2
    repeat (any_goals (first | assumption | wp_step))
    refine codeAny_mono (set_init (P := P) (A := A.in1) (E := E) (Q := fun x s2 => x = .none ∧ ∃ h' tk c, s2 = { s with heap := h', toks := tk } ∧ Filled w s ns h' c) ns (by simp [hh]) hl hit hz hb fun h' tk c f => ⟨rfl, h', tk, c, rfl, f⟩) fun r2 s2 hr2 => ?_
    match r2, hr2 with
    | .error e, hr2 => exact hr2
    | .ok (.ret y), ⟨e1, h', tk, c2, e2, f⟩ =>
      subst e1 e2
      repeat (any_goals (first | assumption | wp_step))
      exact h _ _ _ f
end
end WK
end

section
set_option Elab.async false
set_option linter.all false
set_option maxRecDepth 100000
namespace WK
open PySem L2
section
variable {X : Cx}
def rSetL (K : PySem.W.Frag) (w : World) : List V → Hp → VK → Prop := fun vs H Q => ∃ (p : Addr) (ns : List Int), vs = [.ref p] ∧ SqL K H p (ns.map V.int) ∧ ns.length ≤ 4000 ∧ ∀ a n, H a = none → (∀ ms : List Int, ms.Nodup → (∀ k, k ∈ ms ↔ k ∈ ns) → n = ms.length) → Q (.ref a) (upd H a (SetO w a (fun j => decide (j ∈ ns)) n))
theorem cr_setL (hc : X.calm = true) : CallR X (.type "set") (rSetL X.K X.w) := by
  intro pins s σ H xs us Q I r h
  obtain ⟨p, ns, rfl, hp, hl, q⟩ := h
  rw [Vals.ref1 r]
  obtain ⟨its, rv, ⟨o, n, ho, hcl, hdn, hd⟩, hz⟩ := I.list hp
  have hi : PyProof.Rows.IntsAre its.toArray.toList ns := ints_of_vals rv
  have hsz : its.toArray.size = ns.length := by
    have := hi.length
    rw [Array.length_toList] at this
    exact this
  refine set_of_list ns (I.ok.hd hc) ⟨o, ho, hcl, n, hd⟩ hi hsz (by unfold scanBound; omega) fun h' tk c ⟨R, hcn, k⟩ => ?_
  refine ⟨.ref _, upd H s.heap.objs.size (SetO X.w s.heap.objs.size (fun j => decide (j ∈ ns)) c), I.laid k (Nat.le_refl _) (setO_new R), rfl, q _ c (I.hok.fresh (Nat.le_refl _)) fun ms nd hm => ?_⟩
  obtain ⟨o, es, ep, t, _, _, _, _, nd2, hm2, _, _, hn, _⟩ := R
  have pm : ms.Perm (es.toList.map keyOf) := (List.perm_ext_iff_of_nodup nd nd2).2 fun k => by rw [hm k, ← hm2 k, decide_eq_true_eq]
  rw [pm.length_eq, List.length_map, Array.length_toList]
  exact hn.symm
variable {e : Expr} {f : FE} {p p2 pos pos2 : Pos}
/-- sorted(set(xs)), ints -/
theorem c_sortedSet (hk : X.calm = true) (hg : Gl X "sorted") (hm : X.mg "sorted" = none) (hg2 : Gl X "set") (hm2 : X.mg "set" = none) (ha : CB X e f)
    (he : starEach [e] X.env = (false, eval e X.env) :: starEach [] X.env := by rfl) (hpl : (backTo pos2 (starEach [] X.env)).any (·.1) = false := by rfl)
    (he2 : starEach [.Call (.Name "set" p2) [e] [] pos2] X.env = (false, eval (.Call (.Name "set" p2) [e] [] pos2) X.env) :: starEach [] X.env := by rfl) (hpl2 : (backTo pos (starEach [] X.env)).any (·.1) = false := by rfl) :
    CN X (.Call (.Name "sorted" p) [.Call (.Name "set" p2) [e] [] pos2] [] pos) (fUn gSortedSet f) :=
  pe_mono (pe_callB (cr_sortedSet hk) hg hm PyProof.Rows.boot_sorted (pa_cons (pe_callTy (cr_setL hk) hg2 hm2 PyProof.Rows.boot_set (pa_cons ha pa_nil he) (by decide) (by decide) he hpl) pa_nil he2) (by decide) (by decide) he2 hpl2) fun σ H Q ⟨B, F, C, ρ, E, q⟩ => by
    refine ⟨B, F, C, ρ, E, M.All.mono (fun d q v H1 F1 C1 s1 r1 => ?_) (M.all_bind.mp q)⟩
    cases d with
    | lst xs =>
      obtain ⟨p, vs, rfl, hp, r⟩ := r1.list s1.hf
      obtain ⟨ns, e, q⟩ := all_mopt q
      cases r.ints e
      by_cases z : (dedupI ns).length < 64 ∧ ns.length < 4000
      · rw [if_pos z] at q
        refine ⟨p, ns, rfl, .of hp, by omega, fun a n na hn => ⟨a, _, n, rfl, upd_same, by rw [hn _ (dedup_nodup ns) (dedup_mem ns)]; exact z.1, fun ms p2 hs hmm hl np2 => ?_⟩⟩
        have e1 : ms = isort (dedupI ns) := by
          refine sorted_uniq ?_ (hs.imp fun h => by omega) (isort_le _)
          exact ((List.perm_ext_iff_of_nodup (lt_nodup hs) (dedup_nodup ns)).2 fun k => by rw [hmm k, dedup_mem, decide_eq_true_eq]).trans (isort_perm _).symm
        rw [e1]
        have s2 := s1.hf.laid (o := SetO X.w a (fun j => decide (j ∈ ns)) n) na
        have s3 := s2.hf.laid (o := .lst ((isort (dedupI ns)).map V.int)) np2
        exact q _ _ _ _ (s1.trans E.hf (s2.trans s1.hf s3)) ⟨p2, _, _, rfl, rfl, Classical.byContradiction fun z => (s1.trans E.hf s2).there E.hf z np2, upd_same, (s2.hf.notNew np2).1, (s2.hf.notNew np2).2, Rps.ofInts _⟩
      · rw [if_neg z] at q
        exact q.elim
    | _ => exact q.elim
end
end WK
end

section
set_option Elab.async false
set_option linter.all false
set_option maxRecDepth 100000
/-! A def of the top by its name; what stands behind it. -/
namespace WK
open PySem L2
section
variable {X : Cx} {st : Stmt} {f g h : FE} {i j l : Nat} {x : Str} {p pos : Pos} {e : Expr} {es : List Expr} {fl : FL}
theorem c_gint {n : Int} (hg : Gl X x) (hm : ∃ t, X.mg x = some (.int n t)) (hd : (x == ("__debug__" : Str)) = false := by decide) : CF X (.Name x p) (fC (.int n)) := by
  obtain ⟨t, hm⟩ := hm
  exact c_of (pe_glob (v := .int n) hg hm ⟨t, rfl⟩ hd) fun _ _ => .int n
theorem c_gstr (z : List Nat) {s : Str} (hg : Gl X x) (hm : ∃ t, X.mg x = some (.str s t)) (hs : s = SS z := by decide +kernel) (hd : (x == ("__debug__" : Str)) = false := by decide) : CF X (.Name x p) (fC (.str z)) := by
  obtain ⟨t, hm⟩ := hm
  subst hs
  exact c_of (pe_glob (v := .str (SS z)) hg hm ⟨t, rfl⟩ hd) fun _ _ => .str z
theorem s_par3 (h3 : PS X st (tPar3 i j l (tCons (tG X.K RF f) (tCons (tG X.K RF g) (tCons (tG X.K RF h) tNil))))) : CS X st (sPar3 i j l f g h) := ps_mono h3 fun D σ H ⟨B, F, C, ρ, E, q⟩ => by
  refine ⟨B, F, C, ρ, E, (M.all_bind.mp q).mono fun d q v H1 F1 C1 s1 r1 => ?_⟩
  refine ⟨B, F1, C1, ρ, E.step s1, (M.all_bind.mp q).mono fun d2 q v2 H2 F2 C2 s2 r2 => ?_⟩
  have s12 := s1.trans E.hf s2
  refine ⟨B, F2, C2, ρ, E.step s12, (M.all_bind.mp q).mono fun d3 q v3 H3 F3 C3 s3 r3 => ?_⟩
  obtain ⟨hi, q⟩ := all_if q
  have s13 := s12.trans E.hf s3
  exact ⟨v, v2, v3, rfl, q _ H3 F3 C3 ((((E.step s13).set ((r1.step s2).step s3)).set (r2.step s3)).set r3) (E.grow s13)⟩
theorem s_par3O (h3 : PS X st (tPar3 i j l (tCons (tG X.K RF f) (tCons (tG X.K RF g) (tCons (tG X.K RN h) tNil))))) : CS X st (sPar3O i j l f g h) := ps_mono h3 fun D σ H ⟨B, F, C, ρ, E, q⟩ => by
  refine ⟨B, F, C, ρ, E, (M.all_bind.mp q).mono fun d q v H1 F1 C1 s1 r1 => ?_⟩
  refine ⟨B, F1, C1, ρ, E.step s1, (M.all_bind.mp q).mono fun d2 q v2 H2 F2 C2 s2 r2 => ?_⟩
  have s12 := s1.trans E.hf s2
  refine ⟨B, F2, C2, ρ, E.step s12, (M.all_bind.mp q).mono fun d3 q v3 H3 F3 C3 s3 r3 => ?_⟩
  obtain ⟨p, vs, xs, rfl, rfl, np, hp, fp, cp, rs⟩ := r3
  obtain ⟨hi, q⟩ := all_if (m := M.ret _) q
  have s13 := s12.trans E.hf s3
  have E3 := ((E.step s13).set (i := i) ((r1.step s2).step s3)).set (i := j) (r2.step s3)
  have bp : B p = none := (E.step s12).base.free np
  exact ⟨v, v2, .ref p, rfl, q _ H3 F3 C3 (E3.setOwn hp rs bp fp cp ((E.step s12).noOwn s3 np).set.set) (E.grow s13)⟩
theorem s_parB (hij : i ≠ j) (h2 : PS X st (tPar i j (tCons (tG X.K RF f) (tCons (tG X.K RN g) tNil)))) : CS X st (sParB i j f g) := ps_mono h2 fun D σ H ⟨B, F, C, ρ, E, q⟩ => by
  refine ⟨B, F, C, ρ, E, (M.all_bind.mp q).mono fun d q v H1 F1 C1 s1 r1 => ?_⟩
  refine ⟨B, F1, C1, ρ, E.step s1, (M.all_bind.mp q).mono fun d2 q v2 H2 F2 C2 s2 r2 => ?_⟩
  obtain ⟨p, vs, xs, rfl, rfl, np, hp, fp, cp, rs⟩ := r2
  obtain ⟨hi, q⟩ := all_if (m := M.ret _) q
  have s12 := s1.trans E.hf s2
  have E2 := (E.step s12).set (i := i) (r1.step s2)
  exact ⟨v, .ref p, rfl, q _ H2 F2 C2 (E2.setOwn hp rs ((E.step s1).base.free np) fp cp ((E.step s1).noOwn s2 np).set) (E.grow s12)⟩
/-! ### a def of the top -/
def Fn1 (K : PySem.W.Frag) (mg : Str → Option Value) (x : Str) (st : Stmt) : Prop := ∃ f fd, mg x = some (.ref f) ∧ FunD K x x (defArgs st) (defBody st) (defScope st) [] [] f fd
def OkF (P : Program) (w : World) (K : PySem.W.Frag) (mg : Str → Option Value) (base : Heap) (k : Nat) (x : Str) (ps : List Str) (sf : List D → M D) : Prop :=
  ∃ f fd, mg x = some (.ref f) ∧ PySem.W.keepIn K (.ref f) = true ∧ Binds K fd ps [] ∧ FnOk P w K mg base CX0 k f fd ps (spF K ps.length sf) ∧ Arity ps.length sf
theorem c_callO {k m : Nat} {ps : List Str} {sf : List D → M D} (O : OkF X.prog X.w X.K X.mg X.base k x ps sf) (hr : Room m X.A) (hkm : k ≤ m) (hg : Gl X x)
    (ha : CA X (e :: es) fl) (hdb : (x == ("__debug__" : Str)) = false := by decide) (he : starEach (e :: es) X.env = (false, eval e X.env) :: starEach es X.env := by rfl) (hpl : (backTo pos (starEach es X.env)).any (·.1) = false := by rfl) : CF X (.Call (.Name x p) (e :: es) [] pos) (fArgs sf fl) := by
  obtain ⟨f, fd, hm, kp, b, F, a⟩ := O
  exact c_call (F.mono hkm) a hr hg hm kp b ha hdb he hpl
end
section
variable {P : Program} {w : World} {K : PySem.W.Frag} {mg : Str → Option Value} {base : Heap}
theorem okF_run {x : Str} {st : Stmt} {N ps : List Str} {k : Nat} {b : FS} (D : Fn1 K mg x st) (S : FnScope N ps (defScope st))
    (hb : ∀ (kV doc pm : Value) (an : Option Addr) (cdv ct : Value) (us : List Value), us.length = ps.length → bindArgs (PySem.W.fnOf x x (defArgs st) (defBody st) (defScope st) .none kV doc pm an cdv ct) ⟨us, []⟩ = pure (ps.zip us))
    (h : ∀ (fa : Addr) (cdv : Value) (A : Around) (outer : List Env) (s : Shared) (H : Hp) (E : XK), Room k (A.deeper (PyProof.Rows.envOfC x (defScope st) s.heap.objs.size fa cdv)) → CSs (cxOf CX0 P w K mg base N x (defScope st) fa cdv A outer s H E).nox (defBody st) b) :
    OkF P w K mg base (k + 1) x ps (run N.length ps.length b) := by
  obtain ⟨f, fd, hm, F⟩ := D
  exact ⟨f, fd, hm, F.kp, F.bindsN hb, fn_run F S (h f), arity_run⟩
theorem OkF.mono {j k : Nat} {x : Str} {ps : List Str} {sf : List D → M D} (O : OkF P w K mg base j x ps sf) (h : j ≤ k) : OkF P w K mg base k x ps sf := by
  obtain ⟨f, fd, hm, kp, b, F, a⟩ := O
  exact ⟨f, fd, hm, kp, b, F.mono h, a⟩
end
end WK
end

section
set_option Elab.async false
set_option linter.all false
set_option maxRecDepth 100000
/-! The law's own draws: a cup of two cells. -/
namespace WK
open PySem L2
def rInt1 : List V → Hp → VK → Prop := fun xs H Q => (∃ i, xs = [V.int i] ∧ Q (V.int i) H) ∨ ∃ k, xs = [V.bl k] ∧ Q (V.int (if k = true then 1 else 0)) H
def tCell (K : PySem.W.Frag) (i : Int) : TE := tOp (rIxL K) (tVar 0) (tC (.int i))
def tInt (t : TE) : TE := tCB rInt1 (tCons t tNil)
def tMod (t u : TE) : TE := tOp (rI (fun _ j => 0 < j) fun i j => V.int (i % j)) t u
def tDiv (t u : TE) : TE := tOp (rI CDiv fun i j => V.int (i / j)) t u
def tMul (t u : TE) : TE := tOp (rI CMul fun i j => V.int (i * j)) t u
def tPlus (t u : TE) : TE := tOp (rI0 fun i j => V.int (i + j)) t u
def gCell (i : Int) : TG := L2.gSub (tVar 0) (tC (.int i)) L2.rSetL
def tRoll (K : PySem.W.Frag) (a b m c m2 d : Int) : TS :=
  tSeq (tIfS (tTest (tOp (rI0 fun i j => V.bl (decide (j < i))) (tCell K 0) (tC (.int 0))))
      (tSeq (tAsg (tMod (tInt (tCell K 0)) (tVar 1)) (gName 2)) (tSeq (tAsg (tDiv (tCell K 0) (tVar 1)) (gCell 0)) (tRet (tVar 2)))) tNext)
    (tSeq (tAsg (tMod (tInt (tPlus (tMul (tCell K 1) (tC (.int a))) (tC (.int b)))) (tC (.int m))) (gCell 1))
    (tSeq (tAsg (tMod (tInt (tMul (tCell K 1) (tPlus (tCell K 1) (tC (.int c))))) (tC (.int m2))) (gName 3))
      (tRet (tMod (tInt (tDiv (tVar 3) (tC (.int d)))) (tVar 1)))))
section
variable {K : PySem.W.Frag} {σ : L2.St} {H : Hp} {Q : VK} {p : Addr} {x y : Int}
theorem cell_get (e : σ[0]? = some (some (.ref p))) (h : H p = some (.lst [.int x, .int y])) (q : Q (.int x) H) : tCell K 0 σ H Q :=
  ⟨_, e, p, _, 0, _, rfl, rfl, SqL.of h, rfl, q⟩
theorem cell_get1 (e : σ[0]? = some (some (.ref p))) (h : H p = some (.lst [.int x, .int y])) (q : Q (.int y) H) : tCell K 1 σ H Q :=
  ⟨_, e, p, _, 1, _, rfl, rfl, SqL.of h, rfl, q⟩
end
/-- the cells of the cup changed -/
theorem HF.fill {H F : Hp} {C : Option Addr} {c : Addr} (h : HF H F C) (e : C = some c) (x y : Int) : Step H F C (upd H c (.lst [.int x, .int y])) F C := by
  have hc := (h.cup c e).2
  refine ⟨⟨fun b u z => ?_, fun b z => ?_⟩, fun b o n z => ?_, Same.refl _, fun _ _ z => z, fun _ z => z, fun _ z => .inl z⟩
  · rw [upd_ne (ne_of_none z hc)]; exact h.sub b u z
  · rw [e] at z; cases z
    exact ⟨⟨x, y, upd_same⟩, hc⟩
  · rw [upd_ne (fun q : b = c => n (by rw [q]; exact e))]; exact z
theorem mod_draw {n x : Int} (h : 0 < n) : ∃ i : Nat, i < n.toNat ∧ x % n = (i : Int) := by
  have h1 := Int.emod_nonneg x (by omega : n ≠ 0)
  have h2 := Int.emod_lt_of_pos x h
  exact ⟨(x % n).toNat, by omega, by omega⟩
theorem roll_go {K : PySem.W.Frag} {a b m c m2 d : Int} (ha : (-(2 ^ 31) < a ∧ a < 2 ^ 31) ∧ (0 < m ∧ m < 2 ^ 31) ∧ 0 < m2 ∧ 0 < d ∧ d < 1073741824)
    {vs : List V} {H : Hp} {Q : VK} {E : XK} (h : spF K 2 gRoll vs H Q E) : tRoll K a b m c m2 d { nx := fun _ H' => Q V.non H', rt := Q } (L2.start ["cup", "many", "found", "deep"] vs) H := by
  obtain ⟨hl, F, C, ds, hf, rs, q⟩ := h
  cases rs with
  | nil => exact q.elim
  | cons r1 rs =>
    cases rs with
    | nil => cases r1 <;> exact q.elim
    | cons r2 rs =>
      cases rs with
      | cons r3 rs => cases r1 <;> cases r2 <;> exact q.elim
      | nil =>
        cases r1 with
        | @cup p hp =>
          cases r2 with
          | int n =>
            obtain ⟨hn, q⟩ := all_if q
            obtain ⟨⟨x, y, hx⟩, hF⟩ := hf.cup p hp
            have fin : ∀ z H', Step H F C H' F C → Q (.int (z % n)) H' := fun z H' s => by
              obtain ⟨i, hi, e⟩ := mod_draw (x := z) hn.1
              rw [e]
              exact q.2 i hi _ H' F C s (.int _)
            refine cell_get rfl hx ⟨x, 0, rfl, rfl, ?_⟩
            refine ⟨_, rfl, ?_⟩
            by_cases hx0 : (0 : Int) < x
            · rw [decide_eq_true hx0]
              refine iteT ?_
              refine cell_get rfl hx (.inl ⟨x, rfl, .int n, rfl, x, n, rfl, rfl, hn.1, ?_⟩)
              refine cell_get rfl hx ⟨.int n, rfl, x, n, rfl, rfl, ⟨hn.1, by omega⟩, ?_⟩
              refine ⟨.ref p, rfl, p, _, 0, 0, rfl, rfl, hx, rfl, ?_⟩
              exact ⟨_, rfl, fin _ _ (hf.fill hp _ _)⟩
            · rw [decide_eq_false hx0]
              refine iteF ?_
              refine cell_get1 rfl hx ⟨y, a, rfl, rfl, .inr ⟨by omega, by omega⟩, _, b, rfl, rfl, .inl ⟨_, rfl, ?_⟩⟩
              refine ⟨_, m, rfl, rfl, ha.2.1.1, .ref p, rfl, p, _, 1, 1, rfl, rfl, hx, rfl, ?_⟩
              have z0 := Int.emod_nonneg (y * a + b) (by omega : m ≠ 0)
              have z1 := Int.emod_lt_of_pos (y * a + b) ha.2.1.1
              have hx2 : upd H p (.lst [.int x, .int ((y * a + b) % m)]) p = some (.lst [.int x, .int ((y * a + b) % m)]) := upd_same
              refine cell_get1 rfl hx2 (cell_get1 rfl hx2 ⟨_, c, rfl, rfl, _, _, rfl, rfl, .inl ⟨by omega, by omega⟩, .inl ⟨_, rfl, _, m2, rfl, rfl, ha.2.2.1, ?_⟩⟩)
              refine ⟨_, rfl, _, d, rfl, rfl, ⟨ha.2.2.2.1, ha.2.2.2.2⟩, .inl ⟨_, rfl, _, rfl, _, n, rfl, rfl, hn.1, ?_⟩⟩
              exact fin _ _ (hf.fill hp _ _)
          | _ => exact q.elim
        | _ => cases r2 <;> exact q.elim

/-! ### the cup made, the law -/
def spCup (K : PySem.W.Frag) : Sp := fun vs H Q _ => ∃ (a : Addr) (ns : List Int), vs = [.ref a] ∧ SqL K H a (ns.map V.int) ∧ ns.length ≤ 63 ∧ ∀ p x y H', H p = none → H' p = some (.lst [.int x, .int y]) → Same H H' → Q (.ref p) H'
def OkC (P : Program) (w : World) (K : PySem.W.Frag) (mg : Str → Option Value) (base : Heap) : Prop :=
  ∃ f fd, mg "_law_cup" = some (.ref f) ∧ PySem.W.keepIn K (.ref f) = true ∧ Binds K fd ["script"] [] ∧ FnOk P w K mg base CX0 1 f fd ["script"] (spCup K)
def rLstOf (K : PySem.W.Frag) : List V → Hp → VK → Prop := fun xs H Q => ∃ p ys, xs = [.ref p] ∧ (SqL K H p ys ∨ SqT K H p ys) ∧ ∀ l, H l = none → Q (.ref l) (upd H l (.lst ys))
def rAbs : List V → Hp → VK → Prop := fun xs H Q => ∃ i, xs = [V.int i] ∧ Q (V.int (if i < 0 then -i else i)) H
def tFirst (K : PySem.W.Frag) : TE := tOp (rIxL K) (tOp rCat (tCB (rLstOf K) (tCons (tVar 0) tNil)) (tLst (tCons (tC (.int 0)) tNil))) (tC (.int 0))
def tCup (K : PySem.W.Frag) (d a b m c : Int) : TS :=
  tSeq (tAsg (tCB rAbs (tCons (tFirst K) tNil)) (gName 1))
    (tRet (tLst (tCons (tIf (tTest (tOp (rI0 fun i j => V.bl (decide (j ≤ i))) (tVar 1) (tOp (rI CPow fun i j => .int (i ^ j.toNat)) (tC (.int 10)) (tC (.int 18))))) (tDiv (tVar 1) (tC (.int d))) (tC (.int 0)))
      (tCons (tPlus (tMod (tInt (tPlus (tMul (tVar 1) (tC (.int a))) (tC (.int b)))) (tC (.int m))) (tC (.int c))) tNil))))

theorem head_ints (ns : List Int) : ∃ k : Int, atI (ns.map V.int ++ [V.int 0]) 0 = some (.int k) := by
  cases ns with
  | nil => exact ⟨0, rfl⟩
  | cons n r => exact ⟨n, atI_nat (j := 0) rfl⟩
theorem cup_go {K : PySem.W.Frag} {d a b m c : Int} (ha : (-(2 ^ 31) < a ∧ a < 2 ^ 31) ∧ 0 < m ∧ 0 < d ∧ d < 1073741824)
    {vs : List V} {H : Hp} {Q : VK} {E : XK} (h : spCup K vs H Q E) : tCup K d a b m c { nx := fun _ H' => Q V.non H', rt := Q } (L2.start ["script", "cell"] vs) H := by
  obtain ⟨l, ns, rfl, hl, hz, q⟩ := h
  obtain ⟨k, hk⟩ := head_ints ns
  refine ⟨_, rfl, l, _, rfl, .inl hl, fun l1 n1 => ?_⟩
  refine ⟨by decide, fun l2 n2 => ⟨l1, l2, ns.map V.int, [V.int 0], rfl, rfl, ?_, upd_same, ?_, fun l3 n3 => ?_⟩⟩
  · rw [upd_ne (ne_of_none upd_same n2)]; exact upd_same
  · rw [List.length_map]
    have e : sizeLine = 16777216 := sizeLine_eq
    show ns.length + 1 ≤ sizeLine
    omega
  refine ⟨l3, _, 0, _, rfl, rfl, SqL.of upd_same, hk, k, rfl, ?_⟩
  have sm : Same H (upd (upd (upd H l1 (.lst (ns.map V.int))) l2 (.lst [V.int 0])) l3 (.lst (ns.map V.int ++ [V.int 0]))) := (upd_sub n1).trans ((upd_sub n2).trans (upd_sub n3))
  generalize upd (upd (upd H l1 (.lst (ns.map V.int))) l2 (.lst [V.int 0])) l3 (.lst (ns.map V.int ++ [V.int 0])) = H3 at sm
  generalize hx : (if k < 0 then -k else k) = x
  have e1 : ((([V.ref l].map some ++ [none]).set 1 (some (.int x)) : L2.St))[1]? = some (some (.int x)) := rfl
  have q0 : ∀ u v, ∀ p, H3 p = none → Q (.ref p) (upd H3 p (.lst [.int u, .int v])) := fun u v p np => q p u v _ (sm.free np) upd_same (sm.trans (upd_sub np))
  have q1 : ∀ u, tCons (tPlus (tMod (tInt (tPlus (tMul (tVar 1) (tC (.int a))) (tC (.int b)))) (tC (.int m))) (tC (.int c))) tNil (([V.ref l].map some ++ [none]).set 1 (some (.int x))) H3 fun xs H4 => ([V.int u] ++ xs).length ≤ sizeLine ∧ ∀ p, H4 p = none → Q (.ref p) (upd H4 p (.lst ([V.int u] ++ xs))) := fun u =>
    ⟨_, e1, _, a, rfl, rfl, .inr ⟨by omega, by omega⟩, _, b, rfl, rfl, .inl ⟨_, rfl, _, m, rfl, rfl, ha.2.1, _, c, rfl, rfl, (by decide : 2 ≤ sizeLine), q0 u _⟩⟩
  refine ⟨_, e1, 10, 18, rfl, rfl, ⟨by decide, by decide, by decide⟩, x, _, rfl, rfl, _, rfl, ?_⟩
  by_cases hg : (10 : Int) ^ (18 : Int).toNat ≤ x
  · rw [decide_eq_true hg]
    refine iteT ⟨_, e1, x, d, rfl, rfl, ⟨ha.2.2.1, ha.2.2.2⟩, q1 _⟩
  · rw [decide_eq_false hg]
    refine iteF (q1 _)

/-- the law: its first statement makes the cup, the rest b is walked in a frame with it -/
def tLaw (K : PySem.W.Frag) (b : FS) : TS := tSeq (tAsg (tCall (spCup K) [] E0 (tCons (tVar 0) tNil)) (gName 1)) (tX K b)
def spLaw (K : PySem.W.Frag) : Sp := fun vs H Q _ => ∃ (a : Addr) (ns : List Int), vs = [.ref a] ∧ SqL K H a (ns.map V.int) ∧ ns.length ≤ 63 ∧ ∀ H', Q (.bl true) H'
theorem law_go {K : PySem.W.Frag} {b : FS} {N : List Str} {n : Nat} (hN : N.length = n + 2) (hb : (lawM n b).All isTrue1) {vs : List V} {H : Hp} {Q : VK} {E : XK} (h : spLaw K vs H Q E) :
    tLaw K b { nx := fun _ H' => Q V.non H', rt := Q } (L2.start N vs) H := by
  obtain ⟨a, ns, rfl, hs, hl, q⟩ := h
  have es : L2.start N [V.ref a] = some (V.ref a) :: none :: List.replicate n none := by
    unfold L2.start
    have : N.length - 1 = n + 1 := by omega
    simp [this, List.replicate_succ]
  rw [es]
  refine ⟨_, rfl, a, ns, rfl, hs, hl, fun p x y H' np hp sm => ?_⟩
  refine ⟨H, fun _ => none, some p, lawEnv n, ⟨⟨fun b u z => (nomatch z), fun c z => (by cases z; exact ⟨⟨x, y, hp⟩, rfl⟩)⟩, sm, fun c z => (by cases z; exact np), (by simp [lawEnv]), fun i s e => ?_, fun i j p xs ys _ e => ?_⟩, ?_⟩
  · match i, e with
    | 0, e => cases e; trivial
    | 1, e => cases e; exact ⟨_, rfl, .cup rfl⟩
    | i + 2, e =>
      have e : (List.replicate n Sl.no)[i]? = some s := e
      rw [List.getElem?_replicate] at e
      split at e
      · cases e; trivial
      · cases e
  · match i, e with
    | 0, e => cases e; exact fun _ w => w.elim
    | 1, e => cases e; exact fun _ w => w.elim
    | i + 2, e =>
      have e : (List.replicate n Sl.no)[i]? = some xs := e
      rw [List.getElem?_replicate] at e
      split at e
      · cases e; exact fun _ w => w.elim
      · cases e
  · refine (M.all_bind.mp hb).mono fun fl w => ?_
    cases fl with
    | rt d =>
      cases d with
      | bl k =>
        cases k with
        | true =>
          intro v H' F' C' _ _ _ _ r
          cases r
          exact q H'
        | false => exact w.elim
      | _ => exact w.elim
    | _ => exact w.elim
theorem fn_law {P : Program} {w : World} {K : PySem.W.Frag} {mg : Str → Option Value} {base : Heap} {x qual : Str} {params : Arguments} {c : Stmt} {rest : List Stmt} {scope : Scope} {fa : Addr} {fd : FuncData} {N : List Str} {k n : Nat} {b : FS}
    (Fd : FunD K x qual params (c :: rest) scope [] [] fa fd) (S : FnScope N ["script"] scope) (hN : N.length = n + 2) (hb : (lawM n b).All isTrue1)
    (h : ∀ (cdv : Value) (A : Around) (outer : List Env) (s : Shared) (H : Hp) (E : XK), Room k (A.deeper (PyProof.Rows.envOfC qual scope s.heap.objs.size fa cdv)) →
      PS (cxOf CX0 P w K mg base N qual scope fa cdv A outer s H E).nox c (tAsg (tCall (spCup K) [] E0 (tCons (tVar 0) tNil)) (gName 1)) ∧ CSs (cxOf CX0 P w K mg base N qual scope fa cdv A outer s H E).nox rest b) :
    FnOk P w K mg base CX0 (k + 1) fa fd ["script"] (spLaw K) :=
  Fd.ok S (fun vs H Q E h => by obtain ⟨a, ns, rfl, _⟩ := h; rfl) fun cdv A outer s H vs Q E hr hsp =>
    ⟨tLaw K b, PSs.nox (pss_cons (h cdv A outer s H E hr).1 (h cdv A outer s H E hr).2), law_go hN hb hsp⟩
end WK
end

section
set_option Elab.async false
set_option linter.all false
set_option maxRecDepth 100000
set_option maxHeartbeats 4000000
/-! len(set(texts)). -/
namespace WK
open PySem L2
theorem once_snoc {α : Type} [DecidableEq α] (xs : List α) (k : α) : once (xs ++ [k]) = if k ∈ once xs then once xs else once xs ++ [k] := by
  unfold once
  rw [List.foldl_append]
  rfl
theorem once_le {α : Type} [DecidableEq α] (xs : List α) : (once xs).length ≤ xs.length := by
  suffices h : ∀ (xs l : List α), (xs.foldl (fun l k => if k ∈ l then l else l ++ [k]) l).length ≤ l.length + xs.length by have := h xs []; rwa [List.length_nil, Nat.zero_add] at this
  intro xs
  induction xs with
  | nil => intro l; simp
  | cons x r ih =>
    intro l
    rw [List.foldl_cons]
    refine Nat.le_trans (ih _) ?_
    split <;> simp <;> omega
section
variable {P : Program} {w : World} {A : Around} {E : Value → Shared → Prop} {s : Shared} {T : Type} [DecidableEq T] [BEq T] [LawfulBEq T] {knd : KeyKind P w T}
/-- one walk of set.update: what is met goes in -/
theorem keys_loop {I : Addr} {fp wr : List Addr} {G : Array GenState → Array GenState → Prop} {n : Nat} {Pv : Nat → Value → Prop} {St : Nat → Shared → Prop} {R : Result → Shared → Prop}
    (W : WalksS P w A.in1 I fp wr G n Pv St) (S : Addr) (hSf : S ∉ fp) (ks : List T) (hn : n = ks.length) (hb : ks.length + 1 < scanBound) (hval : ∀ i v, Pv i v → ∃ k, ks[i]? = some k ∧ knd.is k v = true ∧ v.scannable = true) :
    ∀ (m i : Nat) (s : Shared), n - i = m → i ≤ n → St i s → s.heap.SetOf knd S (fun k => decide (k ∈ once (ks.take i))) (once (ks.take i)).length →
      (∀ s', Moved (S :: wr) G s s' → s'.heap.SetOf knd S (fun k => decide (k ∈ once ks)) (once ks).length → R (.ok (.ret .none)) s') →
      codeAny (model P w) A (.builtin "set.update.loop" ⟨[.ref S, .ref I], []⟩) R s := by
  have hSw : S ∉ wr := fun h => hSf (W.sub _ h)
  have hsub : ∀ b ∈ wr, b ∈ S :: wr := fun b hb => List.mem_cons_of_mem _ hb
  intro m
  induction m with
  | zero =>
    intro i s hk hi hst hS hR
    obtain rfl : i = n := by omega
    refine codeAny_builtin PyProof.Rows.F.entry_set_update_loop ?_
    rw [Around.under_plainId PyProof.Rows.F.plain_set_update_loop _]
    show wpAny _ A.in1 (pyNext (.ref I) >>= _) _ _ s
    refine wpAny_bind (W.done s _ _ hst fun s' hm => ?_)
    show wpAny _ A.in1 (ret Value.none) _ _ s'
    rw [List.take_of_length_le (by omega)] at hS
    obtain ⟨o, es, ep, t, ho, r⟩ := hS
    exact wpAny_pure (hR s' (hm.mono hsub) ⟨o, es, ep, t, hm.heap S _ hSw ho, r⟩)
  | succ m ih =>
    intro i s hk hi hst hS hR
    have hlt : i < n := by omega
    refine codeAny_builtin PyProof.Rows.F.entry_set_update_loop ?_
    rw [Around.under_plainId PyProof.Rows.F.plain_set_update_loop _]
    show wpAny _ A.in1 (pyNext (.ref I) >>= _) _ _ s
    refine wpAny_bind (W.item i s _ _ hlt hst fun v s' hP hst' hm => ?_)
    obtain ⟨k, hk', hkv, hsc⟩ := hval i v hP
    have hS' : s'.heap.SetOf knd S (fun k => decide (k ∈ once (ks.take i))) (once (ks.take i)).length := by
      obtain ⟨o, es, ep, t, ho, r⟩ := hS
      exact ⟨o, es, ep, t, hm.heap S _ hSw ho, r⟩
    show wpAny _ A.in1 (holding [v] (setAdd S v) >>= _) _ _ s'
    refine wpAny_bind (wpAny_holding ?_)
    unfold setAdd
    refine wpAny_holding ?_
    refine wpAny_bind (knd.pyHash hkv ?_)
    have room : (once (ks.take i)).length + 1 < scanBound := by
      have := once_le (ks.take i)
      rw [List.length_take] at this
      omega
    refine wpAny_setAddHashed_of (s := { s' with toks := s'.toks + 1 }) hkv hsc hS' room fun h' hsb hS2 => ?_
    have e1 : ks.take (i + 1) = ks.take i ++ [k] := by rw [List.take_add_one, hk']; rfl
    have hS3 : h'.SetOf knd S (fun k => decide (k ∈ once (ks.take (i + 1)))) (once (ks.take (i + 1))).length := by
      rw [e1, once_snoc]
      by_cases q : k ∈ once (ks.take i)
      · rw [if_pos q]
        refine PyProof.Rows.SetOf_congr hS2 (fun j => ?_) (by rw [if_pos (decide_eq_true q)])
        by_cases e : j = k
        · subst e; simp [q]
        · simp [e]
      · rw [if_neg q]
        refine PyProof.Rows.SetOf_congr hS2 (fun j => ?_) (by rw [if_neg (by simp [q])]; simp)
        simp [List.mem_append]
    refine wpAny_pure ⟨plainId_quiet PyProof.Rows.F.plain_set_update_loop _, ih (i + 1) _ (by omega) hlt (W.frame _ s' _ _ hst' (Nat.le_succ _) fun b hb o e => ?_) hS3 fun s'' hm'' hS'' => ?_⟩
    · rw [hsb.2 b (fun h : b = S => hSf (by rw [← h]; exact hb))]; exact e
    · refine hR s'' (Moved.trans W.gtrans ((hm.mono hsub).then_heap (Nat.le_succ _) fun b o hb e => ?_) hm'') hS''
      rw [hsb.2 b (fun h : b = S => hb (by rw [h]; exact List.mem_cons_self))]; exact e
abbrev young2 (led : Bool) : Obj := { cls := .type "set", dict := none, data := .set #[] 0 (.fresh 0 0 led) }
def FilledK (knd : KeyKind P w T) (s : Shared) (ks : List T) (h' : Heap) : Prop :=
  h'.SetOf knd s.heap.objs.size (fun k => decide (k ∈ once ks)) (once ks).length ∧ ∀ b o, s.heap.get? b = some o → h'.get? b = some o
def ListOrTup (h : Heap) (l : Addr) (items : Array Value) : Prop := h.IsList l items ∨ h.IsTuple l items
theorem setK_init (led : Bool) {l : Addr} {items : Array Value} (ks : List T) (hh : A.handled = none) (hl : ListOrTup s.heap l items) (hz : items.size = ks.length) (hb : ks.length + 1 < scanBound)
    (hv : ∀ (i : Nat) (v : Value), items[i]? = some v → ∃ k, ks[i]? = some k ∧ knd.is k v = true ∧ v.scannable = true) {Q : Value → Shared → Prop}
    (h : ∀ (h' : Heap) (tk : Nat), FilledK knd s ks h' → Q .none { s with heap := h', toks := tk }) :
    codeAny (model P w) A (.call (.builtin "set.__init__") ⟨[.ref s.heap.objs.size, .ref l], []⟩) (wants Q E) { s with heap := s.heap.push (young2 led) } := by
  have hS : (s.heap.push (young2 led)).get? s.heap.objs.size = some (young2 led) := Heap.get?_push_size _ rfl
  have hT : Shared.TypeIs { s with heap := s.heap.push (young2 led) } (.ref s.heap.objs.size) "set" := ⟨_, hS, rfl⟩
  have zz : (s.heap.push (young2 led)).objs.size = s.heap.objs.size + 1 := Heap.size_push ..
  have fin : ∀ {St : Nat → Shared → Prop} {s1 : Shared} (lt : l < s.heap.objs.size) (W : WalksS P w A.in1.in1 (s.heap.push (young2 led)).objs.size [(s.heap.push (young2 led)).objs.size, l] [(s.heap.push (young2 led)).objs.size] (fun g g' => g' = g) items.size (fun i v => items[i]? = some v) St),
      St 0 s1 → s1.heap.get? s.heap.objs.size = some (young2 led) → s1.gens = s.gens → s1.drawn = s.drawn → s1.os = s.os → (∀ b o, s.heap.get? b = some o → s1.heap.get? b = some o) →
      codeAny (model P w) A.in1 (.builtin "set.update.loop" ⟨[.ref s.heap.objs.size, .ref (s.heap.push (young2 led)).objs.size], []⟩) (fun r s2 => r = .ok (.ret .none) ∧ ∃ h' tk, s2 = { s with heap := h', toks := tk } ∧ FilledK knd s ks h') s1 := by
    intro St s1 lt W st g1 g2 g3 g4 kp
    have n2 : s.heap.objs.size ∉ [(s.heap.push (young2 led)).objs.size, l] := by
      simp only [List.mem_cons, List.not_mem_nil, or_false, not_or]
      exact ⟨by rw [zz]; exact Nat.ne_of_lt (Nat.lt_succ_self _), Nat.ne_of_gt lt⟩
    refine keys_loop W s.heap.objs.size n2 ks hz hb hv (items.size - 0) 0 s1 (by omega) (Nat.zero_le _) st (PyProof.Rows.SetOf_congr ((PyProof.Rows.setObjOf_fresh (knd := knd) led).setOf g1 (by unfold scanBound; omega)) (fun k => by simp [once]) rfl) fun s' hm hS' => ?_
    obtain ⟨h', g', d', tk', os'⟩ := s'
    have e1 := hm.gens
    have e2 := hm.drawn
    have e3 := hm.os
    simp only at e1 e2 e3
    rw [g2] at e1
    rw [g3] at e2
    rw [g4] at e3
    subst e1 e2 e3
    refine ⟨rfl, h', tk', rfl, hS', fun b o e => hm.heap b o ?_ (kp b o e)⟩
    have := Heap.lt_size e
    simp only [List.mem_cons, List.not_mem_nil, or_false, not_or]
    exact ⟨Nat.ne_of_lt this, by rw [zz]; exact Nat.ne_of_lt (Nat.lt_succ_of_lt this)⟩
  rcases hl with hl | hl
  · obtain ⟨⟨oc, od, odt, os⟩, hol, hcl, nl, hdl⟩ := hl
    simp only at hcl hdl
    subst hcl hdl
    have up1 : (s.heap.push (young2 led)).get? l = some { cls := .type "list", dict := od, data := .seq items nl, slots := os } := Heap.get?_push_of_some _ hol
    have q1 := F.sub_list_set
    have q2 := F.sub_list_frozenset
    have q3 : (Value.type "list" == Value.type "dict") = false := by decide
    have up2 : (s.heap.push (young2 led)).IsList l items := ⟨_, up1, rfl, nl, rfl⟩
    have lt := Heap.lt_size hol
    have n1 : l ≠ (s.heap.push (young2 led)).objs.size := by rw [zz]; exact Nat.ne_of_lt (Nat.lt_succ_of_lt lt)
    refine codeAny_call_builtin F.called_set.init.plain F.entry_set_init (check_set_init_1 hT ?_)
    unfold Builtin.«set.__init__» noKeywords Builtin.Frozenset.updateFrom
    generalize hg : pyIter = it
    wp_walk
    subst hg
    refine wpAny_pyIter_list up2 (wpAny_bind (wpAny_runValue ?_))
    refine codeAny_mono (fin lt (Walks.list (by simp [hh]) _ l n1 items).toS ⟨⟨_, Heap.get?_push_size _ rfl, rfl, rfl⟩, up2.push _⟩ (Heap.get?_push_of_some _ hS) rfl rfl rfl fun b o e => Heap.get?_push_of_some _ (Heap.get?_push_of_some _ e)) fun r s2 hr => ?_
    obtain ⟨rfl, h', tk, rfl, f⟩ := hr
    show wpAny _ _ _ _ _ _
    refine wpAny_pure ?_
    show wpAny _ _ (ret Value.none) _ _ _
    exact wpAny_pure (h h' tk f)
  · obtain ⟨⟨oc, od, odt, os⟩, hol, hcl, nl, hdl⟩ := hl
    simp only at hcl hdl
    subst hcl hdl
    have up1 : (s.heap.push (young2 led)).get? l = some { cls := .type "tuple", dict := od, data := .seq items nl, slots := os } := Heap.get?_push_of_some _ hol
    have q1 := F.sub_tuple_set
    have q2 := F.sub_tuple_frozenset
    have q3 : (Value.type "tuple" == Value.type "dict") = false := by decide
    have up2 : (s.heap.push (young2 led)).IsTuple l items := ⟨_, up1, rfl, nl, rfl⟩
    have lt := Heap.lt_size hol
    have n1 : l ≠ (s.heap.push (young2 led)).objs.size := by rw [zz]; exact Nat.ne_of_lt (Nat.lt_succ_of_lt lt)
    refine codeAny_call_builtin F.called_set.init.plain F.entry_set_init (check_set_init_1 hT ?_)
    unfold Builtin.«set.__init__» noKeywords Builtin.Frozenset.updateFrom
    generalize hg : pyIter = it
    wp_walk
    subst hg
    refine wpAny_pyIter_tuple up2 (wpAny_bind (wpAny_runValue ?_))
    refine codeAny_mono (fin lt (Walks.tuple (by simp [hh]) _ l n1 items).toS ⟨⟨_, Heap.get?_push_size _ rfl, rfl, rfl⟩, up2.push _⟩ (Heap.get?_push_of_some _ hS) rfl rfl rfl fun b o e => Heap.get?_push_of_some _ (Heap.get?_push_of_some _ e)) fun r s2 hr => ?_
    obtain ⟨rfl, h', tk, rfl, f⟩ := hr
    show wpAny _ _ _ _ _ _
    refine wpAny_pure ?_
    show wpAny _ _ (ret Value.none) _ _ _
    exact wpAny_pure (h h' tk f)
theorem setK_of {l : Addr} {items : Array Value} (ks : List T) (hh : A.handled = none) (hl : ListOrTup s.heap l items) (hz : items.size = ks.length) (hb : ks.length + 1 < scanBound)
    (hv : ∀ (i : Nat) (v : Value), items[i]? = some v → ∃ k, ks[i]? = some k ∧ knd.is k v = true ∧ v.scannable = true) {Q : Value → Shared → Prop}
    (h : ∀ (h' : Heap) (tk : Nat), FilledK knd s ks h' → Q (.ref s.heap.objs.size) { s with heap := h', toks := tk }) :
    wpAny (model P w) A (call (.type "set") [.ref l]) Q E s := by
  obtain ⟨c, tl, hmro⟩ := F.called_set.mro
  have hmade := F.called_set.made
  have hsub := F.called_set.sub
  have h1 := F.called_set.notType
  have h2 := F.called_set.canCreate
  have hct := F.typeCall_set_1 (.ref l)
  refine wpAny_call (codeAny_of_tree ?_)
  show wpAny _ _ (callAny (.type "set") _) _ _ _
  refine wpAny_pure ⟨Code.quiet_builtin _ (by decide +kernel), codeAny_builtin F.entry_type_call ?_⟩
  rw [Around.under_plain (weight_type_call_type "set" [.ref l] []) rfl]
  repeat (any_goals (first | assumption | wp_step))
  refine codeAny_mono (code_set_new_1 (.ref l) (E := E) (Q₁ := fun x s1 => ∃ led : Bool, x = .ref s.heap.objs.size ∧ s1 = { s with heap := s.heap.push (young2 led) }) fun led => ⟨led, rfl, rfl⟩) fun r s1 hr => ?_
  match r, hr with
  | .error e, hr => exact hr
  | .ok (.ret x), ⟨led, e1, e2⟩ =>
    subst e1 e2
    have hS : (s.heap.push (young2 led)).get? s.heap.objs.size = some (young2 led) := Heap.get?_push_size _ rfl
    have hT : Shared.TypeIs { s with heap := s.heap.push (young2 led) } (.ref s.heap.objs.size) "set" := ⟨_, hS, rfl⟩
    have hli := F.called_set.init.lookup
    have hbi := F.called_set.init.bind (.ref s.heap.objs.size)
    repeat (any_goals (first | assumption | wp_step))
    refine codeAny_mono (setK_init (P := P) (A := A.in1) (E := E) (knd := knd) led (Q := fun x s2 => x = .none ∧ ∃ h' tk, s2 = { s with heap := h', toks := tk } ∧ FilledK knd s ks h') ks (by simp [hh]) hl hz hb hv fun h' tk f => ⟨rfl, h', tk, rfl, f⟩) fun r2 s2 hr2 => ?_
    match r2, hr2 with
    | .error e, hr2 => exact hr2
    | .ok (.ret y), ⟨e1, h', tk, e2, f⟩ =>
      subst e1 e2
      repeat (any_goals (first | assumption | wp_step))
      exact h _ _ f
end
end WK
end

section
set_option Elab.async false
set_option linter.all false
set_option maxRecDepth 100000
/-! len(set(texts)), n += e. -/
namespace WK
open PySem L2 PyProof.Rows
theorem once_map {α β : Type} [DecidableEq α] [DecidableEq β] (g : α → β) (inj : ∀ a b, g a = g b → a = b) (xs : List α) : once (xs.map g) = (once xs).map g := by
  suffices h : ∀ (xs l : List α), (xs.map g).foldl (fun l k => if k ∈ l then l else l ++ [k]) (l.map g) = (xs.foldl (fun l k => if k ∈ l then l else l ++ [k]) l).map g from h xs []
  intro xs
  induction xs with
  | nil => intro l; rfl
  | cons x r ih =>
    intro l
    rw [List.map_cons, List.foldl_cons, List.foldl_cons]
    by_cases q : x ∈ l
    · rw [if_pos q, if_pos (List.mem_map.mpr ⟨x, q, rfl⟩)]
      exact ih l
    · have q2 : ¬ g x ∈ l.map g := fun z => by
        obtain ⟨y, hy, e⟩ := List.mem_map.mp z
        exact q (inj _ _ e ▸ hy)
      rw [if_neg q, if_neg q2, ← ih (l ++ [x]), List.map_append]
      rfl
theorem ss_inj (a b : List Nat) (h : SS a = SS b) : a = b := by
  have := congrArg (fun s : Str => s.cps.toList) h
  exact this
section
variable {X : Cx} {a e : Expr} {f : FE} {p p2 pos q : Pos} {i : Nat} {x : Str}
def rSetS (K : PySem.W.Frag) : V → Hp → VK → Prop := fun x H1 Q => ∃ l, ∃ xs : List Str, x = V.ref l ∧ (SqL K H1 l (xs.map V.str) ∨ SqT K H1 l (xs.map V.str)) ∧ xs.length ≤ 4000 ∧ Q (.int (once xs).length) H1
theorem pe_lenSetS {ta : TE} (hc : X.calm = true) (hg : Gl X "len") (hm : X.mg "len" = none) (hg2 : Gl X "set") (hm2 : X.mg "set" = none) (ha : PE X a ta)
    (na : starEach [a] X.env = (false, eval a X.env) :: starEach [] X.env := by rfl) : PE X (.Call (.Name "len" p) [.Call (.Name "set" p2) [a] [] q] [] pos) (fun σ H Q => ta σ H fun x H1 => rSetS X.K x H1 Q) := by
  refine ⟨fun pins s σ H Q I h => Call_ (ld_blt I hg hm boot_len (callWith_builtin1 (args_cons ?_ rfl) rfl rfl))⟩
  refine Call_ (ld_blt I hg2 hm2 boot_set (callWith_type1 (args_cons (thn (ha.run pins s σ H _ I h) fun v s1 ⟨x, H1, I1, r1, q1⟩ => args_nil ?_) na) na rfl))
  obtain ⟨l, xs, rfl, hq, hz, q1⟩ := q1
  cases r1
  have go : ∀ its : List Value, Vals (xs.map V.str) its → ListOrTup s1.heap l its.toArray → wpAny (model X.prog X.w) X.A (call (.type "set") [.ref l]) (fun v s2 => wpAny (model X.prog X.w) X.A (spliced (backTo pos (starEach [] X.env))) (fun vs s3 => wpAny (model X.prog X.w) X.A (call (.builtin "len") (v :: vs)) (EP X pins σ Q) X.xe s3) X.xe s2) X.xe s1 := fun its r hl => by
    have hlen : its.length = xs.length := by rw [← r.length, List.length_map]
    have hat := fun i v (h : its[i]? = some v) => _root_.SS.strs_at (strsAre_of r) i v h
    refine setK_of (knd := strKind X.prog X.w) xs (I1.ok.hd hc) hl (by rw [List.size_toArray]; exact hlen) (by unfold scanBound; omega) (fun i v hv => ?_) fun h' tk ⟨hS, k⟩ => args_nil ?_
    · have hv' : its[i]? = some v := by simpa using hv
      have hi : i < xs.length := by
        have := (List.getElem?_eq_some_iff.mp hv').1
        omega
      obtain ⟨t, rfl⟩ := hat i v hv'
      refine ⟨xs[i], List.getElem?_eq_getElem hi, ?_, rfl⟩
      rw [List.getD_eq_getElem?_getD, List.getElem?_eq_getElem hi]
      exact strKind_is _ _ _ _
    · obtain ⟨o, es, ep, t, ho, hex, hd, _, _, _, hf, hn⟩ := hS
      have I2 : Inv X pins σ H1 { s1 with heap := h', toks := tk } := I1.kept k
      have ho2 := once_le xs
      refine call_len_set ho hex hd hf (by rw [hn]; omega) ⟨.int (once xs).length, H1, I2.tok _, ⟨_, by rw [hn]⟩, q1⟩
  rcases hq with hq | hq
  · obtain ⟨its, r, pl, _⟩ := I1.list hq
    exact go its r (.inl pl.isList)
  · obtain ⟨its, r, pl, _⟩ := I1.tuple hq
    exact go its r (.inr pl)
theorem c_lenSet (hk : X.calm = true) (hg : Gl X "len") (hm : X.mg "len" = none) (hg2 : Gl X "set") (hm2 : X.mg "set" = none) (ha : CB X a f)
    (na : starEach [a] X.env = (false, eval a X.env) :: starEach [] X.env := by rfl) : CF X (.Call (.Name "len" p) [.Call (.Name "set" p2) [a] [] q] [] pos) (fUn gLenSet f) :=
  pe_mono (pe_lenSetS hk hg hm hg2 hm2 ha na) fun σ H Q ⟨B, F, C, ρ, E, q⟩ => by
    refine ⟨B, F, C, ρ, E, M.All.mono (fun d q v H1 F1 C1 s1 r1 => ?_) (M.all_bind.mp q)⟩
    have go : ∀ (p : Addr) (ss : List (List Nat)), (SqL X.K H1 p ((ss.map SS).map V.str) ∨ SqT X.K H1 p ((ss.map SS).map V.str)) → (if ss.length ≤ 4000 then M.ret (D.int (once ss).length) else .bad).All (fun d => ∀ v H' F' C', Step H F C H' F' C' → Rp X.K F' C' v d → Q v H') → rSetS X.K (.ref p) H1 Q := fun p ss hp q => by
      obtain ⟨hz, q⟩ := all_if q
      refine ⟨p, ss.map SS, rfl, hp, by rw [List.length_map]; exact hz, ?_⟩
      rw [once_map SS ss_inj, List.length_map]
      exact q _ H1 F1 C1 s1 (.int _)
    cases d with
    | lst xs =>
      obtain ⟨p, vs, rfl, hp, r⟩ := r1.list s1.hf
      obtain ⟨ss, e, q⟩ := all_mopt q
      cases r.strs e
      exact go p ss (.inl (.of hp)) q
    | tup xs =>
      obtain ⟨p, vs, rfl, _, hp, r⟩ := r1.tup s1.hf
      obtain ⟨ss, e, q⟩ := all_mopt q
      cases r.strs e
      exact go p ss (.inr hp) q
    | _ => exact q.elim
/-- n += e, n -= e, ints -/
theorem aug_go {gg : D → D → M D} {g : Int → Int → Int} (hg : ∀ a b (P : D → Prop), (gg a b).All P → ∃ i j, a = .int i ∧ b = .int j ∧ P (.int (g i j))) {D0 : Ends} {σ : L2.St} {H : Hp} (h : tX X.K (sAsg (fOp gg (fVar i) f) (gtName i)) D0 σ H) : tAug i (tG X.K RF f) (ipI g) D0 σ H := by
  obtain ⟨B, F, C, ρ, E, q⟩ := h
  have q := M.all_bind.mp (M.all_bind.mp q)
  unfold fVar at q
  cases e : ρ[i]? with
  | none => rw [e] at q; exact q.elim
  | some s =>
    rw [e] at q
    cases s with
    | fz d =>
      obtain ⟨v, e1, r⟩ := E.slot i _ e
      refine ⟨v, e1, B, F, C, ρ, E, (M.all_bind.mp q).mono fun d2 q y H1 F1 C1 s1 r2 => ?_⟩
      obtain ⟨a, b, e2, e3, w⟩ := hg _ _ _ q
      subst e2 e3
      cases r
      cases r2
      refine ⟨a, b, rfl, rfl, ?_⟩
      unfold gtName at w
      have hi : i < ρ.length := (List.getElem?_eq_some_iff.mp e).1
      rw [if_pos hi] at w
      exact w _ H1 F1 C1 ((E.step s1).set (.int _)) (E.grow s1)
    | _ => exact q.elim
theorem s_aug {op : Operator} {gg : D → D → M D} {g : Int → Int → Int} (hg : ∀ a b (P : D → Prop), (gg a b).All P → ∃ i j, a = .int i ∧ b = .int j ∧ P (.int (g i j))) (hN : X.N.Nodup) (hi : X.N[i]? = some x) (hx : Loc X.env.scope x) (ho : PIp X op (ipI g)) (he : CF X e f) (hf : X.fn x = true ∨ X.env.scope.names.lookup x = some .local := by first | exact .inl rfl | exact .inr rfl | assumption) :
    CS X (.AugAssign (.Name x p) op e pos) (sAsg (fOp gg (fVar i) f) (gtName i)) := ps_mono (ps_aug hN hi hx he ho hf) fun _ _ _ h => aug_go hg h
theorem i_add (a b : D) (P : D → Prop) (h : (gAddI a b).All P) : ∃ i j, a = .int i ∧ b = .int j ∧ P (.int (i + j)) := by
  cases a with
  | int i =>
    cases b with
    | int j => exact ⟨i, j, rfl, rfl, h⟩
    | _ => exact h.elim
  | _ => exact h.elim
theorem i_sub (a b : D) (P : D → Prop) (h : (gSub a b).All P) : ∃ i j, a = .int i ∧ b = .int j ∧ P (.int (i - j)) := by
  cases a with
  | int i =>
    cases b with
    | int j => exact ⟨i, j, rfl, rfl, h⟩
    | _ => exact h.elim
  | _ => exact h.elim
end
end WK
end

section
set_option Elab.async false
set_option linter.all false
set_option maxRecDepth 100000
/-! zip and enumerate over lists, tuples and texts, mixed. -/
namespace WK
open PySem L2 PySem.Spec
open PyProof.Rows (boot_zip boot_enumerate Call_)

/-- what is walked -/
inductive Sc where
  | lst (a : Addr)
  | tup (a : Addr)
  | str (x : Str)
namespace Sc
def v : Sc → V
  | .lst a => .ref a
  | .tup a => .ref a
  | .str x => .str x
def len (K : PySem.W.Frag) (H : Hp) : Sc → Nat → Prop
  | .lst a, n => ∃ xs : List V, SqL K H a xs ∧ xs.length = n
  | .tup a, n => ∃ xs : List V, SqT K H a xs ∧ xs.length = n
  | .str x, n => x.cps.size = n
def val (K : PySem.W.Frag) (H : Hp) : Sc → Nat → V → Prop
  | .lst a, i, v => ∀ xs : List V, SqL K H a xs → xs[i]? = some v
  | .tup a, i, v => ∀ xs : List V, SqT K H a xs → xs[i]? = some v
  | .str x, i, v => ∃ c, x.cps[i]? = some c ∧ v = .str ⟨#[c]⟩
def at_ (it : Addr) (i : Nat) (h : Heap) : Sc → Prop
  | .lst a => h.IsListIter it a i
  | .tup a => h.IsTupleIter it a i
  | .str x => ∃ t, h.IsStrIter it (strIterType x) x t i
def fp (it : Addr) : Sc → List Addr
  | .lst a => [it, a]
  | .tup a => [it, a]
  | .str _ => [it]
def base : Sc → List Addr
  | .lst a => [a]
  | .tup a => [a]
  | .str _ => []
theorem fp_eq (it : Addr) (sc : Sc) : sc.fp it = it :: sc.base := by cases sc <;> rfl
theorem at_obj {it : Addr} {i : Nat} {h : Heap} {sc : Sc} (st : sc.at_ it i h) : ∃ o, h.get? it = some o ∧ ∀ v, o.data ≠ .cell v := by
  cases sc with
  | lst a => obtain ⟨o, e, _, d⟩ := st; exact ⟨o, e, fun v q => by rw [d] at q; cases q⟩
  | tup a => obtain ⟨o, e, _, d⟩ := st; exact ⟨o, e, fun v q => by rw [d] at q; cases q⟩
  | str x => obtain ⟨t, o, e, _, d⟩ := st; exact ⟨o, e, fun v q => by rw [d] at q; cases q⟩
theorem at_keep {it : Addr} {i : Nat} {h h' : Heap} {sc : Sc} (st : sc.at_ it i h) (k : ∀ o, h.get? it = some o → h'.get? it = some o) : sc.at_ it i h' := by
  cases sc with
  | lst a => obtain ⟨o, e, r⟩ := st; exact ⟨o, k o e, r⟩
  | tup a => obtain ⟨o, e, r⟩ := st; exact ⟨o, k o e, r⟩
  | str x => obtain ⟨t, o, e, r⟩ := st; exact ⟨t, o, k o e, r⟩
/-- the iterator draws what stands there -/
theorem draws {X : Cx} {pins : List (Addr × Obj)} {σ : L2.St} {H : Hp} {s : Shared} {A : Around} {it : Addr} {i n : Nat} {sc : Sc} (I : Inv X pins σ H s) (hh : A.handled = none) (hne : it ∉ sc.base) (hl : sc.len X.K H n) (st : sc.at_ it i s.heap) :
    ∃ (P : Nat → Value → Prop) (St : Nat → Heap → Prop), Draws X.prog X.w A it (sc.fp it) n P St ∧ St i s.heap ∧ (∀ v u, sc.val X.K H i v → P i u → RelV v u) ∧ (∀ h', St (i + 1) h' → sc.at_ it (i + 1) h') ∧ (i < n → ∃ v, sc.val X.K H i v) := by
  cases sc with
  | lst a =>
    obtain ⟨xs, hq, rfl⟩ := hl
    obtain ⟨its, rv, p, _⟩ := I.list hq
    have hz : its.toArray.size = xs.length := by rw [List.size_toArray, ← rv.length]
    have D := Draws.list (prog := X.prog) (w := X.w) hh it a (fun e => hne (by simp [base, e])) its.toArray
    rw [hz] at D
    refine ⟨_, _, D, ⟨st, p.isList⟩, fun v u hv hu => ?_, fun h' q => q.1, fun hi => ?_⟩
    · obtain ⟨u', hu', ru⟩ := rv.get (hv xs hq)
      have hu : its[i]? = some u := by simpa using hu
      rw [hu'] at hu
      cases hu
      exact ru
    · exact ⟨xs[i], fun ys hy => by rw [I.list_inj hy hq]; exact List.getElem?_eq_getElem hi⟩
  | tup a =>
    obtain ⟨xs, hq, rfl⟩ := hl
    obtain ⟨its, rv, p, _⟩ := I.tuple hq
    have hz : its.toArray.size = xs.length := by rw [List.size_toArray, ← rv.length]
    have D := Draws.tuple (prog := X.prog) (w := X.w) hh it a (fun e => hne (by simp [base, e])) its.toArray
    rw [hz] at D
    refine ⟨_, _, D, ⟨st, p⟩, fun v u hv hu => ?_, fun h' q => q.1, fun hi => ?_⟩
    · obtain ⟨u', hu', ru⟩ := rv.get (hv xs hq)
      have hu : its[i]? = some u := by simpa using hu
      rw [hu'] at hu
      cases hu
      exact ru
    · exact ⟨xs[i], fun ys hy => by rw [I.tuple_inj hy hq]; exact List.getElem?_eq_getElem hi⟩
  | str x =>
    have hl : x.cps.size = n := hl
    subst hl
    obtain ⟨t, st⟩ := st
    refine ⟨_, _, Draws.text (prog := X.prog) (w := X.w) hh it x t, st, fun v u hv hu => ?_, fun h' q => ⟨t, q⟩, fun hi => ?_⟩
    · obtain ⟨c, hc, rfl⟩ := hv
      obtain ⟨c', u', hc', rfl⟩ := hu
      rw [hc] at hc'
      cases hc'
      exact ⟨u', rfl⟩
    · exact ⟨_, x.cps[i], Array.getElem?_eq_getElem hi, rfl⟩
/-- the object of a new iterator -/
def ob : Sc → Tok → Obj
  | .lst a, _ => { cls := .type "list_iterator", data := .fields #[.ref a, .int 0 0] }
  | .tup a, _ => { cls := .type "tuple_iterator", data := .fields #[.ref a, .int 0 0] }
  | .str x, t => { cls := .type (strIterType x), data := .fields #[.str x t, .int 0 0] }
theorem at_zero {it : Addr} {h : Heap} {sc : Sc} {t : Tok} (e : h.get? it = some (sc.ob t)) : sc.at_ it 0 h := by
  cases sc with
  | lst a => exact ⟨_, e, rfl, rfl⟩
  | tup a => exact ⟨_, e, rfl, rfl⟩
  | str x => exact ⟨t, _, e, rfl, rfl⟩
/-- a new iterator -/
theorem begins {X : Cx} {pins : List (Addr × Obj)} {σ : L2.St} {H : Hp} {s : Shared} {n : Nat} {sc : Sc} {u : Value} (I : Inv X pins σ H s) (hl : sc.len X.K H n) (r : RelV sc.v u) : ∃ (t : Tok) (HH : Heap → Prop), Begins u (sc.ob t) HH ∧ HH s.heap ∧ ∀ b, b ∈ sc.base → b < s.heap.objs.size := by
  cases sc with
  | lst a =>
    obtain ⟨xs, hq, rfl⟩ := hl
    obtain ⟨its, rv, p, _⟩ := I.list hq
    cases r
    exact ⟨0, _, begins_list a its.toArray, p.isList, fun b hb => by
      have e : b = a := by simpa [base] using hb
      subst e
      exact p.lt⟩
  | tup a =>
    obtain ⟨xs, hq, rfl⟩ := hl
    obtain ⟨its, rv, p, _⟩ := I.tuple hq
    cases r
    exact ⟨0, _, begins_tuple a its.toArray, p, fun b hb => by
      have e : b = a := by simpa [base] using hb
      subst e
      obtain ⟨o, ho, _⟩ := id p
      exact Heap.lt_size ho⟩
  | str x =>
    obtain ⟨t, rfl⟩ := r
    exact ⟨t, _, begins_text x t, trivial, fun b hb => by simp [base] at hb⟩
end Sc

/-! ### zip -/
def ItZ (K : PySem.W.Frag) (s1 s2 : Sc) : It :=
  ⟨fun i H => ∃ n1 n2, s1.len K H n1 ∧ s2.len K H n2 ∧ i < n1 ∧ i < n2,
    fun i H v H' => ∃ T x y, v = .ref T ∧ H T = none ∧ H' = upd H T (.tup [x, y]) ∧ s1.val K H i x ∧ s2.val K H i y,
    fun i H => ∃ n1 n2, s1.len K H n1 ∧ s2.len K H n2 ∧ i ≤ n1 ∧ i ≤ n2 ∧ (i = n1 ∨ i = n2)⟩
theorem turn_Z {P : Program} {w : World} {K : PySem.W.Frag} {elts : List Expr} {kk : Nat} {tpos : Pos} {s1 s2 : Sc} {z TI TO i1 i2 : Addr} (S : ZipSep2 z TI TO i1 i2 (s1.fp i1) (s2.fp i2)) (h1 : i1 ∉ s1.base) (h2 : i2 ∉ s2.base) :
    Turn P w K (.Tuple elts kk tpos) (ItZ K s1 s2) [z, TI, TO, i1, i2] z (fun i h => IsZip h z TI TO .none ∧ IsTupOf2 h TI (.ref i1) (.ref i2) ∧ (∃ a b, IsTupOf2 h TO a b) ∧ s1.at_ i1 i h ∧ s2.at_ i2 i h) where
  mem := by simp
  obj := fun i h st c hc => by
    obtain ⟨hz, hTI, ⟨x, y, hTO⟩, st1, st2⟩ := st
    have e' : c = z ∨ c = TI ∨ c = TO ∨ c = i1 ∨ c = i2 := by simpa using hc
    rcases e' with q | q | q | q | q
    · rw [q]; exact ⟨_, hz, fun v q => nomatch q⟩
    · rw [q]; exact ⟨_, hTI, fun v q => nomatch q⟩
    · rw [q]; exact ⟨_, hTO, fun v q => nomatch q⟩
    · rw [q]; exact Sc.at_obj st1
    · rw [q]; exact Sc.at_obj st2
  keep := fun i h h' st k => by
    obtain ⟨hz, hTI, ⟨x, y, hTO⟩, st1, st2⟩ := st
    exact ⟨k z (by simp) _ hz, k TI (by simp) _ hTI, ⟨x, y, k TO (by simp) _ hTO⟩, Sc.at_keep st1 fun o q => k i1 (by simp) o q, Sc.at_keep st2 fun o q => k i2 (by simp) o q⟩
  item := by
    intro X hP hw hK hc i pins s σ H E I hf st hg
    subst hP hw hK
    obtain ⟨hz, hTI, ⟨x0, y0, hTO⟩, st1, st2⟩ := st
    obtain ⟨n1, n2, l1, l2, hi1, hi2⟩ := hg
    obtain ⟨P1, S1, D1, q1, v1, a1, x1⟩ := Sc.draws (A := X.A.in1) I (I.ok.hd hc) h1 l1 st1
    obtain ⟨P2, S2, D2, q2, v2, a2, x2⟩ := Sc.draws (A := X.A.in1) I (I.ok.hd hc) h2 l2 st2
    obtain ⟨x, hx⟩ := x1 hi1
    obtain ⟨y, hy⟩ := x2 hi2
    have hzl : z < s.heap.objs.size := Heap.lt_size hz
    refine wpAny_pyNext_zipD2_item S D1 D2 hz hTI hTO q1 q2 hi1 hi2 fun u u2 h' tk p1 p2 z' TO' st1' st2' hT hsz hk => ?_
    refine ⟨_, rfl, wpAny_letOwnedTupleGo_zip (s := { s with heap := h', toks := tk }) z' fun h'' z'' sb => ?_⟩
    have hT2 : h''.get? s.heap.objs.size = some { cls := .type "tuple", data := .seq #[u, u2] } := (sb.2 _ (Nat.ne_of_gt hzl)).trans hT
    have new : ObjOk X.prog X.w (upd H s.heap.objs.size (.tup [x, y])) h'' s.heap.objs.size (.tup [x, y]) :=
      ⟨by show 2 ≤ sizeLine; decide, [u, u2], .cons (v1 x u hx p1) (.cons (v2 y u2 hy p2) .nil), ⟨_, hT2, rfl, _, rfl⟩⟩
    have I1 : Inv X pins σ (upd H s.heap.objs.size (.tup [x, y])) { s with heap := h'', toks := tk } :=
      I.turnedNew (t' := tk) (ch := [z, TI, TO, i1, i2]) (fun c o hb q => (sb.2 c (fun q' => hb (by simp [q']))).trans (hk c o (fun q' => hb (by simp [q'])) (fun q' => hb (by simp [q'])) (fun q' => hb (by simp [q'])) (fun q' => hb (by simp [q'])) q)) hf (Nat.le_refl _) new
    refine ⟨.ref s.heap.objs.size, _, I1, rfl, ⟨_, x, y, rfl, I.hok.fresh (Nat.le_refl _), rfl, hx, hy⟩, ⟨z'', ?_, ⟨u, u2, ?_⟩, ?_, ?_⟩, fun c hcm => ?_⟩
    · exact (sb.2 _ S.TIz).trans (hk _ _ S.TIz S.TITO S.TIi1 S.TIi2 hTI)
    · exact (sb.2 _ S.TOz).trans TO'
    · exact Sc.at_keep (a1 _ st1') fun o q => (sb.2 _ (Ne.symm S.zi1)).trans q
    · exact Sc.at_keep (a2 _ st2') fun o q => (sb.2 _ (Ne.symm S.zi2)).trans q
    · have hlt : c < s.heap.objs.size := by
        have e' : c = z ∨ c = TI ∨ c = TO ∨ c = i1 ∨ c = i2 := by simpa using hcm
        rcases e' with q | q | q | q | q
        · rw [q]; exact hzl
        · rw [q]; exact Heap.lt_size hTI
        · rw [q]; exact Heap.lt_size hTO
        · rw [q]; obtain ⟨_, e1, _⟩ := Sc.at_obj st1; exact Heap.lt_size e1
        · rw [q]; obtain ⟨_, e2, _⟩ := Sc.at_obj st2; exact Heap.lt_size e2
      rw [upd_ne (Nat.ne_of_lt hlt)]
      exact (hf c hcm).1
  done := by
    intro X hP hw hK hc i pins s σ H E I hf st hg
    subst hP hw hK
    obtain ⟨hz, hTI, ⟨x0, y0, hTO⟩, st1, st2⟩ := st
    obtain ⟨n1, n2, l1, l2, hi1, hi2, he⟩ := hg
    obtain ⟨P1, S1, D1, q1, v1, a1, x1⟩ := Sc.draws (A := X.A.in1) I (I.ok.hd hc) h1 l1 st1
    obtain ⟨P2, S2, D2, q2, v2, a2, x2⟩ := Sc.draws (A := X.A.in1) I (I.ok.hd hc) h2 l2 st2
    exact wpAny_pyNext_zipD2_end S D1 D2 hz hTI hTO q1 q2 hi1 hi2 he fun h' tk hk => ⟨rfl, I.turnedL (t' := tk) (ch := [z, TI, TO, i1, i2]) (fun c o hb q =>
      hk c o (fun q' => hb (by simp [q'])) (fun q' => hb (by simp [q'])) (fun q' => hb (by simp [q'])) (fun q' => hb (by simp [q'])) q) hf⟩
  self := fun A i s Q E st h => wpAny_pyIter_zip st.1 h
def jZip (K : PySem.W.Frag) (ta : TA) : TI := fun σ H R => ta σ H fun vs H1 => ∃ s1 s2 n1 n2, vs = [Sc.v s1, Sc.v s2] ∧ s1.len K H1 n1 ∧ s2.len K H1 n2 ∧ R (ItZ K s1 s2) H1
theorem pi_Z {X : Cx} {e e2 : Expr} {ta : TA} {p pos tpos : Pos} {elts : List Expr} {kk : Nat} (hg : Gl X "zip") (hm : X.mg "zip" = none) (ha : PA X [e, e2] ta)
    (hs : starEach [e, e2] X.env = (false, eval e X.env) :: starEach [e2] X.env := by rfl) (hpl : (backTo pos (starEach [e2] X.env)).any (·.1) = false := by rfl) :
    PI X (.Tuple elts kk tpos) (.Call (.Name "zip" p) [e, e2] [] pos) (jZip X.K ta) := by
  refine ⟨fun pins s σ H R I h => ?_⟩
  refine Call_ (ld_blt I hg hm PyProof.Rows.boot_zip (PyProof.Rows.callWith_type1 (thn (ha.run pos pins s σ H _ I h) fun us sh ⟨vs, H1, I1, r1, q1⟩ => ?_) hs hpl))
  obtain ⟨s1, s2, n1, n2, ex, l1, l2, q⟩ := q1
  subst ex
  cases r1 with
  | cons r rr =>
    cases rr with
    | cons r' rr =>
      cases rr
      obtain ⟨t1, H1', B1, b1, c1⟩ := Sc.begins I1 l1 r
      obtain ⟨t2, H2', B2, b2, c2⟩ := Sc.begins I1 l2 r'
      have fresh5 : ∀ c, c ∈ [sh.heap.objs.size + 4, sh.heap.objs.size + 2, sh.heap.objs.size + 3, sh.heap.objs.size, sh.heap.objs.size + 1] → FpOk X pins H1 c := fun c hcm => by
        have e' : c = sh.heap.objs.size + 4 ∨ c = sh.heap.objs.size + 2 ∨ c = sh.heap.objs.size + 3 ∨ c = sh.heap.objs.size ∨ c = sh.heap.objs.size + 1 := by simpa using hcm
        have hle : sh.heap.objs.size ≤ c := by
          rcases e' with z | z | z | z | z
          · rw [z]; exact Nat.le_add_right _ _
          · rw [z]; exact Nat.le_add_right _ _
          · rw [z]; exact Nat.le_add_right _ _
          · rw [z]; exact Nat.le_refl _
          · rw [z]; exact Nat.le_add_right _ _
        exact I1.fpOk hle (I1.hok.fresh hle)
      refine zip_begins2 B1 B2 b1 b2 fun h' hz hTI hTO g1 g2 hsz hk => wpAny_pyIter_zip hz ?_
      have I2 : Inv X pins σ H1 { sh with heap := h' } := I1.kept (t' := sh.toks) hk
      have S := zip_sep2 (N := sh.heap.objs.size) c1 c2
      rw [← Sc.fp_eq, ← Sc.fp_eq] at S
      exact ⟨sh.heap.objs.size + 4, [sh.heap.objs.size + 4, sh.heap.objs.size + 2, sh.heap.objs.size + 3, sh.heap.objs.size, sh.heap.objs.size + 1], _, _, H1, rfl, I2,
        turn_Z S (fun hm => Nat.lt_irrefl _ (c1 _ hm)) (fun hm => Nat.lt_irrefl _ (Nat.lt_trans (Nat.lt_succ_self _) (c2 _ hm))), ⟨hz, hTI, ⟨_, _, hTO⟩, Sc.at_zero g1, Sc.at_zero g2⟩, fresh5, q⟩

/-! ### enumerate -/
set_option maxHeartbeats 1000000 in
theorem meets_enumerate_1B {v : Value} {o : Obj} {H : Heap → Prop} (B : Begins v o H) :
    Meets (Builtin.«enumerate.__new__» ⟨[.type "enumerate", v], []⟩) (fun _ R s => H s.heap ∧
      R (.ok (.ret (.ref (s.heap.push o).objs.size))) { s with heap := (s.heap.push o).push { cls := .type "enumerate", data := .fields #[.none, .bool false, .ref s.heap.objs.size, rawInt 0, .none, .none] } }) :=
  .of_wp fun prog w A R s h => by
    obtain ⟨hp, g, d, tk, os⟩ := s; obtain ⟨h1, h⟩ := h
    have hsub := sub_enumerate
    have q1 : ∀ {A' : Around} {E : Value → Shared → Prop} {Q : Value → Shared → Prop}, Q (.ref hp.objs.size) ⟨hp.push o, g, d, tk, os⟩ → wpAny (model prog w) A' (pyIter v) Q E ⟨hp, g, d, tk, os⟩ :=
      fun q => B.iter prog w _ _ ⟨hp, g, d, tk, os⟩ _ h1 q
    wp_walk using q1
    refine wpAny_stack_any fun st => wpAny_pure ?_
    split
    · rename_i c _ _ _ _ _
      cases (c == Value.type "enumerate")
      · wp_walk using q1
        exact ⟨_, rfl, h⟩
      · wp_walk using q1
        exact ⟨_, rfl, h⟩
    · wp_walk using q1
      exact ⟨_, rfl, h⟩
theorem enum_begins1 {prog : Program} {w : World} {A : Around} {E : Value → Shared → Prop} {s : Shared} {v : Value} {o : Obj} {H : Heap → Prop} {Q : Value → Shared → Prop} (B : Begins v o H) (h1 : H s.heap)
    (h : ∀ h', IsEnum h' (s.heap.objs.size + 1) s.heap.objs.size 0 .none → h'.get? s.heap.objs.size = some o → h'.objs.size = s.heap.objs.size + 2 →
      (∀ b o, s.heap.get? b = some o → h'.get? b = some o) → Q (.ref (s.heap.objs.size + 1)) { s with heap := h' }) :
    wpAny (model prog w) A (call (.type "enumerate") [v]) Q E s := by
  refine callType_new F.called_enumerate (by decide) (F.typeCall_enumerate_1 _) (F.newCall_enumerate_1 _) (fun obj => F.args_object_init_2 obj _) F.entry_enumerate_new
    (meets_enumerate_1B B) ⟨h1, ?_⟩
  have hz : (s.heap.push o).objs.size = s.heap.objs.size + 1 := Heap.size_push ..
  show _ ∧ _
  rw [hz]
  have he : IsEnum ((s.heap.push o).push { cls := .type "enumerate", data := .fields #[.none, .bool false, .ref s.heap.objs.size, rawInt 0, .none, .none] }) (s.heap.objs.size + 1) s.heap.objs.size 0 .none := by
    have := Heap.get?_push_size (s.heap.push o) (o := { cls := .type "enumerate", data := .fields #[.none, .bool false, .ref s.heap.objs.size, rawInt 0, .none, .none] }) rfl
    rw [hz] at this; exact this
  refine ⟨⟨_, he, rfl⟩, h _ he (Heap.get?_push_of_some _ (Heap.get?_push_size _ B.free)) (by rw [Heap.size_push, hz]) fun b o x => Heap.get?_push_of_some _ (Heap.get?_push_of_some _ x)⟩
def ItE (K : PySem.W.Frag) (s1 : Sc) : It :=
  ⟨fun i H => ∃ n, s1.len K H n ∧ i < n,
    fun i H v H' => ∃ T x, v = .ref T ∧ H T = none ∧ H' = upd H T (.tup [.int (i : Nat), x]) ∧ s1.val K H i x,
    fun i H => s1.len K H i⟩
theorem turn_E {P : Program} {w : World} {K : PySem.W.Frag} {elts : List Expr} {kk : Nat} {tpos : Pos} {s1 : Sc} (e it : Addr) (hei : e ≠ it) (heb : e ∉ s1.base) (hib : it ∉ s1.base) :
    Turn P w K (.Tuple elts kk tpos) (ItE K s1) [e, it] e (fun i h => (∃ old, IsEnum h e it ((i : Nat) : Int) old) ∧ s1.at_ it i h) where
  mem := by simp
  obj := fun i h st b hb => by
    obtain ⟨⟨old, he⟩, st⟩ := st
    have e' : b = e ∨ b = it := by simpa using hb
    rcases e' with z | z
    · rw [z]; exact ⟨_, he, fun v q => nomatch q⟩
    · rw [z]; exact Sc.at_obj st
  keep := fun i h h' st k => let ⟨⟨old, he⟩, hi⟩ := st; ⟨⟨old, k e (by simp) _ he⟩, Sc.at_keep hi fun o q => k it (by simp) o q⟩
  item := by
    intro X hP hw hK hc i pins s σ H E I hf st hg
    subst hP hw hK
    obtain ⟨⟨old, he⟩, st⟩ := st
    obtain ⟨n, hl, hi⟩ := hg
    obtain ⟨P1, S1, D1, q1, v1, a1, x1⟩ := Sc.draws (A := X.A.in1) I (I.ok.hd hc) hib hl st
    obtain ⟨x, hx⟩ := x1 hi
    have hel : e < s.heap.objs.size := Heap.lt_size he
    have hil : it < s.heap.objs.size := by obtain ⟨_, q, _⟩ := Sc.at_obj st; exact Heap.lt_size q
    have hef : e ∉ s1.fp it := by
      rw [Sc.fp_eq]
      intro q
      rcases List.mem_cons.mp q with q | q
      · exact hei q
      · exact heb q
    refine wpAny_pyNext_enum_itemC D1 he q1 hi hei hef fun u h' tk p1 ho st1 hT hsz hk => ?_
    refine ⟨_, rfl, wpAny_letOwnedTupleGo_enum (s := { s with heap := h', toks := tk + 1 }) ho fun h'' he' sb => ?_⟩
    have hT2 : h''.get? s.heap.objs.size = some { cls := .type "tuple", data := .seq #[.int i tk, u] } := (sb.2 _ (Nat.ne_of_gt hel)).trans hT
    have new : ObjOk X.prog X.w (upd H s.heap.objs.size (.tup [.int (i : Nat), x])) h'' s.heap.objs.size (.tup [.int (i : Nat), x]) :=
      ⟨by show 2 ≤ sizeLine; decide, [.int i tk, u], .cons ⟨_, rfl⟩ (.cons (v1 x u hx p1) .nil), ⟨_, hT2, rfl, _, rfl⟩⟩
    have I1 : Inv X pins σ (upd H s.heap.objs.size (.tup [.int (i : Nat), x])) { s with heap := h'', toks := tk + 1 } :=
      I.turnedNew (t' := tk + 1) (ch := [e, it]) (fun b ob hb q => (sb.2 b (fun z => hb (by simp [z]))).trans (hk b ob (fun z => hb (by simp [z])) (fun z => hb (by simp [z])) q)) hf (Nat.le_refl _) new
    refine ⟨.ref s.heap.objs.size, _, I1, rfl, ⟨_, x, rfl, I.hok.fresh (Nat.le_refl _), rfl, hx⟩, ⟨⟨u, ?_⟩, Sc.at_keep (a1 _ st1) fun o q => (sb.2 it (Ne.symm hei)).trans q⟩, fun b hb => ?_⟩
    · have e1 : ((i + 1 : Nat) : Int) = (i : Int) + 1 := by omega
      rw [e1]; exact he'
    · have hb' : b < s.heap.objs.size := by
        have e' : b = e ∨ b = it := by simpa using hb
        rcases e' with z | z
        · rw [z]; exact hel
        · rw [z]; exact hil
      rw [upd_ne (Nat.ne_of_lt hb')]
      exact (hf b hb).1
  done := by
    intro X hP hw hK hc i pins s σ H E I hf st hg
    subst hP hw hK
    obtain ⟨⟨old, he⟩, st⟩ := st
    obtain ⟨P1, S1, D1, q1, v1, a1, x1⟩ := Sc.draws (A := X.A.in1) I (I.ok.hd hc) hib hg st
    obtain ⟨f0, f1, f2, f3, f4, f5⟩ := hf it (by simp)
    exact wpAny_pyNext_enum_endD D1 he q1 fun h' eb => ⟨rfl, I.turned (t' := s.toks) (fun b o hb q => eb b o hb q) f0 f1 f3 f4 f5⟩
  self := fun A i s Q E st h => let ⟨⟨_, he⟩, _⟩ := st; wpAny_pyIter_enum he h
def jEnum (K : PySem.W.Frag) (ta : TA) : TI := fun σ H R => ta σ H fun vs H1 => ∃ s1 n, vs = [Sc.v s1] ∧ s1.len K H1 n ∧ R (ItE K s1) H1
theorem pi_E {X : Cx} {e : Expr} {ta : TA} {p pos tpos : Pos} {elts : List Expr} {kk : Nat} (hg : Gl X "enumerate") (hm : X.mg "enumerate" = none) (ha : PA X [e] ta) (hs : starEach [e] X.env = [(false, eval e X.env)] := by rfl) :
    PI X (.Tuple elts kk tpos) (.Call (.Name "enumerate" p) [e] [] pos) (jEnum X.K ta) := by
  refine ⟨fun pins s σ H R I h => ?_⟩
  refine Call_ (ld_blt I hg hm PyProof.Rows.boot_enumerate (PyProof.Rows.callWith_type1 (thn (ha.run pos pins s σ H _ I h) fun us sh ⟨vs, H1, I1, r1, q1⟩ => ?_) hs rfl))
  obtain ⟨s1, n, ex, l1, q⟩ := q1
  subst ex
  cases r1 with
  | cons r rr =>
    cases rr
    obtain ⟨t1, H1', B1, b1, c1⟩ := Sc.begins I1 l1 r
    refine enum_begins1 B1 b1 fun h' he g1 hsz hk => wpAny_pyIter_enum he ?_
    have I2 : Inv X pins σ H1 { sh with heap := h' } := I1.kept (t' := sh.toks) hk
    refine ⟨sh.heap.objs.size + 1, [sh.heap.objs.size + 1, sh.heap.objs.size], _, _, H1, rfl, I2, turn_E (sh.heap.objs.size + 1) sh.heap.objs.size (Nat.succ_ne_self _) (fun hm => Nat.lt_irrefl _ (Nat.lt_trans (Nat.lt_succ_self _) (c1 _ hm))) (fun hm => Nat.lt_irrefl _ (c1 _ hm)), ⟨⟨.none, he⟩, Sc.at_zero g1⟩, fun b hb => ?_, q⟩
    have e' : b = sh.heap.objs.size + 1 ∨ b = sh.heap.objs.size := by simpa using hb
    have hle : sh.heap.objs.size ≤ b := by
      rcases e' with z | z
      · rw [z]; exact Nat.le_add_right _ _
      · rw [z]; exact Nat.le_refl _
    exact I1.fpOk hle (I1.hok.fresh hle)

/-! ### as rules -/
/-- while P stands, the source gives the things xs -/
def ScOk (K : PySem.W.Frag) (P : Hp → Hp → Option Addr → Prop) (sc : Sc) (xs : List D) : Prop := ∀ H F C, P H F C → HF H F C ∧ sc.len K H xs.length ∧ ∀ (i : Nat) (d : D), xs[i]? = some d → ∀ v, sc.val K H i v → Rp K F C v d
section
variable {K : PySem.W.Frag} {P : Hp → Hp → Option Addr → Prop}
theorem sc_lst {a : Addr} {vs : List V} {ds : List D} (h : ∀ H F C, P H F C → HF H F C ∧ SqL K H a vs ∧ Rps K F C vs ds) : ScOk K P (.lst a) ds := fun H F C p => by
  obtain ⟨hf, hq, r⟩ := h H F C p
  refine ⟨hf, ⟨vs, hq, r.length⟩, fun i d e v hv => ?_⟩
  obtain ⟨v', e1, r1⟩ := r.get e
  rw [hv vs hq] at e1
  cases e1
  exact r1
theorem sc_tup {a : Addr} {vs : List V} {ds : List D} (h : ∀ H F C, P H F C → HF H F C ∧ SqT K H a vs ∧ Rps K F C vs ds) : ScOk K P (.tup a) ds := fun H F C p => by
  obtain ⟨hf, hq, r⟩ := h H F C p
  refine ⟨hf, ⟨vs, hq, r.length⟩, fun i d e v hv => ?_⟩
  obtain ⟨v', e1, r1⟩ := r.get e
  rw [hv vs hq] at e1
  cases e1
  exact r1
theorem sc_str {z : List Nat} (h : ∀ H F C, P H F C → HF H F C) : ScOk K P (.str (SS z)) (z.map fun c => .str [c]) := fun H F C p => by
  refine ⟨h H F C p, ?_, fun i d e v hv => ?_⟩
  · show z.toArray.size = _
    rw [List.size_toArray, List.length_map]
  · rw [List.getElem?_map] at e
    cases q : z[i]? with
    | none => rw [q] at e; cases e
    | some c =>
      rw [q] at e
      cases e
      obtain ⟨c', e1, rfl⟩ := hv
      have e1' : z.toArray[i]? = some c' := e1
      rw [List.getElem?_toArray, q] at e1'
      cases e1'
      exact .str [c]
/-- a value walked: frozen -/
theorem sc_of {H1 F1 : Hp} {C1 : Option Addr} {v : V} {d : D} {Q : List D → Prop} (hf : HF H1 F1 C1) (r : Rp K F1 C1 v d) (q : (wSeq d).All Q) : ∃ sc xs, v = Sc.v sc ∧ ScOk K (PL H1 F1 C1) sc xs ∧ Q xs ∧ wSeq d = .ret xs := by
  cases r with
  | lst hs rs => exact ⟨.lst _, _, rfl, sc_lst fun H2 F2 C2 p => ⟨p.1, .of (p.1.sub _ _ (p.2.1 _ _ hs)), rs.mono p.2.1 p.2.2⟩, q, rfl⟩
  | tup hs rs => exact ⟨.tup _, _, rfl, sc_tup fun H2 F2 C2 p => ⟨p.1, sameT p.1.sub (sameT p.2.1 hs), rs.mono p.2.1 p.2.2⟩, q, rfl⟩
  | str z =>
    obtain ⟨hz, q⟩ := all_if q
    exact ⟨.str _, _, rfl, sc_str fun _ _ _ p => p.1, q, if_pos hz⟩
  | _ => exact q.elim
/-- .. only looked at -/
theorem sc_ofB {H1 F1 : Hp} {C1 : Option Addr} {v : V} {d : D} {Q : List D → Prop} (r : RpB K F1 H1 C1 v d) (q : (wSeq d).All Q) : ∃ sc xs, v = Sc.v sc ∧ ScOk K (PC H1 F1 C1) sc xs ∧ Q xs ∧ wSeq d = .ret xs := by
  rcases r with r | ⟨p, vs, xs, rfl, rfl, hp, hc, rs⟩ | ⟨p, vs, ks, ds, rfl, rfl, hp, hc, rs⟩
  · cases r with
    | lst hs rs => exact ⟨.lst _, _, rfl, sc_lst fun H2 F2 C2 p => ⟨p.2.hf, .of (p.2.hf.sub _ _ (p.2.frz _ _ hs)), rs.mono p.2.frz p.2.cup⟩, q, rfl⟩
    | tup hs rs => exact ⟨.tup _, _, rfl, sc_tup fun H2 F2 C2 p => ⟨p.2.hf, sameT p.2.hf.sub (sameT p.2.frz hs), rs.mono p.2.frz p.2.cup⟩, q, rfl⟩
    | str z =>
      obtain ⟨hz, q⟩ := all_if q
      exact ⟨.str _, _, rfl, sc_str fun _ _ _ p => p.2.hf, q, if_pos hz⟩
    | _ => exact q.elim
  · exact ⟨.lst p, xs, rfl, sc_lst fun H2 F2 C2 z => ⟨z.2.hf, .of (z.2.same _ _ hc hp), rs.mono z.2.frz z.2.cup⟩, q, rfl⟩
  · exact q.elim
theorem wk_Z {s1 s2 : Sc} {xs ys : List D} (h1 : ScOk K P s1 xs) (h2 : ScOk K P s2 ys) : Wk K P (ItZ K s1 s2) (zipL xs ys) := fun i H F C p => by
  obtain ⟨hf, l1, v1⟩ := h1 H F C p
  obtain ⟨_, l2, v2⟩ := h2 H F C p
  have hl : (zipL xs ys).length = min xs.length ys.length := List.length_zipWith
  refine ⟨fun d e => ?_, fun e => ⟨_, _, l1, l2, by omega, by omega, by omega⟩⟩
  have hi := (List.getElem?_eq_some_iff.mp e).1
  refine ⟨⟨_, _, l1, l2, by omega, by omega⟩, fun x H' y => ?_⟩
  obtain ⟨T, x1, x2, rfl, nT, rfl, hx1, hx2⟩ := y
  unfold zipL at e
  rw [List.getElem?_zipWith] at e
  cases e1 : xs[i]? with
  | none => rw [e1] at e; cases ys[i]? <;> cases e
  | some d1 =>
    cases e2 : ys[i]? with
    | none => rw [e1, e2] at e; cases e
    | some d2 =>
      rw [e1, e2] at e
      cases e
      have s := hf.laidF (o := .tup [x1, x2]) nT
      exact ⟨_, s, .tup (.of upd_same) (.cons ((v1 i d1 e1 x1 hx1).step s) (.cons ((v2 i d2 e2 x2 hx2).step s) .nil))⟩
theorem wk_E {s1 : Sc} {xs : List D} (h1 : ScOk K P s1 xs) : Wk K P (ItE K s1) (enumL xs) := fun i H F C p => by
  obtain ⟨hf, l1, v1⟩ := h1 H F C p
  have hl : (enumL xs).length = xs.length := List.length_mapIdx
  refine ⟨fun d e => ?_, fun e => by rw [e, hl]; exact l1⟩
  have hi := (List.getElem?_eq_some_iff.mp e).1
  refine ⟨⟨_, l1, by omega⟩, fun x H' y => ?_⟩
  obtain ⟨T, x1, rfl, nT, rfl, hx1⟩ := y
  unfold enumL at e
  rw [List.getElem?_mapIdx] at e
  cases e1 : xs[i]? with
  | none => rw [e1] at e; cases e
  | some d1 =>
    rw [e1] at e
    cases e
    have s := hf.laidF (o := .tup [.int (i : Nat), x1]) nT
    exact ⟨_, s, .tup (.of upd_same) (.cons (.int _) (.cons ((v1 i d1 e1 x1 hx1).step s) .nil))⟩
end
end WK
end

section
set_option Elab.async false
set_option linter.all false
set_option maxRecDepth 100000
/-! zip and enumerate as rules; two fors in a comprehension. -/
namespace WK
open PySem L2
theorem all_fitL {P : List D → Prop} {xs : List D} (h : (fitL xs).All P) : xs.length ≤ sizeMax ∧ P xs := by
  unfold fitL at h
  split at h
  · exact ⟨by assumption, h⟩
  · exact h.elim
theorem PL.refl {H F : Hp} {C : Option Addr} (h : HF H F C) : PL H F C H F C := ⟨h, Same.refl _, fun _ z => z⟩
theorem PC.refl {H F : Hp} {C : Option Addr} (h : HF H F C) : PC H F C H F C := ⟨h, h.refl⟩
section
variable {X : Cx} {a b : Expr} {elts : List Expr} {kk : Nat} {tpos p pos : Pos} {f f1 f2 : FE}
theorem ci_zip (hg : Gl X "zip") (hm : X.mg "zip" = none) (ha : CF X a f1) (hb : CF X b f2) (hs : starEach [a, b] X.env = (false, eval a X.env) :: starEach [b] X.env := by rfl) (hs2 : starEach [b] X.env = (false, eval b X.env) :: starEach [] X.env := by rfl) (hpl : (backTo pos (starEach [b] X.env)).any (·.1) = false := by rfl) :
    CI X (.Tuple elts kk tpos) (.Call (.Name "zip" p) [a, b] [] pos) (iZipF f1 f2) :=
  pi_mono (pi_Z hg hm (pa_cons ha (pa_cons hb pa_nil hs2) hs) hs hpl) fun σ H R ⟨B, F, C, ρ, E, q⟩ => by
    refine ⟨B, F, C, ρ, E, (M.all_bind.mp q).mono fun d q v H1 F1 C1 s1 r1 => ?_⟩
    refine ⟨B, F1, C1, ρ, E.step s1, (M.all_bind.mp q).mono fun d2 q v2 H2 F2 C2 s2 r2 => ?_⟩
    obtain ⟨sc1, xs, rfl, ok1, q, _⟩ := sc_of s2.hf (r1.step s2) (M.all_bind.mp q)
    obtain ⟨sc2, ys, rfl, ok2, q, _⟩ := sc_of s2.hf r2 (M.all_bind.mp q)
    obtain ⟨hz, q⟩ := all_fitL q
    have p := PL.refl s2.hf
    exact ⟨sc1, sc2, _, _, rfl, (ok1 _ _ _ p).2.1, (ok2 _ _ _ p).2.1, q _ H2 F2 C2 (s1.trans E.hf s2) (Nat.le_of_lt (fits hz)) (wk_Z ok1 ok2)⟩
theorem cj_zip (hg : Gl X "zip") (hm : X.mg "zip" = none) (ha : CB X a f1) (hb : CB X b f2) (hs : starEach [a, b] X.env = (false, eval a X.env) :: starEach [b] X.env := by rfl) (hs2 : starEach [b] X.env = (false, eval b X.env) :: starEach [] X.env := by rfl) (hpl : (backTo pos (starEach [b] X.env)).any (·.1) = false := by rfl) :
    CJ X (.Tuple elts kk tpos) (.Call (.Name "zip" p) [a, b] [] pos) (iZipF f1 f2) :=
  pi_mono (pi_Z hg hm (pa_cons ha (pa_cons hb pa_nil hs2) hs) hs hpl) fun σ H R ⟨B, F, C, ρ, E, q⟩ => by
    refine ⟨B, F, C, ρ, E, (M.all_bind.mp q).mono fun d q v H1 F1 C1 s1 r1 => ?_⟩
    refine ⟨B, F1, C1, ρ, E.step s1, (M.all_bind.mp q).mono fun d2 q v2 H2 F2 C2 s2 r2 => ?_⟩
    obtain ⟨sc1, xs, rfl, ok1, q, _⟩ := sc_ofB (r1.step s2) (M.all_bind.mp q)
    obtain ⟨sc2, ys, rfl, ok2, q, _⟩ := sc_ofB r2 (M.all_bind.mp q)
    obtain ⟨hz, q⟩ := all_fitL q
    have p := PC.refl s2.hf
    exact ⟨sc1, sc2, _, _, rfl, (ok1 _ _ _ p).2.1, (ok2 _ _ _ p).2.1, q _ H2 F2 C2 (s1.trans E.hf s2) (Nat.le_of_lt (fits hz)) (wk_Z ok1 ok2)⟩
theorem ci_enum (hg : Gl X "enumerate") (hm : X.mg "enumerate" = none) (ha : CF X a f) (hs : starEach [a] X.env = [(false, eval a X.env)] := by rfl) : CI X (.Tuple elts kk tpos) (.Call (.Name "enumerate" p) [a] [] pos) (iEnumF f) :=
  pi_mono (pi_E hg hm (pa_cons ha pa_nil hs) hs) fun σ H R ⟨B, F, C, ρ, E, q⟩ => by
    refine ⟨B, F, C, ρ, E, (M.all_bind.mp q).mono fun d q v H1 F1 C1 s1 r1 => ?_⟩
    obtain ⟨sc1, xs, rfl, ok1, q, _⟩ := sc_of s1.hf r1 (M.all_bind.mp q)
    obtain ⟨hz, q⟩ := all_fitL q
    exact ⟨sc1, _, rfl, (ok1 _ _ _ (PL.refl s1.hf)).2.1, q _ H1 F1 C1 s1 (Nat.le_of_lt (fits hz)) (wk_E ok1)⟩
theorem cj_enum (hg : Gl X "enumerate") (hm : X.mg "enumerate" = none) (ha : CB X a f) (hs : starEach [a] X.env = [(false, eval a X.env)] := by rfl) : CJ X (.Tuple elts kk tpos) (.Call (.Name "enumerate" p) [a] [] pos) (iEnumF f) :=
  pi_mono (pi_E hg hm (pa_cons ha pa_nil hs) hs) fun σ H R ⟨B, F, C, ρ, E, q⟩ => by
    refine ⟨B, F, C, ρ, E, (M.all_bind.mp q).mono fun d q v H1 F1 C1 s1 r1 => ?_⟩
    obtain ⟨sc1, xs, rfl, ok1, q, _⟩ := sc_ofB r1 (M.all_bind.mp q)
    obtain ⟨hz, q⟩ := all_fitL q
    exact ⟨sc1, _, rfl, (ok1 _ _ _ (PC.refl s1.hf)).2.1, q _ H1 F1 C1 s1 (Nat.le_of_lt (fits hz)) (wk_E ok1)⟩
end
/-! ### two fors -/
theorem all_const {α : Type} {c : Prop} : ∀ {m : M α}, (m.All fun _ => c) → c
  | .ret _, h => h
  | .bad, h => h.elim
  | .draw n k, h => all_const (h.2 0 h.1)
def hide (D : Addr) (H : Hp) : Hp := fun b => if b = D then none else H b
theorem hide_same {D : Addr} {H : Hp} : hide D H D = none := if_pos rfl
theorem hide_ne {D b : Addr} {H : Hp} (h : b ≠ D) : hide D H b = H b := if_neg h
section
variable {K : PySem.W.Frag} {B H F H3 F3 : Hp} {C C3 : Option Addr} {σ : L2.St} {ρ : Ev} {D : Addr} {o : HO}
theorem EnvOk.pin (E : EnvOk K B σ H F C ρ) (nD : H D = none) (s : Step H F C H3 F3 C3) (hD : H3 D = some o) (c : C3 ≠ some D) : EnvOk K (upd B D o) σ H3 F3 C3 ρ := by
  have E3 := E.step s
  refine ⟨s.hf, fun b u e => ?_, fun x e => ?_, E3.len, fun i x e => ?_, E3.apart⟩
  · by_cases hb : b = D
    · subst hb; rw [upd_same] at e; cases e; exact hD
    · rw [upd_ne hb] at e; exact E3.base b u e
  · rw [upd_ne (fun z : x = D => c (z ▸ e))]; exact E3.cupB x e
  · have f := fun a wa => (E3.slot i x e).facts (a := a) wa
    refine (E3.slot i x e).keep (fun _ _ => rfl) (fun a wa => ?_) (fun a wa => (f a wa).2.1) (fun a wa => (f a wa).2.2.1) (Same.refl _) (fun _ z => z)
    rw [upd_ne]
    · exact (f a wa).1
    · intro z
      subst z
      exact E.noOwn s nD i x e wa
theorem HF.hide (h : HF H F C) (fD : F D = none) (cD : C ≠ some D) : HF (hide D H) F C := by
  refine ⟨fun b u e => ?_, fun x e => ?_⟩
  · rw [hide_ne (ne_of_none e fD)]; exact h.sub b u e
  · obtain ⟨⟨p, q, z⟩, w⟩ := h.cup x e
    exact ⟨⟨p, q, by rw [hide_ne (fun y : x = D => cD (y ▸ e))]; exact z⟩, w⟩
theorem EnvOk.hide (E : EnvOk K (upd B D o) σ H F C ρ) (nB : B D = none) (fD : F D = none) (cD : C ≠ some D) : EnvOk K B σ (hide D H) F C ρ := by
  have hne : ∀ (i : Nat) (x : Sl), ρ[i]? = some x → ∀ a, Own H σ[i]? x a → a ≠ D := fun i x e a wa z => by
    have := ((E.slot i x e).facts wa).1
    rw [z, upd_same] at this
    cases this
  have hH : ∀ (i : Nat) (x : Sl), ρ[i]? = some x → ∀ a, Own H σ[i]? x a → WK.hide D H a = H a := fun i x e a wa => hide_ne (hne i x e a wa)
  refine ⟨E.hf.hide fD cD, fun b u e => ?_, fun x e => ?_, E.len, fun i x e => ?_, fun i j a s1 s2 n e1 e2 w1 w2 => ?_⟩
  · have hb := ne_of_none e nB
    rw [hide_ne hb]
    exact E.base b u (by rw [upd_ne hb]; exact e)
  · have z := E.cupB x e
    rw [upd_ne (fun y : x = D => cD (y ▸ e))] at z
    exact z
  · have f := fun a wa => (E.slot i x e).facts (a := a) wa
    refine (E.slot i x e).keep (hH i x e) (fun a wa => ?_) (fun a wa => (f a wa).2.1) (fun a wa => (f a wa).2.2.1) (Same.refl _) (fun _ z => z)
    have := (f a wa).1
    rw [upd_ne (hne i x e a wa)] at this
    exact this
  · exact E.apart i j a s1 s2 n e1 e2 (Own.back (E.slot i s1 e1) (hH i s1 e1) w1) (Own.back (E.slot j s2 e2) (hH j s2 e2) w2)
theorem hide_upd (h : H D = some o) : H = upd (WK.hide D H) D o := by
  funext b
  by_cases hb : b = D
  · subst hb; rw [upd_same, h]
  · rw [upd_ne hb, hide_ne hb]
end
section
variable {X : Cx} {own : List (Str × Nat)} {it it1 : FL} {g g1 : FG} {tf tf1 fe : FE} {vs1 : List Nat}
theorem lc2_go {is is1 : List Nat} (his : ∀ i, i ∈ is → i ∈ own.map (·.2)) (his1 : ∀ i, i ∈ is1 → i ∈ vs1) {σ : L2.St} {H : Hp} {Q : VK} (h : tG X.K RN (fLc2 it g tf it1 g1 tf1 fe (own.map (·.2)) vs1) σ H Q) :
    tLc2 (tI X.K PC it) (tTg X.K is g) (tT X.K tf) (tI X.K PL it1) (tTg X.K is1 g1) (tT X.K tf1) (tG X.K RF fe) (own.map (·.2)) vs1 σ H Q := by
  obtain ⟨B, F, C, ρ, E, q⟩ := h
  refine ⟨B, F, C, ρ, E, (M.all_bind.mp q).mono fun xs q J H1 F1 C1 s1 hz wk => ?_⟩
  obtain ⟨hz, q⟩ := all_if q
  intro D nD
  have nF : F1 D = none := s1.hf.sub.free nD
  have nB : B D = none := (E.step s1).base.free nD
  have nC : C1 ≠ some D := (s1.hf.notNew nD).2
  have nH : H D = none := by
    cases z : H D with
    | none => rfl
    | some o => exact absurd nD (s1.there E.hf (by rw [z]; simp))
  let ρ' := WK.wipe ρ (own.map (·.2))
  let turn : WK.D → M (List WK.D) := lc2Out g tf (lc2In it1 g1 tf1 fe vs1) ρ'
  let End : List WK.D → List (List WK.D) → Prop := fun ds yss => (ds ++ yss.flatten).length < sizeMax ∧ ∀ v H' F' C', Step H F C H' F' C' → RpN X.K H F' H' C' v (.lst (ds ++ yss.flatten)) → Q v H'
  let St : Nat → Hp → Prop := fun i H2 => ∃ (F2 : Hp) (C2 : Option Addr) (acc : List V) (ds : List WK.D), Step H1 F1 C1 H2 F2 C2 ∧ H2 D = some (.lst acc) ∧ F2 D = none ∧ C2 ≠ some D ∧ Rps X.K F2 C2 acc ds ∧ (mapM turn (xs.drop i)).All fun yss => End ds yss
  refine ⟨fun i m H2 => m = xs.length - i ∧ i ≤ xs.length ∧ St i H2, ⟨xs.length, by simp, Nat.zero_le _, F1, C1, [], [], s1.hf.laid nD, upd_same, nF, nC, .nil, ?_⟩, ?_⟩
  · rw [List.drop_zero]
    refine (M.all_bind.mp q).mono fun yss q => ?_
    obtain ⟨hl, q⟩ := all_if q
    exact ⟨hl, fun v H' F' C' s r => q v H' F' C' s r⟩
  · rintro i m H2 ⟨rfl, hi, F2, C2, acc, ds, s2, hD, fD, cD, rs, q⟩
    have s02 := s1.trans E.hf s2
    obtain ⟨w1, w2⟩ := wk i H2 F2 C2 ⟨s1.hf, s2⟩
    by_cases hlt : i < xs.length
    · obtain ⟨go, yl⟩ := w1 _ (List.getElem?_eq_getElem hlt)
      refine .inr ⟨go, St (i + 1), fun H' st => ⟨xs.length - (i + 1), by omega, rfl, hlt, st⟩, fun x H3 y => ?_⟩
      obtain ⟨F3, s3, r3⟩ := yl x H3 y
      have s03 := s02.trans E.hf s3
      have s13 := s2.trans s1.hf s3
      rw [List.drop_eq_getElem_cons hlt] at q
      have q : ((turn xs[i]).bind fun y => (mapM turn (xs.drop (i + 1))).bind fun ys => .ret (y :: ys)).All _ := q
      rw [M.all_bind] at q
      have hD3 : H3 D = some (.lst acc) := s3.same D _ cD hD
      have fD3 : F3 D = none := s3.new D (by rw [hD]; simp) fD
      have E3 : EnvOk X.K (upd B D (.lst acc)) (L2.wipe σ (own.map (·.2))) H3 F3 C2 ρ' := (E.pin nH s03 hD3 cD).wipe _
      refine ⟨upd B D (.lst acc), F3, C2, ρ', xs[i], E3, r3, ?_⟩
      cases eg : g xs[i] ρ' with
      | none =>
        have z : turn xs[i] = .bad := by show (match g xs[i] ρ' with | some _ => _ | none => _) = _; rw [eg]
        rw [z] at q
        exact q.elim
      | some ρ2 =>
        have z : turn xs[i] = (tf ρ2).bind fun b => onB b (lc2In it1 g1 tf1 fe vs1 ρ2) (.ret []) := by show (match g xs[i] ρ' with | some _ => _ | none => _) = _; rw [eg]
        rw [z] at q
        refine ⟨ρ2, rfl, fun σ2 E2 w2 => ⟨(w2 _ his).trans (wipe_twice _ _), ?_⟩⟩
        refine ⟨upd B D (.lst acc), F3, C2, ρ2, E2, (M.all_bind.mp q).mono fun b q => ?_⟩
        obtain ⟨k, e, q'⟩ := all_onB q
        clear q
        subst e
        refine ⟨k, rfl, fun H4 F4 C4 s4 => ?_⟩
        have s14 := s13.trans s1.hf s4
        have hD4 : H4 D = some (.lst acc) := s4.same D _ cD hD3
        have fD4 : F4 D = none := s4.new D (by rw [hD3]; simp) fD3
        have cD4 : C4 ≠ some D := fun z => by
          rcases s4.cupN D z with z | z
          · exact cD z
          · rw [hD3] at z; cases z
        have rs4 := rs.mono (s3.frz.trans s4.frz) s4.cup
        cases k with
        | false =>
          rw [if_neg Bool.false_ne_true] at q'
          refine iteF ?_
          refine ⟨F4, C4, acc, ds, s14, hD4, fD4, cD4, rs4, ?_⟩
          exact (M.all_bind.mp q').mono fun ys q => by
            have q : End ds ([] :: ys) := q
            simpa [End, Nat.add_assoc] using q
        | true =>
          rw [if_pos rfl] at q'
          refine iteT ?_
          refine ⟨upd B D (.lst acc), F4, C4, ρ2, E2.step s4, (M.all_bind.mp q').mono fun ys q J1 H5 F5 C5 s5 hz5 wk5 => ?_⟩
          have hD5 : H5 D = some (.lst acc) := s5.same D _ cD4 hD4
          have fD5 : F5 D = none := s5.new D (by rw [hD4]; simp) fD4
          have cD5 : C5 ≠ some D := fun z => by
            rcases s5.cupN D z with z | z
            · exact cD4 z
            · rw [hD4] at z; cases z
          have s15 := s14.trans s1.hf s5
          have rs5 := rs4.mono s5.frz s5.cup
          have E5 : EnvOk X.K B σ2 (WK.hide D H5) F5 C5 ρ2 := ((E2.step s4).step s5).hide nB fD5 cD5
          have h5 : HF (WK.hide D H5) F5 C5 := E5.hf
          have s55 : Step (WK.hide D H5) F5 C5 H5 F5 C5 := by
            have := h5.laid (o := .lst acc) (p := D) hide_same
            rw [← hide_upd hD5] at this
            exact this
          let ρ2' := WK.wipe ρ2 vs1
          let turn1 : WK.D → M (List WK.D) := fun y => match g1 y ρ2' with
            | some ρ3 => (tf1 ρ3).bind fun b => onB b ((fe ρ3).bind fun d => .ret [d]) (.ret [])
            | none => .bad
          let Rest : List WK.D → Prop := fun ds => (mapM turn (xs.drop (i + 1))).All fun yss => End ds yss
          let St1 : Nat → Hp → Prop := fun j H6 => ∃ (F6 : Hp) (C6 : Option Addr) (acc : List V) (ds : List WK.D), Step (WK.hide D H5) F5 C5 H6 F6 C6 ∧ Step H1 F1 C1 H6 F6 C6 ∧ H6 D = some (.lst acc) ∧ F6 D = none ∧ C6 ≠ some D ∧ Rps X.K F6 C6 acc ds ∧
            (mapM turn1 (ys.drop j)).All fun zss => Rest (ds ++ zss.flatten)
          refine ⟨fun j m H6 => m = ys.length - j ∧ j ≤ ys.length ∧ St1 j H6, ⟨ys.length, by simp, Nat.zero_le _, F5, C5, acc, ds, s55, s15, hD5, fD5, cD5, rs5, ?_⟩, ?_⟩
          · rw [List.drop_zero]
            refine (M.all_bind.mp q).mono fun zss q => (M.all_bind.mp q).mono fun yss q => ?_
            have q : End ds (zss.flatten :: yss) := q
            show End (ds ++ zss.flatten) yss
            simpa [End, Nat.add_assoc] using q
          · rintro j m H6 ⟨rfl, hj, F6, C6, acc6, ds6, s56, s16, hD6, fD6, cD6, rs6, q6⟩
            obtain ⟨v1, v2⟩ := wk5 j H6 F6 C6 ⟨s56.hf, s56.frz, s56.cup⟩
            by_cases hjl : j < ys.length
            · obtain ⟨go1, yl1⟩ := v1 _ (List.getElem?_eq_getElem hjl)
              refine .inr ⟨go1, St1 (j + 1), fun H' st => ⟨ys.length - (j + 1), by omega, rfl, hjl, st⟩, fun x1 H7 y1 => ?_⟩
              obtain ⟨F7, s7, r7⟩ := yl1 x1 H7 y1
              have s57 := s56.trans h5 s7
              have s17 := s16.trans s1.hf s7
              rw [List.drop_eq_getElem_cons hjl] at q6
              have q6 : ((turn1 ys[j]).bind fun y => (mapM turn1 (ys.drop (j + 1))).bind fun ys => .ret (y :: ys)).All _ := q6
              rw [M.all_bind] at q6
              have hD7 : H7 D = some (.lst acc6) := s7.same D _ cD6 hD6
              have fD7 : F7 D = none := s7.new D (by rw [hD6]; simp) fD6
              refine ⟨B, F7, C6, ρ2', ys[j], (E5.step s57).wipe _, r7, ?_⟩
              cases eg1 : g1 ys[j] ρ2' with
              | none =>
                have z : turn1 ys[j] = .bad := by show (match g1 ys[j] ρ2' with | some _ => _ | none => _) = _; rw [eg1]
                rw [z] at q6
                exact q6.elim
              | some ρ3 =>
                have z : turn1 ys[j] = (tf1 ρ3).bind fun b => onB b ((fe ρ3).bind fun d => .ret [d]) (.ret []) := by show (match g1 ys[j] ρ2' with | some _ => _ | none => _) = _; rw [eg1]
                rw [z] at q6
                refine ⟨ρ3, rfl, fun σ3 E3' w3 => ⟨(w3 _ his1).trans (wipe_twice _ _), ?_⟩⟩
                refine ⟨B, F7, C6, ρ3, E3', (M.all_bind.mp q6).mono fun b q => ?_⟩
                obtain ⟨k1, e, q8⟩ := all_onB q
                clear q
                subst e
                refine ⟨k1, rfl, fun H8 F8 C8 s8 => ?_⟩
                have s58 := s57.trans h5 s8
                have s18 := s17.trans s1.hf s8
                have hD8 : H8 D = some (.lst acc6) := s8.same D _ cD6 hD7
                have fD8 : F8 D = none := s8.new D (by rw [hD7]; simp) fD7
                have cD8 : C8 ≠ some D := fun z => by
                  rcases s8.cupN D z with z | z
                  · exact cD6 z
                  · rw [hD7] at z; cases z
                have rs8 := rs6.mono (s7.frz.trans s8.frz) s8.cup
                cases k1 with
                | false =>
                  rw [if_neg Bool.false_ne_true] at q8
                  refine iteF ⟨F8, C8, acc6, ds6, s58, s18, hD8, fD8, cD8, rs8, ?_⟩
                  exact (M.all_bind.mp q8).mono fun zs q => by
                    have q : Rest (ds6 ++ ([] :: zs).flatten) := q
                    simpa using q
                | true =>
                  rw [if_pos rfl] at q8
                  refine iteT ⟨B, F8, C8, ρ3, E3'.step s8, (M.all_bind.mp q8).mono fun d q v H9 F9 C9 s9 r9 => ?_⟩
                  have hD9 : H9 D = some (.lst acc6) := s9.same D _ cD8 hD8
                  have fD9 : F9 D = none := s9.new D (by rw [hD8]; simp) fD8
                  have cD9 : C9 ≠ some D := fun z => by
                    rcases s9.cupN D z with z | z
                    · exact cD8 z
                    · rw [hD8] at z; cases z
                  have q' : ((mapM turn1 (ys.drop (j + 1))).All fun zs => Rest (ds6 ++ ([d] :: zs).flatten)) := M.all_bind.mp q
                  have hl : acc6.length < sizeMax := by
                    rw [rs6.length]
                    have h1 : (mapM turn1 (ys.drop (j + 1))).All fun _ => ds6.length < sizeMax := q'.mono fun zs r => all_const (r.mono fun yss e => by
                      have := e.1
                      simp at this
                      omega)
                    exact all_const h1
                  refine ⟨acc6, hD9, Nat.lt_trans hl (by decide), F9, C9, acc6 ++ [v], ds6 ++ [d], (s58.trans h5 s9).put hD9 fD9 cD9 hide_same, (s18.trans s1.hf s9).put hD9 fD9 cD9 nD, upd_same, fD9, cD9, (rs8.mono s9.frz s9.cup).append (.one r9), ?_⟩
                  exact q'.mono fun zs r => by simpa using r
            · have e : j = ys.length := by omega
              rw [e, List.drop_length] at q6
              refine .inl ⟨v2 e, F6, C6, acc6, ds6, s16, hD6, fD6, cD6, rs6, ?_⟩
              have q6 : Rest (ds6 ++ ([] : List (List WK.D)).flatten) := q6
              simpa using q6
    · have e : i = xs.length := by omega
      refine .inl ⟨w2 e, ?_⟩
      rw [e, List.drop_length] at q
      have q : End ds [] := q
      exact q.2 (.ref D) H2 F2 C2 s02 ⟨D, acc, ds, rfl, by simp, nH, hD, fD, cD, rs⟩
variable {elt tg iter tg1 iter1 : Expr} {ifs ifs1 : List Expr} {scope : Scope} {pos : Pos} {is is1 : List Nat}
theorem c_lc2 (hc : X.calm = true) (hN : X.N.Nodup) (hi : CJ X tg iter it) (ok : BlkOk X.N X.env.scope scope own) (his : ∀ i, i ∈ is → i ∈ own.map (·.2)) (his1 : ∀ i, i ∈ is1 → i ∈ vs1) (hv : ∀ i, i ∈ vs1 → i ∈ own.map (·.2))
    (hg : ∀ (s : Shared) (H : Hp) (C : Addr) (cl : List (Str × Addr)) (fp : List Addr), CGt (X.blk s H scope (compEnvC scope cl C X.env) fp) is tg g)
    (ht : ∀ (s : Shared) (H : Hp) (C : Addr) (cl : List (Str × Addr)) (fp : List Addr), CTs (X.blk s H scope (compEnvC scope cl C X.env) fp) ifs tf)
    (hi1 : ∀ (s : Shared) (H : Hp) (C : Addr) (cl : List (Str × Addr)) (fp : List Addr), CI (X.blk s H scope (compEnvC scope cl C X.env) fp) tg1 iter1 it1)
    (hg1 : ∀ (s : Shared) (H : Hp) (C : Addr) (cl : List (Str × Addr)) (fp : List Addr), CGt (X.blk s H scope (compEnvC scope cl C X.env) fp) is1 tg1 g1)
    (ht1 : ∀ (s : Shared) (H : Hp) (C : Addr) (cl : List (Str × Addr)) (fp : List Addr), CTs (X.blk s H scope (compEnvC scope cl C X.env) fp) ifs1 tf1)
    (he : ∀ (s : Shared) (H : Hp) (C : Addr) (cl : List (Str × Addr)) (fp : List Addr), CF (X.blk s H scope (compEnvC scope cl C X.env) fp) elt fe)
    (hs : ∀ x, foldedSetIterable iter X.env x = pure x := by intro _; rfl) (hs1 : ∀ env x, foldedSetIterable iter1 env x = pure x := by intro _ _; rfl) :
    CN X (.ListComp elt [⟨tg, iter, ifs, 0⟩, ⟨tg1, iter1, ifs1, 0⟩] scope pos) (fLc2 it g tf it1 g1 tf1 fe (own.map (·.2)) vs1) :=
  pe_mono (pe_lc2 hc hN hi ok hv hg ht hi1 hg1 ht1 he hs hs1) fun _ _ _ h => lc2_go his his1 h
theorem lcs2 {i : Nat} {st : Stmt} (h : PS X st (tAsg (tLc2 (tI X.K PC it) (tTg X.K is g) (tT X.K tf) (tI X.K PL it1) (tTg X.K is1 g1) (tT X.K tf1) (tG X.K RF fe) (own.map (·.2)) vs1) (gName i))) (his : ∀ i, i ∈ is → i ∈ own.map (·.2)) (his1 : ∀ i, i ∈ is1 → i ∈ vs1) :
    PS X st (tAsg (tG X.K RN (fLc2 it g tf it1 g1 tf1 fe (own.map (·.2)) vs1)) (gName i)) := ps_mono h fun D σ H q => lc2_go his his1 q
end
end WK
end

section
set_option Elab.async false
set_option linter.all false
set_option maxRecDepth 100000
/-! What is read backwards; items stored; list(range); count, index. -/
namespace WK
open PySem L2 PySem.Spec
open PyProof.Rows (Subscript_ tail_any slicePart_none IsTup tupleItemsOf_ subscriptTail)
/-! ### x[::-1] -/
theorem sliceApplied_rev {prog : Program} {w : World} {A : Around} {E : Value → Shared → Prop} {s : Shared} {sl : Addr} {vs : Value} {n : Nat} {Q : Int × Int × Nat → Shared → Prop} (hs : s.heap.IsSliceOf sl .none .none vs) (ps : IsPart vs (some (-1)))
    (h : Q ((n : Int) - 1, -1, n) s) : wpAny (model prog w) A (Builtin.Slice.sliceApplied (.ref sl) (pure (n : Int))) Q E s := by
  obtain ⟨os, hos, hcs, hds⟩ := id hs
  unfold Builtin.Slice.sliceApplied Builtin.Slice.sliceFields
  refine wpAny_bind (wpAny_bind (wpAny_field hos hds (x := .none) rfl (wpAny_bind (wpAny_field hos hds (x := .none) rfl (wpAny_bind (wpAny_field hos hds (x := vs) rfl (wpAny_pure ?_)))))))
  refine wpAny_bind (HT.slicePart_ ps ?_)
  show wpAny _ _ (if ((-1 : Int) == 0) = true then _ else _) _ _ s
  rw [if_neg (by decide)]
  refine wpAny_bind (slicePart_none (wpAny_bind (slicePart_none (wpAny_bind (wpAny_pure ?_)))))
  show wpAny _ _ (match Builtin.Slice.sliceAdjust none none (-1) (n : Int) with | (lo, hi) => pure (lo, (-1 : Int), Builtin.Slice.slicePlaces lo hi (-1))) _ _ s
  have e1 : Builtin.Slice.sliceAdjust none none (-1) (n : Int) = ((n : Int) - 1, -1) := rfl
  rw [e1]
  have e2 : Builtin.Slice.slicePlaces ((n : Int) - 1) (-1) (-1) = n := by
    unfold Builtin.Slice.slicePlaces
    rw [if_neg (by decide)]
    split
    · rw [show (- (-1 : Int)) = 1 by decide, Int.ediv_one]
      omega
    · omega
  show wpAny _ _ (pure ((n : Int) - 1, (-1 : Int), Builtin.Slice.slicePlaces ((n : Int) - 1) (-1) (-1))) _ _ s
  rw [e2]
  exact wpAny_pure h
theorem pick_rev (xs : Array Value) : ((List.range xs.size).filterMap fun (m : Nat) => xs[((xs.size : Int) - 1 + (m : Int) * -1).toNat]?).toArray = xs.toList.reverse.toArray := by
  have e : ((List.range xs.size).filterMap fun (m : Nat) => xs[((xs.size : Int) - 1 + (m : Int) * -1).toNat]?) = (List.range xs.size).filterMap fun m => xs[xs.size - 1 - m]? := by
    congr 1
    funext m
    congr 1
    omega
  have e2 : ((List.range xs.size).filterMap fun m => xs[xs.size - 1 - m]?) = ((List.range xs.size).map fun k => xs.size - 1 - k).filterMap (xs[·]?) := by
    rw [List.filterMap_map]
    rfl
  rw [e, e2, PySem.W.krv_range, List.filterMap_reverse, PySem.W.krv_all]
theorem getItem_tuple_rev {prog : Program} {w : World} {A : Around} {E : Value → Shared → Prop} {s : Shared} {t sl : Addr} {items : Array Value} {vs : Value} {Q : Value → Shared → Prop} (ht : IsTup s.heap t items) (hs : s.heap.IsSliceOf sl .none .none vs) (ps : IsPart vs (some (-1)))
    (h : Q (.ref s.heap.objs.size) { s with heap := s.heap.push { cls := .type "tuple", data := .seq items.toList.reverse.toArray } })
    (hsz : items.size ≤ sizeLine) : wpAny (model prog w) A (getItem (.ref t) (.ref sl)) Q E s := by
  have hrev : sizeOk (.seq items.toList.reverse.toArray) := by
    show items.toList.reverse.toArray.size ≤ sizeLine
    rw [List.size_toArray, List.length_reverse, Array.length_toList]
    exact hsz
  obtain ⟨os, hos, hcs, hds⟩ := id hs
  have hTs : s.TypeIs (.ref sl) "slice" := ⟨os, hos, hcs⟩
  unfold getItem
  try with_reducible refine wpAny_holding ?_
  first | refine wpAny_bind (wpAny_pure ?_) | skip
  refine wpAny_bind (wpAny_sequenceKey ht.typeIs (by decide) ?_)
  refine wpAny_bind (wpAny_callSpecial?_slot (name := Str.ofString "__getitem__") ht.typeIs PyProof.Rows.slot_tuple_getitem
    (wpAny_call_entry PyProof.Rows.slot_tuple_getitem ht.typeIs PyProof.Rows.entry_tuple_getitem ?_ (PyProof.Rows.args_tuple_getitem _ _)))
  show wpAny _ _ (Builtin.Tuple.tupleItemsOf (.ref t) >>= _) _ _ s
  refine wpAny_bind (tupleItemsOf_ ht ?_)
  refine wpAny_bind (wpAny_typeOf hTs ?_)
  rw [if_pos (by decide)]
  refine wpAny_bind (sliceApplied_rev hs ps ?_)
  have hno : ¬ ((((items.size : Int) - 1) == 0 && (-1 : Int) == 1 && items.size == items.size) = true) := by
    intro q
    rw [Bool.and_eq_true, Bool.and_eq_true] at q
    exact absurd q.1.2 (by decide)
  show wpAny _ _ (if (((items.size : Int) - 1) == 0 && (-1 : Int) == 1 && items.size == items.size) = true then _ else _) _ _ s
  rw [if_neg hno, pick_rev]
  first
    | exact wpAny_bind (m := Builtin.Tuple.tupleExact _) (wpAny_newObj_type (wpAny_pure ⟨_, rfl, wpAny_pure h⟩) hrev)
    | exact wpAny_bind (m := Builtin.Tuple.tupleExact _) (wpAny_newObj_type (wpAny_bind (wpAny_pure (wpAny_pure ⟨_, rfl, wpAny_pure h⟩))) hrev)
    | exact wpAny_bind (wpAny_bind (m := Builtin.Tuple.tupleExact _) (wpAny_newObj_type (wpAny_pure (wpAny_pure ⟨_, rfl, wpAny_pure h⟩)) hrev))
    | exact wpAny_bind (wpAny_bind (m := Builtin.Tuple.tupleExact _) (wpAny_newObj_type (wpAny_pure ⟨_, rfl, wpAny_pure h⟩) hrev))
def tRevA (K : PySem.W.Frag) (te : TE) : TE := fun σ H Q => te σ H fun x H1 => (∃ a xs, x = .ref a ∧ SqL K H1 a xs ∧ ∀ p, H1 p = none → Q (.ref p) (upd H1 p (.lst xs.reverse))) ∨ (∃ a xs, x = .ref a ∧ SqT K H1 a xs ∧ ∀ p, H1 p = none → Q (.ref p) (upd H1 p (.tup xs.reverse))) ∨
  ∃ z : List Nat, x = .str (SS z) ∧ z.length ≤ sizeLine ∧ Q (.str (SS z.reverse)) H1
theorem pe_revA {X : Cx} {e : Expr} {te : TE} {k : Nat} {p1 p2 p3 pos : Pos} (he : PE X e te) : PE X (.Subscript e (.Slice none none (some (.UnaryOp .USub (.Constant (.int 1) k p1) p2)) p3) pos) (tRevA X.K te) := by
  refine ⟨fun pins s σ H Q I h => ?_⟩
  refine Subscript_ (thn (he.run pins s σ H _ I h) fun v s1 ⟨x, H1, I1, r1, q1⟩ => ?_)
  have hst : PO X (some (.UnaryOp .USub (.Constant (.int 1) k p1) p2)) (tPart (tUn (rU fun i => .int (-i)) (tC (.int 1)))) := po_some (pe_un un_neg pe_int)
  refine wpAny_Slice (thn (po_none.run pins s1 σ H1 (fun o H2 => o = none ∧ H2 = H1) I1 ⟨rfl, rfl⟩) fun vl s2 ⟨l, H2, I2, pl, el, e2⟩ => ?_)
  subst el e2
  refine thn (po_none.run pins s2 σ H2 (fun o H3 => o = none ∧ H3 = H2) I2 ⟨rfl, rfl⟩) fun vu s3 ⟨u, H3, I3, pu, eu, e3⟩ => ?_
  subst eu e3
  refine thn (hst.run pins s3 σ H3 (fun o H4 => o = some (-1) ∧ H4 = H3) I3 ⟨1, rfl, -1, rfl, rfl, rfl⟩) fun vs s4 ⟨o, H4, I4, ps, eo, e4⟩ => ?_
  subst eo e4
  have I5 : Inv X pins σ H4 { s4 with heap := s4.heap.push { cls := .type "slice", data := .fields #[vl, vu, vs] } } := I4.kept (t' := s4.toks) fun b ob q => Heap.get?_push_of_some _ q
  rcases q1 with ⟨a, xs, ex, hx, q⟩ | ⟨a, xs, ex, hx, q⟩ | ⟨z, ex, hz, q⟩
  · subst ex
    cases r1
    obtain ⟨its, r, ht, hz⟩ := I5.list hx
    have hlen := r.length
    show wpAny (model X.prog X.w) X.A (subscriptTail e (.Slice none none (some (.UnaryOp .USub (.Constant (.int 1) k p1) p2)) p3) (.ref a) (.ref s4.heap.objs.size)) (EP X pins σ Q) X.xe { s4 with heap := s4.heap.push { cls := .type "slice", data := .fields #[vl, vu, vs] } }
    refine tail_any (ops := [.ref a, .ref s4.heap.objs.size]) ht.isList.typeIs (PySem.slot_list_getitem.lookup) ?_ (by with_unfolding_all rfl)
    refine wpAny_getItem_list_slice ht.isList (Heap.IsSliceOf.new _ vl vu vs) pl pu ps (by decide) ?_ (by rw [List.size_toArray]; omega)
    rw [PySem.W.krv_pick]
    refine ⟨.ref _, _, I5.laid (t' := s4.toks) (o := .lst xs.reverse) (fun b ob q => Heap.get?_push_of_some _ q) (Nat.le_refl _) ?_, rfl, q _ (I5.hok.fresh (Nat.le_refl _))⟩
    exact ⟨by rw [List.length_reverse]; exact hz, _, 0, r.reverse, Heap.get?_push_size _ rfl⟩
  · subst ex
    cases r1
    obtain ⟨its, r, ht, hz⟩ := I5.tuple hx
    have hlen := r.length
    have el : vl = .none := by cases pl; rfl
    have eu : vu = .none := by cases pu; rfl
    subst el eu
    show wpAny (model X.prog X.w) X.A (subscriptTail e (.Slice none none (some (.UnaryOp .USub (.Constant (.int 1) k p1) p2)) p3) (.ref a) (.ref s4.heap.objs.size)) (EP X pins σ Q) X.xe { s4 with heap := s4.heap.push { cls := .type "slice", data := .fields #[.none, .none, vs] } }
    refine tail_any (ops := [.ref a, .ref s4.heap.objs.size]) ht.typeIs (PyProof.Rows.slot_tuple_getitem.lookup) ?_ (by with_unfolding_all rfl)
    refine getItem_tuple_rev ht (Heap.IsSliceOf.new _ .none .none vs) ps ?_ (by rw [List.size_toArray]; omega)
    refine ⟨.ref _, _, I5.laid (t' := s4.toks) (o := .tup xs.reverse) (fun b ob q => Heap.get?_push_of_some _ q) (Nat.le_refl _) ?_, rfl, q _ (I5.hok.fresh (Nat.le_refl _))⟩
    exact ⟨by rw [List.length_reverse]; exact hz, _, r.reverse, PyProof.Rows.IsTup.new _ _⟩
  · subst ex
    obtain ⟨t, rfl⟩ := r1
    obtain ⟨l, rfl, e1⟩ := IsPart.raw pl
    obtain ⟨u, rfl, e2⟩ := IsPart.raw pu
    obtain ⟨st, rfl, e3⟩ := IsPart.raw ps
    show wpAny (model X.prog X.w) X.A (subscriptTail e (.Slice none none (some (.UnaryOp .USub (.Constant (.int 1) k p1) p2)) p3) (.str (SS z) t) (.ref s4.heap.objs.size)) (EP X pins σ Q) X.xe { s4 with heap := s4.heap.push { cls := .type "slice", data := .fields #[partValue l, partValue u, partValue st] } }
    refine tail_any (ops := [.str (SS z) t, .ref s4.heap.objs.size]) (typeIs_str _ _ _) F.slot_str_getitem.lookup ?_ (by with_unfolding_all rfl)
    refine wpAny_getItem_str_slice (l := l) (u := u) (st := st) ⟨_, Heap.get?_push_size _ rfl, rfl, rfl⟩ (by rw [e3]; decide) ?_
    have em : sliceMade (SS z) t l u st = .str (SS z.reverse) := by
      unfold sliceMade slicePicked
      rw [e3, e1, e2]
      show (if ((-1 : Int) == 1 && _) = true then _ else _) = _
      rw [if_neg (by simp)]
      congr 1
      show Str.mk _ = Str.mk _
      congr 1
      show ((Builtin.Str.strSliceIndices none none (-1) (SS z).length).filterMap (z.toArray[·]?)).toArray = z.reverse.toArray
      rw [PyProof.Rows.picked_rev, PySem.W.krv_range, List.filterMap_reverse]
      have := PySem.W.krv_all z.toArray
      rw [List.size_toArray] at this
      rw [ss_length, this]
    rw [em]
    exact ⟨by rw [ss_length, List.length_reverse]; exact hz, .str _, H4, I5.tok _, ⟨_, rfl⟩, q⟩
section
variable {X : Cx} {e a b : Expr} {f f1 f2 : FE} {p1 p2 p3 pos : Pos} {k : Nat}
theorem c_rev (he : CB X e f) : CF X (.Subscript e (.Slice none none (some (.UnaryOp .USub (.Constant (.int 1) k p1) p2)) p3) pos) (fUn gRev f) :=
  pe_mono (pe_revA he) fun σ H Q ⟨B, F, C, ρ, E, q⟩ => by
    refine ⟨B, F, C, ρ, E, (M.all_bind.mp q).mono fun d q x H1 F1 C1 s1 r1 => ?_⟩
    have q' : (gRev d).All fun d => ∀ v H' F' C', Step H1 F1 C1 H' F' C' → Rp X.K F' C' v d → Q v H' := q.mono fun d q v H' F' C' s r => q v H' F' C' (s1.trans E.hf s) r
    cases d with
    | lst xs =>
      obtain ⟨p, vs, rfl, hp, r⟩ := r1.list s1.hf
      exact .inl ⟨p, vs, rfl, .of hp, outL s1.hf q' r.reverse⟩
    | tup xs =>
      obtain ⟨p, vs, rfl, hpF, hp, r⟩ := r1.tup s1.hf
      exact .inr (.inl ⟨p, vs, rfl, hp, outT s1.hf q' r.reverse⟩)
    | str s =>
      cases r1.str
      obtain ⟨hz, q'⟩ := all_fit q'
      exact .inr (.inr ⟨s, rfl, Nat.le_of_lt (fits hz), out s1.hf q' (.str _)⟩)
    | _ => exact q'.elim
end
end WK
end

section
set_option Elab.async false
set_option linter.all false
set_option maxRecDepth 100000
/-! Order on data: <, sorted, min, max. -/
namespace WK
open PySem L2 PySem.W
mutual
theorem alk_toPy : ∀ (a b : D), dAlk a b = true → alike (toPy a) (toPy b) = true
  | .bl _, b, h => by cases b <;> first | rfl | (simp [dAlk] at h)
  | .int _, b, h => by cases b <;> first | rfl | (simp [dAlk] at h)
  | .str _, b, h => by cases b <;> first | rfl | (simp [dAlk] at h)
  | .tup xs, b, h => by
    cases b with
    | tup ys =>
      rw [toPy, toPy, alike]
      exact alks_toPy xs ys (by simpa [dAlk] using h)
    | _ => simp [dAlk] at h
  | .lst xs, b, h => by
    cases b with
    | lst ys =>
      rw [toPy, toPy, alike]
      exact alks_toPy xs ys (by simpa [dAlk] using h)
    | _ => simp [dAlk] at h
  | .non, b, h => by simp [dAlk] at h
  | .cup, b, h => by simp [dAlk] at h
  | .scr, b, h => by simp [dAlk] at h
  | .dct _ _, b, h => by simp [dAlk] at h
theorem alks_toPy : ∀ (xs ys : List D), dAlks xs ys = true → alikeAll (toPys xs) (toPys ys) = true
  | [], ys, _ => by rw [toPys, alikeAll]
  | x :: xs, [], _ => by rw [toPys, toPys, alikeAll]
  | x :: xs, y :: ys, h => by
    rw [dAlks, Bool.and_eq_true] at h
    rw [toPys, toPys, alikeAll, Bool.and_eq_true]
    exact ⟨alk_toPy x y h.1, alks_toPy xs ys h.2⟩
end
theorem alk_some {a b : D} (h : dAlk a b = true) : toPy a ≠ .none := by
  cases a <;> first | (simp [dAlk] at h; done) | (intro e; simp [toPy] at e)
theorem dataLt_bl (x y : Bool) : dataLt (.bool x) (.bool y) = (!x && y) := by
  rw [dataLt_bool]
  cases x <;> cases y <;> decide
mutual
theorem lt_toPy : ∀ (a b : D) (n m : Nat), D.ok n a = true → D.ok m b = true → dAlk a b = true → dataLt (toPy a) (toPy b) = dLt a b
  | .bl x, b, n, m, h, k, e => by
    cases b with
    | bl y => exact dataLt_bl x y
    | _ => simp [dAlk] at e
  | .int x, b, n, m, h, k, e => by
    cases b with
    | int y => exact dataLt_int x y
    | _ => simp [dAlk] at e
  | .str x, b, n, m, h, k, e => by
    cases b with
    | str y => exact dataLt_str (SS x) (SS y)
    | _ => simp [dAlk] at e
  | .tup xs, b, n, m, h, k, e => by
    cases b with
    | tup ys =>
      cases n with
      | zero => simp [D.ok] at h
      | succ n =>
        cases m with
        | zero => simp [D.ok] at k
        | succ m =>
          rw [toPy, toPy, dataLt_tuple, dLt]
          exact lts_toPy xs ys n m (by simpa [D.ok] using h) (by simpa [D.ok] using k) (by simpa [dAlk] using e)
    | _ => simp [dAlk] at e
  | .lst xs, b, n, m, h, k, e => by
    cases b with
    | lst ys =>
      cases n with
      | zero => simp [D.ok] at h
      | succ n =>
        cases m with
        | zero => simp [D.ok] at k
        | succ m =>
          rw [toPy, toPy, dataLt_list, dLt]
          exact lts_toPy xs ys n m (by simpa [D.ok] using h) (by simpa [D.ok] using k) (by simpa [dAlk] using e)
    | _ => simp [dAlk] at e
  | .non, b, n, m, h, k, e => by simp [dAlk] at e
  | .cup, b, n, m, h, k, e => by simp [dAlk] at e
  | .scr, b, n, m, h, k, e => by simp [dAlk] at e
  | .dct _ _, b, n, m, h, k, e => by simp [dAlk] at e
theorem lts_toPy : ∀ (xs ys : List D) (n m : Nat), xs.all (D.ok n) = true → ys.all (D.ok m) = true → dAlks xs ys = true → rowLt (toPys xs) (toPys ys) = dLts xs ys
  | [], [], _, _, _, _, _ => by unfold rowLt; exact PyProof.Rows.lex_irrefl _
  | [], y :: ys, _, _, _, _, _ => rfl
  | x :: xs, [], _, _, _, _, _ => rfl
  | x :: xs, y :: ys, n, m, h, k, e => by
    rw [dAlks, Bool.and_eq_true] at e
    rw [toPys, toPys]
    unfold rowLt
    rw [dataLt_cons (alk_toPy x y e.1), dLts, eqv_toPy x y n m (ok_cons h).1 (ok_cons k).1, lt_toPy x y n m (ok_cons h).1 (ok_cons k).1 e.1]
    have q := lts_toPy xs ys n m (ok_cons h).2 (ok_cons k).2 e.2
    unfold rowLt at q
    rw [q]
end
theorem dAlk_comm_aux : ∀ (a b : D), dAlk a b = true → dAlk b a = true := by
  intro a
  induction a using D.rec (motive_2 := fun xs => ∀ ys, dAlks xs ys = true → dAlks ys xs = true) with
  | tup xs ih => intro b h; cases b <;> simp_all [dAlk]
  | lst xs ih => intro b h; cases b <;> simp_all [dAlk]
  | nil => rename_i ys _; cases ys <;> simp [dAlks]
  | cons x xs i1 i2 => rename_i ys h; cases ys with
    | nil => simp [dAlks]
    | cons y ys => simp_all [dAlks]
  | _ => intro b h; cases b <;> simp_all [dAlk]
section
variable {X : Cx} {K : PySem.W.Frag} {H F : Hp} {C : Option Addr}
theorem cmp_of {a b : D} (h : cmpOk a b = true) : D.ok 20 a = true ∧ D.ok 20 b = true ∧ dAlk a b = true := by
  unfold cmpOk at h
  rw [Bool.and_eq_true, Bool.and_eq_true] at h
  exact ⟨h.1.1, h.1.2, h.2⟩
theorem og_ltX {k : Nat} (hr : Room k X.A) : OG X (compareOp .Lt) gLtX := by
  intro pins s σ H x y v u Q I rx ry h
  obtain ⟨F, C, a, b, hf, ra, rb, h⟩ := h
  obtain ⟨hc, h⟩ := all_if h
  obtain ⟨ca, cb, al⟩ := cmp_of hc
  obtain ⟨as, r1⟩ := ra.reads I hf ca rx
  obtain ⟨bs, r2⟩ := rb.reads I hf cb ry
  obtain ⟨p1, d1⟩ := plain_ok a _ ca
  refine lt_data r1 r2 (alk_toPy a b al) (alk_some al) (units_ok (n := 20) (m := 20) hr d1 (by omega)) ?_
  rw [lt_toPy a b _ _ ca cb al]
  exact ⟨.bl _, H, I, rfl, out hf h (.bl _)⟩
theorem og_leX {k : Nat} (hr : Room k X.A) : OG X (compareOp .LtE) gLeX := by
  intro pins s σ H x y v u Q I rx ry h
  obtain ⟨F, C, a, b, hf, ra, rb, h⟩ := h
  obtain ⟨hc, h⟩ := all_if h
  obtain ⟨ca, cb, al⟩ := cmp_of hc
  obtain ⟨as, r1⟩ := ra.reads I hf ca rx
  obtain ⟨bs, r2⟩ := rb.reads I hf cb ry
  obtain ⟨p1, d1⟩ := plain_ok a _ ca
  refine le_data r1 r2 (alk_toPy a b al) (alk_some al) (units_ok (n := 20) (m := 20) hr d1 (by omega)) ?_
  rw [lt_toPy b a _ _ cb ca (dAlk_comm_aux a b al)]
  exact ⟨.bl _, H, I, rfl, out hf h (.bl _)⟩
theorem og_gtX {k : Nat} (hr : Room k X.A) : OG X (compareOp .Gt) gGtX := by
  intro pins s σ H x y v u Q I rx ry h
  obtain ⟨F, C, a, b, hf, ra, rb, h⟩ := h
  obtain ⟨hc, h⟩ := all_if h
  obtain ⟨ca, cb, al⟩ := cmp_of hc
  obtain ⟨as, r1⟩ := ra.reads I hf ca rx
  obtain ⟨bs, r2⟩ := rb.reads I hf cb ry
  obtain ⟨p1, d1⟩ := plain_ok a _ ca
  refine gt_data r1 r2 (alk_toPy a b al) (alk_some al) (units_ok (n := 20) (m := 20) hr d1 (by omega)) ?_
  rw [lt_toPy b a _ _ cb ca (dAlk_comm_aux a b al)]
  exact ⟨.bl _, H, I, rfl, out hf h (.bl _)⟩
theorem og_geX {k : Nat} (hr : Room k X.A) : OG X (compareOp .GtE) gGeX := by
  intro pins s σ H x y v u Q I rx ry h
  obtain ⟨F, C, a, b, hf, ra, rb, h⟩ := h
  obtain ⟨hc, h⟩ := all_if h
  obtain ⟨ca, cb, al⟩ := cmp_of hc
  obtain ⟨as, r1⟩ := ra.reads I hf ca rx
  obtain ⟨bs, r2⟩ := rb.reads I hf cb ry
  obtain ⟨p1, d1⟩ := plain_ok a _ ca
  refine ge_data r1 r2 (alk_toPy a b al) (alk_some al) (units_ok (n := 20) (m := 20) hr d1 (by omega)) ?_
  rw [lt_toPy a b _ _ ca cb al]
  exact ⟨.bl _, H, I, rfl, out hf h (.bl _)⟩
end
/-! ### sorted -/
theorem toPys_map : ∀ xs : List D, toPys xs = xs.map toPy
  | [] => rfl
  | x :: xs => by rw [toPys, toPys_map xs]; rfl
theorem alk_mem {xs : List D} (h : allAlk xs = true) {x : D} (hx : x ∈ xs) : D.ok 20 x = true ∧ ∀ y, y ∈ xs → dAlk x y = true := by
  unfold allAlk at h
  rw [Bool.and_eq_true, List.all_eq_true, List.all_eq_true] at h
  exact ⟨h.1 x hx, fun y hy => List.all_eq_true.mp (h.2 x hx) y hy⟩
theorem each_of {K : PySem.W.Frag} {F : Hp} {C : Option Addr} : ∀ {ds : List D} {vs : List V} {us : List Value}, Rps K F C vs ds → Vals vs us → EachIs (fun u d => ∃ v, RelV v u ∧ Rp K F C v d) us ds
  | [], _, _, .nil, .nil => .nil
  | _ :: _, _, _, .cons r rs, .cons q qs => .cons ⟨_, q, r⟩ (each_of rs qs)
theorem each_back {K : PySem.W.Frag} {F : Hp} {C : Option Addr} : ∀ {ds : List D} {us : List Value}, EachIs (fun u d => ∃ v, RelV v u ∧ Rp K F C v d) us ds → ∃ vs, Rps K F C vs ds ∧ Vals vs us
  | _, _, .nil => ⟨[], .nil, .nil⟩
  | _, _, .cons ⟨v, q, r⟩ t => by
    obtain ⟨vs, rs, qs⟩ := each_back t
    exact ⟨v :: vs, .cons r rs, .cons q qs⟩
theorem each_reads {X : Cx} {pins : List (Addr × Obj)} {σ : L2.St} {H F : Hp} {C : Option Addr} {s : Shared} (I : Inv X pins σ H s) (hF : Same F H) : ∀ {ds : List D} {us : List Value}, (∀ d, d ∈ ds → D.ok 20 d = true) → EachIs (fun u d => ∃ v, RelV v u ∧ Rp X.K F C v d) us ds → EachIs (fun u d => ∃ as, Reads s.heap u (toPy d) as) us ds
  | _, _, _, .nil => .nil
  | _, _, h, .cons ⟨v, q, r⟩ t => .cons (r.reads I hF _ _ _ 20 (h _ List.mem_cons_self) q) (each_reads I hF (fun d hd => h d (List.mem_cons_of_mem _ hd)) t)
theorem sorted_dLe {xs : List D} (h : allAlk xs = true) : xs.mergeSort (dataLe false toPy) = xs.mergeSort dLe := by
  have := List.map_mergeSort (r := dataLe false toPy) (s := dLe) (f := id) (l := xs) fun a ha b hb => by
    show (!dataLt (toPy b) (toPy a)) = !dLt b a
    obtain ⟨oa, _⟩ := alk_mem h ha
    obtain ⟨ob, al⟩ := alk_mem h hb
    rw [lt_toPy b a _ _ ob oa (al a ha)]
  simpa using this
theorem le1 (a b : Nat) : decide ((SS [a]).cps.toList ≤ (SS [b]).cps.toList) = decide (a ≤ b) := by
  have : (([a] : List Nat) ≤ [b]) ↔ a ≤ b := by
    rw [← List.not_lt, ← Nat.not_lt]
    refine not_congr ⟨fun h => ?_, fun h => .rel h⟩
    cases h with
    | rel h => exact h
    | cons h => cases h
  show decide (([a] : List Nat) ≤ [b]) = _
  simp only [this]
theorem le1' (a b : Nat) : decide (([a] : List Nat) ≤ [b]) = decide (a ≤ b) := le1 a b
theorem sorted_text {prog : Program} {w : World} {A : Around} {E : Value → Shared → Prop} {s : Shared} {z : List Nat} {t : Tok} {Q : Value → Shared → Prop} (hh : A.in1.handled = none) (hu : A.units + 3 < cLine) (hz : z.length ≤ sizeLine)
    (h : ∀ (h1 h' : Heap) (tk : Nat) (a : Addr) (out : List Value) (n : Nat), (∀ b o, s.heap.get? b = some o → h1.get? b = some o) → (∀ b o, h1.get? b = some o → h'.get? b = some o) → h1.objs.size ≤ a → h'.get? a = some (PyProof.Rows.seqObj "list" out.toArray n) → EachIs (fun v c => ∃ t, v = Value.str (SS [c]) t) out (sortN z) → out.length = z.length → Q (.ref a) { s with heap := h', toks := tk }) :
    wpAny (model prog w) A (call (.builtin "sorted") [.str (SS z) t]) Q E s := by
  refine PySem.Calls.call_function_entry PyProof.Rows.kind_sorted PyProof.Rows.plain_sorted PyProof.Rows.entry_sorted (PyProof.Rows.args_sorted1 _) ?_
  unfold Builtin.«sorted»
  refine wpAny_bind (m := checkCount "sorted" 1 1 _) (wpAny_pure ?_)
  refine wpAny_bind (wpAny_collect_str hh (SS z) t (fun s' acc kp g d o it => ?_) hz)
  have hlen : acc.toList.length = z.length := by rw [Array.length_toList]; exact it.1
  refine wpAny_bind (wpAny_newList ?_ (by rw [hlen]; exact hz))
  have hS : (s'.heap.push (PyProof.Rows.seqObj "list" acc.toList.toArray 0)).get? s'.heap.objs.size = some (PyProof.Rows.seqObj "list" acc.toList.toArray 0) := Heap.get?_push_size _ rfl
  have ee : EachIs (fun v c => ∃ t, v = Value.str (SS [c]) t) acc.toList z := by
    have : ∀ (us : List Value) (cs : List Nat), us.length = cs.length → (∀ (j : Nat) (v : Value), us[j]? = some v → ∃ (c : Nat) (u : Tok), cs[j]? = some c ∧ v = Value.str (SS [c]) u) → EachIs (fun v c => ∃ t, v = Value.str (SS [c]) t) us cs := by
      intro us
      induction us with
      | nil => intro cs e _; cases cs with
        | nil => exact .nil
        | cons => cases e
      | cons u us ih =>
        intro cs e k
        cases cs with
        | nil => cases e
        | cons c cs =>
          obtain ⟨c', t', e1, e2⟩ := k 0 u rfl
          cases e1
          exact .cons ⟨t', e2⟩ (ih cs (by simpa using e) fun j v hj => k (j + 1) v (by simpa using hj))
    refine this _ _ hlen fun j v hj => ?_
    rw [Array.getElem?_toList] at hj
    obtain ⟨c, u, e1, e2⟩ := it.2 j v hj
    exact ⟨c, u, by simpa [SS] using e1, e2⟩
  refine wpAny_bind (wpAny_holding (list_sort_data (A := A.in1) (R := fun v c => ∃ t, v = Value.str (SS [c]) t) (enc := fun c : Nat => PyData.str (SS [c])) (bs := z) (vs := acc.toList) (n := 0) hS ee (ee.mono fun v c ⟨t, e⟩ => ⟨[], by subst e; exact Reads.str _ _, by simp⟩) (AllAlike.of fun _ _ => rfl) (Sortable.others fun _ => ⟨(fun e => nomatch e), fun _ e => nomatch e⟩) hz (fun b _ => by show A.units + 1 + 1 + 0 < _; omega) fun out ho hout => ?_))
  obtain ⟨h1, g1, d1, tk1, o1⟩ := s'
  simp only at g d o
  subst g d o
  obtain ⟨n, hat⟩ := PyProof.Rows.sortedHeap_at (out := out.toArray) hS
  rw [dataLe_str] at hout
  simp only [le1, le1'] at hout
  refine wpAny_pure ⟨_, rfl, h h1 _ _ _ out n kp (fun b ob e => ?_) (Nat.le_refl _) hat hout ho⟩
  have l1 := Heap.lt_size e
  have e2 : (h1.push (PyProof.Rows.seqObj "list" acc.toList.toArray 0)).get? b = some ob := Heap.get?_push_of_some _ e
  rw [← e2]
  exact PyProof.Rows.sortedHeap_old (Nat.ne_of_lt l1) (Heap.lt_size e2)
theorem bi_sortedX {X : Cx} {k : Nat} (hr : Room k X.A) (hk : X.calm = true) : CallR X (.builtin "sorted") (rC1 X.K RN gSortedX) := by
  intro pins s σ H vs us Q I r h
  obtain ⟨x, e, F, C, a, hf, ra, q⟩ := h
  subst e
  cases a with
  | lst xs =>
    obtain ⟨hc, q⟩ := all_if q
    unfold sortOk at hc
    rw [Bool.and_eq_true, Bool.and_eq_true, Bool.or_eq_true, List.all_eq_true, List.all_eq_true, decide_eq_true_eq] at hc
    obtain ⟨⟨hal, hso⟩, hz⟩ := hc
    obtain ⟨p, vs, rfl, hp, rs⟩ := ra.list hf
    obtain ⟨its, rv, hl, _⟩ := I.list (.of hp)
    rw [Vals.ref1 r]
    have ea := each_of rs rv
    have er := each_reads I hf.sub (fun d hd => (alk_mem hal hd).1) ea
    have h1 : AllAlike (xs.map toPy) := fun d hd d' hd' => by
      obtain ⟨b, hb, rfl⟩ := List.mem_map.mp hd
      obtain ⟨b', hb', rfl⟩ := List.mem_map.mp hd'
      exact alk_toPy _ _ ((alk_mem hal hb).2 b' hb')
    have h2 : Sortable (xs.map toPy) := by
      rcases hso with hso | hso
      · refine .inl fun d hd => ?_
        obtain ⟨b, hb, rfl⟩ := List.mem_map.mp hd
        have := hso b hb
        cases b with
        | tup l => cases l with
          | nil => exact nomatch this
          | cons y ys => exact ⟨toPy y, toPys ys, rfl⟩
        | _ => exact nomatch this
      · refine .inr fun d hd => ?_
        obtain ⟨b, hb, rfl⟩ := List.mem_map.mp hd
        have := hso b hb
        have al := (alk_mem hal hb).2 b hb
        refine ⟨alk_some al, fun ys e => ?_⟩
        cases b <;> first | (simp [toPy] at e; done) | exact nomatch this
    refine sorted_data (bs := xs) (enc := toPy) hl.isList ea er h1 h2 (by rw [sizeLine_eq]; unfold sizeMax at hz; omega) (fun b hb => ?_) fun out ho hout => ?_
    · have hd := (plain_ok b _ (alk_mem hal hb).1).2
      have hu := hr.units
      omega
    · rw [sorted_dLe hal] at hout
      obtain ⟨ws, rw1, rw2⟩ := each_back hout
      obtain ⟨ep, he'⟩ := PyProof.Rows.sortedAll_at s.heap its out.toArray
      have hlen : ws.length ≤ sizeLine := by
        rw [rw2.length, ho, sizeLine_eq]; unfold sizeMax at hz; omega
      exact ⟨.ref _, upd H (s.heap.objs.size + 1) (.lst ws), I.laid (t' := s.toks) (fun _ _ => PyProof.Rows.sortedAll_old) (Nat.le_succ _) ⟨hlen, out, ep, rw2, he'⟩, rfl, outN hf q rw1 _ (I.hok.fresh (Nat.le_succ _))⟩
  | str z =>
    obtain ⟨hz, q⟩ := all_if q
    cases ra.str
    obtain ⟨u, rfl, t, rfl⟩ := vals1 r
    have hu := hr.units
    refine sorted_text (by show X.A.handled = none; exact I.ok.hd hk) (by omega) (by rw [sizeLine_eq]; unfold sizeMax at hz; omega) fun h1 h' tk a out n kp kp2 hp ha he hl => ?_
    obtain ⟨ws, w1, w2⟩ : ∃ ws, Rps X.K F C ws ((sortN z).map fun c => D.str [c]) ∧ Vals ws out := by
      revert he
      generalize sortN z = cs
      intro he
      clear q hl ha
      induction he with
      | nil => exact ⟨[], .nil, .nil⟩
      | cons hx _ ih =>
        obtain ⟨t, rfl⟩ := hx
        obtain ⟨ws, w1, w2⟩ := ih
        exact ⟨_ :: ws, .cons (.str _) w1, .cons ⟨t, rfl⟩ w2⟩
    have hlen : ws.length ≤ sizeLine := by
      rw [w2.length, hl, sizeLine_eq]; unfold sizeMax at hz; omega
    have I1 : Inv X pins σ H { s with heap := h1, toks := tk } := I.kept kp
    exact ⟨.ref _, upd H a (.lst ws), I1.laid (t' := tk) kp2 hp ⟨hlen, out, n, w2, ha⟩, rfl, outN hf q w1 _ (I1.hok.fresh hp)⟩
  | _ => exact q.elim
/-! ### min, max -/
theorem argBest_le (bt : Nat → Nat → Bool) : ∀ k, PySem.argBest bt k ≤ k
  | 0 => Nat.le_refl _
  | k + 1 => by
    have := argBest_le bt k
    unfold PySem.argBest
    split <;> omega
theorem argBest_congr {f g : Nat → Nat → Bool} : ∀ k, (∀ i j, i ≤ k → j ≤ k → f i j = g i j) → PySem.argBest f k = PySem.argBest g k
  | 0, _ => rfl
  | k + 1, h => by
    have e := argBest_congr k fun i j hi hj => h i j (by omega) (by omega)
    have := argBest_le g k
    unfold PySem.argBest
    rw [e, h _ _ (Nat.le_refl _) (by omega)]
section
variable {prog : Program} {w : World} {A : Around} {E : Value → Shared → Prop} {s : Shared}
theorem min_at {l : Addr} {vs : Array Value} {x : PyData} {xs : List PyData} {as : List Addr} {Q : Value → Shared → Prop} (hh : A.handled = none) (hl : s.heap.IsList l vs ∨ s.heap.IsTuple l vs) (hr : ReadsAll s.heap vs.toList (x :: xs) as) (ha : AlikeAll (x :: xs)) (hu : A.units + 1 + PyData.depthAll (x :: xs) < cLine)
    (h : ∀ v h' tk, vs[argBest (fun i j => dataLt ((x :: xs).getD i .none) ((x :: xs).getD j .none)) xs.length]? = some v → (∀ b o, s.heap.get? b = some o → h'.get? b = some o) → Q v { s with heap := h', toks := tk }) :
    wpAny (model prog w) A (call (.builtin "min") [.ref l]) Q E s := by
  have hn : vs.size = xs.length + 1 := readsAll_len hr
  have e1 : vs.size - 1 = xs.length := by omega
  rcases hl with hl | hl
  · refine call_min_walkH (iter_listW (A := A.in1) hh hl fun s₂ e W st hfp hw hk => ?_)
    refine ⟨_, _, _, _, _, _, _, s.heap, _, rfl, W, st, hfp, by omega, hw, hk, cmpIn_lt (A := A.in1) hr ha (by show A.units + 1 + _ < _; exact hu), fun v s' hP m => ?_⟩
    obtain ⟨h', tk, rfl, hk'⟩ := moved_old e rfl m
    rw [e1] at hP
    exact h v h' tk hP hk'
  · refine call_min_walkH (iter_tupleW (A := A.in1) hh hl fun s₂ e W st hfp hw hk => ?_)
    refine ⟨_, _, _, _, _, _, _, s.heap, _, rfl, W, st, hfp, by omega, hw, hk, cmpIn_lt (A := A.in1) hr ha (by show A.units + 1 + _ < _; exact hu), fun v s' hP m => ?_⟩
    obtain ⟨h', tk, rfl, hk'⟩ := moved_old e rfl m
    rw [e1] at hP
    exact h v h' tk hP hk'
theorem max_at {l : Addr} {vs : Array Value} {x : PyData} {xs : List PyData} {as : List Addr} {Q : Value → Shared → Prop} (hh : A.handled = none) (hl : s.heap.IsList l vs ∨ s.heap.IsTuple l vs) (hr : ReadsAll s.heap vs.toList (x :: xs) as) (ha : AlikeAll (x :: xs)) (hu : A.units + 1 + PyData.depthAll (x :: xs) < cLine)
    (h : ∀ v h' tk, vs[argBest (fun i j => dataLt ((x :: xs).getD j .none) ((x :: xs).getD i .none)) xs.length]? = some v → (∀ b o, s.heap.get? b = some o → h'.get? b = some o) → Q v { s with heap := h', toks := tk }) :
    wpAny (model prog w) A (call (.builtin "max") [.ref l]) Q E s := by
  have hn : vs.size = xs.length + 1 := readsAll_len hr
  have e1 : vs.size - 1 = xs.length := by omega
  rcases hl with hl | hl
  · refine call_max_walkH (iter_listW (A := A.in1) hh hl fun s₂ e W st hfp hw hk => ?_)
    refine ⟨_, _, _, _, _, _, _, s.heap, _, rfl, W, st, hfp, by omega, hw, hk, cmpIn_gt (A := A.in1) hr ha (by show A.units + 1 + _ < _; exact hu), fun v s' hP m => ?_⟩
    obtain ⟨h', tk, rfl, hk'⟩ := moved_old e rfl m
    rw [e1] at hP
    exact h v h' tk hP hk'
  · refine call_max_walkH (iter_tupleW (A := A.in1) hh hl fun s₂ e W st hfp hw hk => ?_)
    refine ⟨_, _, _, _, _, _, _, s.heap, _, rfl, W, st, hfp, by omega, hw, hk, cmpIn_gt (A := A.in1) hr ha (by show A.units + 1 + _ < _; exact hu), fun v s' hP m => ?_⟩
    obtain ⟨h', tk, rfl, hk'⟩ := moved_old e rfl m
    rw [e1] at hP
    exact h v h' tk hP hk'
end
theorem getD_toPys (ds : List D) (i : Nat) : (toPys ds).getD i .none = toPy (ds.getD i .non) := by
  rw [toPys_map, List.getD_eq_getElem?_getD, List.getD_eq_getElem?_getD, List.getElem?_map]
  cases ds[i]? <;> rfl
theorem alikeAll_of {ds : List D} (h : allAlk ds = true) : AlikeAll (toPys ds) := by
  rw [toPys_map]
  refine ⟨fun x hx y hy => ?_, fun x hx => ?_⟩
  · obtain ⟨a, ha, rfl⟩ := List.mem_map.mp hx
    obtain ⟨b, hb, rfl⟩ := List.mem_map.mp hy
    exact alk_toPy _ _ ((alk_mem h ha).2 b hb)
  · obtain ⟨a, ha, rfl⟩ := List.mem_map.mp hx
    exact alk_some ((alk_mem h ha).2 a ha)
theorem getD_mem {d : D} {ds : List D} {i : Nat} (h : i ≤ ds.length) : (d :: ds).getD i .non ∈ d :: ds := by
  rw [List.getD_eq_getElem?_getD, List.getElem?_eq_getElem (by rw [List.length_cons]; omega)]
  exact List.getElem_mem _
theorem bestMin {d : D} {ds : List D} (h : allAlk (d :: ds) = true) : (d :: ds)[PySem.argBest (fun i j => dataLt ((toPys (d :: ds)).getD i .none) ((toPys (d :: ds)).getD j .none)) ds.length]? = some (minX d ds) := by
  have e : PySem.argBest (fun i j => dataLt ((toPys (d :: ds)).getD i .none) ((toPys (d :: ds)).getD j .none)) ds.length = PySem.argBest (fun i j => dLt ((d :: ds).getD i .non) ((d :: ds).getD j .non)) ds.length := argBest_congr _ fun i j hi hj => by
    rw [getD_toPys, getD_toPys]
    exact lt_toPy _ _ _ _ (alk_mem h (getD_mem hi)).1 (alk_mem h (getD_mem hj)).1 ((alk_mem h (getD_mem hi)).2 _ (getD_mem hj))
  rw [e]
  have := (argBest_fold dLt D.non d ds ds.length (Nat.le_refl _)).2
  rw [List.take_length] at this
  have hle := argBest_le (fun i j => dLt ((d :: ds).getD i .non) ((d :: ds).getD j .non)) ds.length
  generalize PySem.argBest (fun i j => dLt ((d :: ds).getD i .non) ((d :: ds).getD j .non)) ds.length = i at *
  rw [List.getElem?_eq_getElem (by rw [List.length_cons]; omega)]
  rw [List.getD_eq_getElem?_getD, List.getElem?_eq_getElem (by rw [List.length_cons]; omega)] at this
  exact congrArg some this
theorem bestMax {d : D} {ds : List D} (h : allAlk (d :: ds) = true) : (d :: ds)[PySem.argBest (fun i j => dataLt ((toPys (d :: ds)).getD j .none) ((toPys (d :: ds)).getD i .none)) ds.length]? = some (maxX d ds) := by
  have e : PySem.argBest (fun i j => dataLt ((toPys (d :: ds)).getD j .none) ((toPys (d :: ds)).getD i .none)) ds.length = PySem.argBest (fun i j => dLt ((d :: ds).getD j .non) ((d :: ds).getD i .non)) ds.length := argBest_congr _ fun i j hi hj => by
    rw [getD_toPys, getD_toPys]
    exact lt_toPy _ _ _ _ (alk_mem h (getD_mem hj)).1 (alk_mem h (getD_mem hi)).1 ((alk_mem h (getD_mem hj)).2 _ (getD_mem hi))
  rw [e]
  have := (argBest_fold (fun a b => dLt b a) D.non d ds ds.length (Nat.le_refl _)).2
  rw [List.take_length] at this
  have hle := argBest_le (fun i j => dLt ((d :: ds).getD j .non) ((d :: ds).getD i .non)) ds.length
  generalize PySem.argBest (fun i j => dLt ((d :: ds).getD j .non) ((d :: ds).getD i .non)) ds.length = i at *
  rw [List.getElem?_eq_getElem (by rw [List.length_cons]; omega)]
  rw [List.getD_eq_getElem?_getD, List.getElem?_eq_getElem (by rw [List.length_cons]; omega)] at this
  exact congrArg some this
theorem ra_wList {K : PySem.W.Frag} {F H : Hp} {C : Option Addr} {v : V} {a : D} {xs : List D} (hf : HF H F C) (ra : RpB K F H C v a) (e : wList a = some xs) : ∃ p vs, v = .ref p ∧ (H p = some (.lst vs) ∨ SqT K H p vs) ∧ Rps K F C vs xs := by
  cases a with
  | lst ys => cases e; obtain ⟨p, vs, rfl, hp, r⟩ := ra.list hf; exact ⟨p, vs, rfl, .inl hp, r⟩
  | tup ys => cases e; obtain ⟨p, vs, rfl, _, hp, r⟩ := ra.tup hf; exact ⟨p, vs, rfl, .inr hp, r⟩
  | _ => cases e
theorem bi_minX {X : Cx} {k : Nat} (hr : Room k X.A) (hk : X.calm = true) : CallR X (.builtin "min") (rC1 X.K RF gMinX) := by
  intro pins s σ H vs us Q I r h
  obtain ⟨x, e, F, C, a, hf, ra, q⟩ := h
  subst e
  unfold gMinX at q
  cases ew : wList a with
  | none => rw [ew] at q; exact q.elim
  | some xs =>
    rw [ew] at q
    cases xs with
    | nil => exact q.elim
    | cons d ds =>
      obtain ⟨hal, q⟩ := all_if q
      obtain ⟨p, vs, rfl, hp, rs⟩ := ra_wList hf ra ew
      rw [Vals.ref1 r]
      have go : ∀ its : List Value, Vals vs its → (s.heap.IsList p its.toArray ∨ s.heap.IsTuple p its.toArray) → wpAny (model X.prog X.w) X.A (call (.builtin "min") [.ref p]) (EP X pins σ Q) X.xe s := fun its rv hl => by
        obtain ⟨as, hrd⟩ := Rps.readsAll I hf.sub (d :: ds) vs its 20 (List.all_eq_true.mpr fun y hy => (alk_mem hal hy).1) rs rv
        have hd := (plain_oks (d :: ds) 20 (List.all_eq_true.mpr fun y hy => (alk_mem hal hy).1)).2
        have hu := hr.units
        refine min_at (x := toPy d) (xs := toPys ds) (I.ok.hd hk) hl (by simpa [toPys] using hrd) (by simpa [toPys] using alikeAll_of hal) (by simp only [toPys] at hd; omega) fun v h' tk hv kp => ?_
        have e1 := bestMin hal
        have e2 : (toPys ds).length = ds.length := by rw [toPys_map, List.length_map]
        rw [e2] at hv
        simp only [toPys] at e1
        obtain ⟨v2, g1, g2⟩ := rs.get e1
        obtain ⟨u, g3, g4⟩ := rv.get g1
        have : v = u := by
          rw [List.getElem?_toArray] at hv
          rw [hv] at g3
          exact Option.some.inj g3
        subst this
        exact ⟨v2, H, I.kept kp, g4, out hf q g2⟩
      rcases hp with hp | hp
      · obtain ⟨its, rv, pl, _⟩ := I.list (.of hp)
        exact go its rv (.inl pl.isList)
      · obtain ⟨its, rv, pl, _⟩ := I.tuple hp
        exact go its rv (.inr pl)
theorem bi_maxX {X : Cx} {k : Nat} (hr : Room k X.A) (hk : X.calm = true) : CallR X (.builtin "max") (rC1 X.K RF gMaxX) := by
  intro pins s σ H vs us Q I r h
  obtain ⟨x, e, F, C, a, hf, ra, q⟩ := h
  subst e
  unfold gMaxX at q
  cases ew : wList a with
  | none => rw [ew] at q; exact q.elim
  | some xs =>
    rw [ew] at q
    cases xs with
    | nil => exact q.elim
    | cons d ds =>
      obtain ⟨hal, q⟩ := all_if q
      obtain ⟨p, vs, rfl, hp, rs⟩ := ra_wList hf ra ew
      rw [Vals.ref1 r]
      have go : ∀ its : List Value, Vals vs its → (s.heap.IsList p its.toArray ∨ s.heap.IsTuple p its.toArray) → wpAny (model X.prog X.w) X.A (call (.builtin "max") [.ref p]) (EP X pins σ Q) X.xe s := fun its rv hl => by
        obtain ⟨as, hrd⟩ := Rps.readsAll I hf.sub (d :: ds) vs its 20 (List.all_eq_true.mpr fun y hy => (alk_mem hal hy).1) rs rv
        have hd := (plain_oks (d :: ds) 20 (List.all_eq_true.mpr fun y hy => (alk_mem hal hy).1)).2
        have hu := hr.units
        refine max_at (x := toPy d) (xs := toPys ds) (I.ok.hd hk) hl (by simpa [toPys] using hrd) (by simpa [toPys] using alikeAll_of hal) (by simp only [toPys] at hd; omega) fun v h' tk hv kp => ?_
        have e1 := bestMax hal
        have e2 : (toPys ds).length = ds.length := by rw [toPys_map, List.length_map]
        rw [e2] at hv
        simp only [toPys] at e1
        obtain ⟨v2, g1, g2⟩ := rs.get e1
        obtain ⟨u, g3, g4⟩ := rv.get g1
        have : v = u := by
          rw [List.getElem?_toArray] at hv
          rw [hv] at g3
          exact Option.some.inj g3
        subst this
        exact ⟨v2, H, I.kept kp, g4, out hf q g2⟩
      rcases hp with hp | hp
      · obtain ⟨its, rv, pl, _⟩ := I.list (.of hp)
        exact go its rv (.inl pl.isList)
      · obtain ⟨its, rv, pl, _⟩ := I.tuple hp
        exact go its rv (.inr pl)
theorem min_two_strs {prog : Program} {w : World} {A : Around} {E : Value → Shared → Prop} {s : Shared} {a b : Str} {t u : Tok} {Q : Value → Shared → Prop} (hh : A.handled = none) (hu : A.units + 1 < cLine)
    (h : ∀ h' tk, (∀ c o, s.heap.get? c = some o → h'.get? c = some o) → Q (if b.cps.toList < a.cps.toList then .str b u else .str a t) { s with heap := h', toks := tk }) :
    wpAny (model prog w) A (call (.builtin "min") [.str a t, .str b u]) Q E s := by
  have hT : (s.heap.push { cls := .type "tuple", data := .seq #[.str a t, .str b u] }).IsTuple s.heap.objs.size #[.str a t, .str b u] := ⟨_, Heap.get?_push_size _ rfl, rfl, 0, rfl⟩
  refine call_min_two (wpAny_pyIter_tuple hT ?_)
  have hsz : (s.heap.push { cls := .type "tuple", data := .seq #[.str a t, .str b u] }).objs.size = s.heap.objs.size + 1 := Heap.size_push ..
  have hi : ∀ i v, (#[Value.str a t, Value.str b u])[i]? = some v → (i = 0 ∧ v = .str a t) ∨ (i = 1 ∧ v = .str b u) := fun i v e => by
    match i with
    | 0 => exact .inl ⟨rfl, (by simpa using e.symm)⟩
    | 1 => exact .inr ⟨rfl, (by simpa using e.symm)⟩
    | i + 2 => simp at e
  refine ⟨_, [_, s.heap.objs.size], [_], _, _, _, fun i j => dataLt (.str (if i = 0 then a else b)) (.str (if j = 0 then a else b)), rfl, Walks.tuple (A := A.in1) hh _ s.heap.objs.size (by rw [hsz]; exact Nat.ne_of_lt (Nat.lt_succ_self _)) #[.str a t, .str b u],
    ⟨⟨_, Heap.get?_push_size _ rfl, rfl, rfl⟩, hT.push _⟩, fun c hc => ?_, by simp, fun i j vi vj s' Q' E' e1 e2 hq => ?_, fun v h' tk hP hk => ?_⟩
  · show c < ((s.heap.push _).push _).objs.size
    rw [Heap.size_push, hsz]
    rcases List.mem_cons.mp hc with rfl | hc
    · rw [hsz]; exact Nat.lt_succ_self _
    · rcases List.mem_cons.mp hc with rfl | hc
      · exact Nat.lt_succ_of_lt (Nat.lt_succ_self _)
      · cases hc
  · obtain ⟨x1, t1, r1, k1⟩ : ∃ x t, vi = .str x t ∧ x = (if i = 0 then a else b) := by
      rcases hi i vi e1 with ⟨rfl, rfl⟩ | ⟨rfl, rfl⟩
      · exact ⟨_, _, rfl, rfl⟩
      · exact ⟨_, _, rfl, rfl⟩
    obtain ⟨x2, t2, r2, k2⟩ : ∃ x t, vj = .str x t ∧ x = (if j = 0 then a else b) := by
      rcases hi j vj e2 with ⟨rfl, rfl⟩ | ⟨rfl, rfl⟩
      · exact ⟨_, _, rfl, rfl⟩
      · exact ⟨_, _, rfl, rfl⟩
    subst r1 r2
    refine rcLt_alike (.str x1) (.str x2) A.in1 s' _ _ _ _ (Reads.str _ _) (Reads.str _ _) rfl (fun e => nomatch e) (by show A.units + 1 + min (PyData.depth (.str x1)) (PyData.depth (.str x2)) < _; simp only [PyData.depth]; omega) prog w E' Q' ?_
    rw [k1, k2]
    exact hq
  · have hold : ∀ c o, s.heap.get? c = some o → h'.get? c = some o := fun c o e => by
      refine hk c o (fun hm => ?_) (Heap.get?_push_of_some _ (Heap.get?_push_of_some _ e))
      rcases List.mem_cons.mp hm with e1 | hm
      · have := Heap.lt_size e; rw [e1, hsz] at this; exact Nat.lt_irrefl _ (Nat.lt_of_succ_lt this)
      · cases hm
    have := h h' tk hold
    have hv : v = if b.cps.toList < a.cps.toList then Value.str b u else Value.str a t := by
      have e0 : argBest (fun i j => dataLt (.str (if i = 0 then a else b)) (.str (if j = 0 then a else b))) 1 = if b.cps.toList < a.cps.toList then 1 else 0 := by
        show (if dataLt (.str b) (.str a) = true then 1 else 0) = _
        rw [dataLt_str]; simp only [decide_eq_true_eq]
      have hP' : (#[Value.str a t, Value.str b u])[argBest (fun i j => dataLt (.str (if i = 0 then a else b)) (.str (if j = 0 then a else b))) 1]? = some v := hP
      rw [e0] at hP'
      by_cases hba : b.cps.toList < a.cps.toList
      · rw [if_pos hba] at hP' ⊢
        simpa using hP'.symm
      · rw [if_neg hba] at hP' ⊢
        simpa using hP'.symm
    rw [hv]; exact this
theorem bi_minX2 {X : Cx} {k : Nat} (hr : Room k X.A) (hk : X.calm = true) : CallR X (.builtin "min") (rC2 X.K gMinX2) := by
  intro pins s σ H vs us Q I r h
  obtain ⟨x, y, e, F, C, a, b, hf, ra, rb, q⟩ := h
  cases a with
  | int i =>
    cases b with
    | int j => exact call_min2 hk pins s σ H vs us Q I r (by cases ra.int; cases rb.int; exact ⟨i, j, e, out hf q (.int _)⟩)
    | _ => exact q.elim
  | str i =>
    cases b with
    | str j =>
      cases ra.str; cases rb.str
      subst e
      obtain ⟨u, w', rfl, ⟨t, rfl⟩, ⟨t', rfl⟩⟩ := vals2 r
      have hu := hr.units
      refine min_two_strs (I.ok.hd hk) (by omega) fun h' tk kp => ⟨.str (SS (if j < i then j else i)), H, I.kept kp, ?_, out hf q (.str _)⟩
      show RelV _ (if j < i then _ else _)
      by_cases hj : j < i
      · rw [if_pos hj, if_pos hj]; exact ⟨_, rfl⟩
      · rw [if_neg hj, if_neg hj]; exact ⟨_, rfl⟩
    | _ => exact q.elim
  | _ => exact q.elim

theorem max_two_strs {prog : Program} {w : World} {A : Around} {E : Value → Shared → Prop} {s : Shared} {a b : Str} {t u : Tok} {Q : Value → Shared → Prop} (hh : A.handled = none) (hu : A.units + 1 < cLine)
    (h : ∀ h' tk, (∀ c o, s.heap.get? c = some o → h'.get? c = some o) → Q (if a.cps.toList < b.cps.toList then .str b u else .str a t) { s with heap := h', toks := tk }) :
    wpAny (model prog w) A (call (.builtin "max") [.str a t, .str b u]) Q E s := by
  have hT : (s.heap.push { cls := .type "tuple", data := .seq #[.str a t, .str b u] }).IsTuple s.heap.objs.size #[.str a t, .str b u] := ⟨_, Heap.get?_push_size _ rfl, rfl, 0, rfl⟩
  refine call_max_two (wpAny_pyIter_tuple hT ?_)
  have hsz : (s.heap.push { cls := .type "tuple", data := .seq #[.str a t, .str b u] }).objs.size = s.heap.objs.size + 1 := Heap.size_push ..
  have hi : ∀ i v, (#[Value.str a t, Value.str b u])[i]? = some v → (i = 0 ∧ v = .str a t) ∨ (i = 1 ∧ v = .str b u) := fun i v e => by
    match i with
    | 0 => exact .inl ⟨rfl, (by simpa using e.symm)⟩
    | 1 => exact .inr ⟨rfl, (by simpa using e.symm)⟩
    | i + 2 => simp at e
  refine ⟨_, [_, s.heap.objs.size], [_], _, _, _, fun i j => dataLt (.str (if j = 0 then a else b)) (.str (if i = 0 then a else b)), rfl, Walks.tuple (A := A.in1) hh _ s.heap.objs.size (by rw [hsz]; exact Nat.ne_of_lt (Nat.lt_succ_self _)) #[.str a t, .str b u],
    ⟨⟨_, Heap.get?_push_size _ rfl, rfl, rfl⟩, hT.push _⟩, fun c hc => ?_, by simp, fun i j vi vj s' Q' E' e1 e2 hq => ?_, fun v h' tk hP hk => ?_⟩
  · show c < ((s.heap.push _).push _).objs.size
    rw [Heap.size_push, hsz]
    rcases List.mem_cons.mp hc with rfl | hc
    · rw [hsz]; exact Nat.lt_succ_self _
    · rcases List.mem_cons.mp hc with rfl | hc
      · exact Nat.lt_succ_of_lt (Nat.lt_succ_self _)
      · cases hc
  · obtain ⟨x1, t1, r1, k1⟩ : ∃ x t, vi = .str x t ∧ x = (if i = 0 then a else b) := by
      rcases hi i vi e1 with ⟨rfl, rfl⟩ | ⟨rfl, rfl⟩
      · exact ⟨_, _, rfl, rfl⟩
      · exact ⟨_, _, rfl, rfl⟩
    obtain ⟨x2, t2, r2, k2⟩ : ∃ x t, vj = .str x t ∧ x = (if j = 0 then a else b) := by
      rcases hi j vj e2 with ⟨rfl, rfl⟩ | ⟨rfl, rfl⟩
      · exact ⟨_, _, rfl, rfl⟩
      · exact ⟨_, _, rfl, rfl⟩
    subst r1 r2
    refine rcGt_alike (.str x1) (.str x2) A.in1 s' _ _ _ _ (Reads.str _ _) (Reads.str _ _) rfl (fun e => nomatch e) (by show A.units + 1 + min (PyData.depth (.str x1)) (PyData.depth (.str x2)) < _; simp only [PyData.depth]; omega) prog w E' Q' ?_
    rw [k1, k2]
    exact hq
  · have hold : ∀ c o, s.heap.get? c = some o → h'.get? c = some o := fun c o e => by
      refine hk c o (fun hm => ?_) (Heap.get?_push_of_some _ (Heap.get?_push_of_some _ e))
      rcases List.mem_cons.mp hm with e1 | hm
      · have := Heap.lt_size e; rw [e1, hsz] at this; exact Nat.lt_irrefl _ (Nat.lt_of_succ_lt this)
      · cases hm
    have := h h' tk hold
    have hv : v = if a.cps.toList < b.cps.toList then Value.str b u else Value.str a t := by
      have e0 : argBest (fun i j => dataLt (.str (if j = 0 then a else b)) (.str (if i = 0 then a else b))) 1 = if a.cps.toList < b.cps.toList then 1 else 0 := by
        show (if dataLt (.str a) (.str b) = true then 1 else 0) = _
        rw [dataLt_str]; simp only [decide_eq_true_eq]
      have hP' : (#[Value.str a t, Value.str b u])[argBest (fun i j => dataLt (.str (if j = 0 then a else b)) (.str (if i = 0 then a else b))) 1]? = some v := hP
      rw [e0] at hP'
      by_cases hba : a.cps.toList < b.cps.toList
      · rw [if_pos hba] at hP' ⊢
        simpa using hP'.symm
      · rw [if_neg hba] at hP' ⊢
        simpa using hP'.symm
    rw [hv]; exact this
theorem bi_maxX2 {X : Cx} {k : Nat} (hr : Room k X.A) (hk : X.calm = true) : CallR X (.builtin "max") (rC2 X.K gMaxX2) := by
  intro pins s σ H vs us Q I r h
  obtain ⟨x, y, e, F, C, a, b, hf, ra, rb, q⟩ := h
  cases a with
  | int i =>
    cases b with
    | int j => exact call_max2 hk pins s σ H vs us Q I r (by cases ra.int; cases rb.int; exact ⟨i, j, e, out hf q (.int _)⟩)
    | _ => exact q.elim
  | str i =>
    cases b with
    | str j =>
      cases ra.str; cases rb.str
      subst e
      obtain ⟨u, w', rfl, ⟨t, rfl⟩, ⟨t', rfl⟩⟩ := vals2 r
      have hu := hr.units
      refine max_two_strs (I.ok.hd hk) (by omega) fun h' tk kp => ⟨.str (SS (if j > i then j else i)), H, I.kept kp, ?_, out hf q (.str _)⟩
      show RelV _ (if i < j then _ else _)
      by_cases hj : j > i
      · rw [if_pos hj, if_pos hj]; exact ⟨_, rfl⟩
      · rw [if_neg hj, if_neg hj]; exact ⟨_, rfl⟩
    | _ => exact q.elim
  | _ => exact q.elim
end WK
end

section
set_option Elab.async false
set_option linter.all false
set_option maxRecDepth 100000
/-! Items stored; a list repeated. -/
namespace WK
open PySem L2
open PySem.SeqAt
section
variable {X : Cx}
theorem on_rep : ON X (binaryOp .Mult) gRepL := by
  intro pins s σ H x y v u Q I rx ry h
  obtain ⟨F, C, a, b, hf, ra, rb, h⟩ := h
  cases a with
  | lst xs =>
    cases b with
    | int j =>
      obtain ⟨p, vs, rfl, hp, rp⟩ := ra.list hf
      cases rb.int
      obtain ⟨⟨h1, h2, h3⟩, h⟩ := all_if h
      refine op_rep pins s σ H _ _ v u Q I rx ry ⟨p, j, vs, rfl, rfl, hp, by omega, by omega, ?_, outN hf h (rp.flat _)⟩
      rw [rp.length, sizeLine_eq]
      have : xs.length * j.toNat ≤ 15 * 1000000 := Nat.mul_le_mul h2 (by omega)
      omega
    | _ => exact h.elim
  | _ => exact h.elim
theorem ixD_eq (n : Nat) (i : Int) : ixD n i = ixN n i := rfl
theorem Rps.set {K : PySem.W.Frag} {F : Hp} {C : Option Addr} {v : V} {d : D} (r : Rp K F C v d) : ∀ {vs : List V} {ds : List D} (j : Nat), Rps K F C vs ds → Rps K F C (vs.set j v) (ds.set j d)
  | _, _, _, .nil => .nil
  | _, _, 0, .cons _ t => .cons r t
  | _, _, j + 1, .cons q t => .cons q (Rps.set r j t)
variable {st : Stmt} {i : Nat} {f g : FE}
/-- xs[i] = e -/
theorem s_setI (h : PS X st (tAsg (tG X.K RF f) (L2.gSub (tVar i) (tG X.K RB g) L2.rSetL))) : CS X st (sSetI i f g) := ps_mono h fun D σ H ⟨B, F, C, ρ, E, q⟩ => by
  unfold sSetI at q
  cases e : ρ[i]? with
  | none => rw [e] at q; exact q.elim
  | some s =>
    rw [e] at q
    cases s with
    | ow xs =>
      refine ⟨B, F, C, ρ, E, (M.all_bind.mp q).mono fun d q v H1 F1 C1 s1 r1 => ?_⟩
      have E1 := E.step s1
      obtain ⟨p, vs, e1, hp, rs, b, fp, cp⟩ := E1.slot i _ e
      refine ⟨.ref p, e1, B, F1, C1, ρ, E1, (M.all_bind.mp q).mono fun d2 q w H2 F2 C2 s2 r2 => ?_⟩
      have E2 := E1.step s2
      cases d2 with
      | int k =>
        have r2 := r2.int
        subst r2
        have q : (match ixD xs.length k with
          | some j => M.ret (Fl.nx (ρ.set i (.ow (xs.set j d))))
          | none => .bad).All _ := q
        cases ej : ixD xs.length k with
        | none => rw [ej] at q; exact q.elim
        | some j =>
          rw [ej] at q
          refine ⟨p, vs, k, j, rfl, rfl, s2.same p _ cp hp, by rw [rs.length, ← ixD_eq]; exact ej, ?_⟩
          exact q _ _ F2 C2 (E2.put e e1 (Rps.set (r1.mono s2.frz s2.cup) j (rs.mono s2.frz s2.cup))) ((E.grow s1).trans (E1.grow s2))
      | _ => exact q.elim
    | _ => exact q.elim
/-- what stands at a place of a list -/
def rGetL (K : PySem.W.Frag) : V → V → Hp → VK → Prop := fun x y H Q => ∃ p xs i v, x = .ref p ∧ y = .int i ∧ SqL K H p xs ∧ atI xs i = some v ∧ Q v H
theorem get_list : PGet X (rGetL X.K) := by
  intro pins s σ H x y v u Q I rx ry h
  obtain ⟨p, xs, i, z, rfl, rfl, hq, he, q⟩ := h
  cases rx
  obtain ⟨t, rfl⟩ := ry
  obtain ⟨its, r, pl, hz⟩ := I.list hq
  obtain ⟨j, h1, h2, h3, h4, h5⟩ := atI_get he
  obtain ⟨w, ew, rw'⟩ := r.get h2
  have hl := r.length
  have hn := line63
  have fin : EP X pins σ Q w s := ⟨z, H, I, rw', q⟩
  by_cases h0 : 0 ≤ i
  · have hj : i.toNat = j := by
      rw [seqIndex_of h0 h5] at h1
      exact Option.some.inj h1
    exact wpAny_getItem_list pl.isList h0 (by omega) (by rw [hj]; simpa using ew) fin
  · have hj : (i + (its.toArray.size : Int)).toNat = j := by
      rw [seqIndex_neg (by omega) h4] at h1
      rw [List.size_toArray, ← hl]
      exact Option.some.inj h1
    exact wpAny_getItem_list_neg pl.isList (by omega) (by rw [List.size_toArray] <;> omega) (by omega) (by rw [hj]; simpa using ew) fin
/-- xs[i] += e, ints -/
theorem s_augI {gg : D → D → M D} {fi : Int → Int → Int} (hg : ∀ a b (P : D → Prop), (gg a b).All P → ∃ i j, a = .int i ∧ b = .int j ∧ P (.int (fi i j))) (h : PS X st (tAugS (tVar i) (tG X.K RB g) (tG X.K RF f) (rGetL X.K) (ipI fi) L2.rSetL)) : CS X st (sAugI gg i g f) := ps_mono h fun D σ H ⟨B, F, C, ρ, E, q⟩ => by
  unfold sAugI at q
  cases e : ρ[i]? with
  | none => rw [e] at q; exact q.elim
  | some s =>
    rw [e] at q
    cases s with
    | ow xs =>
      obtain ⟨p, vs, e1, hp, rs, b, fp, cp⟩ := E.slot i _ e
      refine ⟨.ref p, e1, B, F, C, ρ, E, (M.all_bind.mp q).mono fun d q w H1 F1 C1 s1 r1 => ?_⟩
      have E1 := E.step s1
      cases d with
      | int k =>
        have r1 := r1.int
        subst r1
        have q : (match ixD xs.length k with
          | some j => match xs[j]? with
            | some x => (f ρ).bind fun y => (gg x y).bind fun z => M.ret (Fl.nx (ρ.set i (.ow (xs.set j z))))
            | none => .bad
          | none => .bad).All _ := q
        cases ej : ixD xs.length k with
        | none => rw [ej] at q; exact q.elim
        | some j =>
          rw [ej] at q
          cases ex : xs[j]? with
          | none => simp only [ex] at q; exact q.elim
          | some x =>
            simp only [ex] at q
            have rs1 := rs.mono s1.frz s1.cup
            obtain ⟨y0, g1, g2⟩ := rs1.get ex
            have hp1 := s1.same p _ cp hp
            refine ⟨p, vs, k, y0, rfl, rfl, .of hp1, by unfold atI; rw [rs.length, ← ixD_eq, ej]; exact g1, B, F1, C1, ρ, E1, (M.all_bind.mp q).mono fun d2 q v2 H2 F2 C2 s2 r2 => ?_⟩
            obtain ⟨a, b', ea, eb, qq⟩ := hg _ _ _ (M.all_bind.mp q)
            subst ea eb
            have r2 : v2 = .int b' := by cases r2; rfl
            have r3 : y0 = .int a := by cases g2; rfl
            subst r2 r3
            refine ⟨a, b', rfl, rfl, p, vs, k, j, rfl, rfl, s2.same p _ (fun z => cp (by
              exact (E1.slot i _ e).elim fun p2 ⟨vs2, z1, _, _, _, _, cp2⟩ => by
                rw [e1] at z1
                cases z1
                exact absurd z cp2)) hp1, by rw [rs.length, ← ixD_eq]; exact ej, ?_⟩
            exact qq _ _ F2 C2 ((E1.step s2).put e e1 (Rps.set (.int _) j (rs1.mono s2.frz s2.cup))) ((E.grow s1).trans (E1.grow s2))
      | _ => exact q.elim
    | _ => exact q.elim
theorem c_countL {a b : Expr} {apos pos : Pos} (ha : CB X a f) (hb : CB X b g) (hs : starEach [b] X.env = (false, eval b X.env) :: starEach [] X.env := by rfl) (hbase : attributeBase a "count" X.env (eval a X.env) = eval a X.env := by rfl) (hline : (apos.endLine == pos.line) = true := by rfl)
    (hfew : ((backTo pos (starEach [b] X.env)).all (fun x => !x.1) && (backToKw pos (keywordEach [] X.env)).all (fun x => x.1.isSome)
      && decide ([b].length + ([] : List Keyword).length + (if ([] : List Keyword).isEmpty then 0 else 1) < 30)) = true := by rfl) (hplain : (backTo pos (starEach [] X.env)).any (·.1) = false := by rfl) :
    CF X (.Call (.Attribute a "count" apos) [b] [] pos) (fOp gCntL (fUn asLst f) g) :=
  pe_mono (pe_bm PySem.F.plainAttrs_list PySem.F.slot_list_count PySem.F.type_list_count mt_lcount ha (pa_cons hb pa_nil hs) hbase hfew hline hs hplain) fun σ H Q ⟨B, F, C, ρ, E, q⟩ => by
    refine ⟨B, F, C, ρ, E, M.All.mono (fun d q x H1 F1 C1 s1 r1 => ?_) (M.all_bind.mp (M.all_bind.mp q))⟩
    cases d with
    | lst xs =>
      obtain ⟨p, vs, rfl, hp, rs⟩ := r1.list s1.hf
      refine ⟨.inl ⟨rfl, vs, .of hp⟩, B, F1, C1, ρ, E.step s1, M.All.mono (fun d2 q y H2 F2 C2 s2 r2 => ?_) (M.all_bind.mp q)⟩
      cases d2 with
      | int k =>
        have r2 := r2.int
        subst r2
        obtain ⟨ns, e, q⟩ := all_mopt q
        have hp2 := RpB.step r1 s2
        obtain ⟨p', vs', e1, hp', rs'⟩ := hp2.list s2.hf
        cases e1
        cases rs'.ints e
        exact ⟨p, ns, k, rfl, rfl, .of hp', q _ H2 F2 C2 (s1.trans E.hf s2) (.int _)⟩
      | _ => exact q.elim
    | _ => exact q.elim
end
end WK
end

section
set_option Elab.async false
set_option linter.all false
set_option maxRecDepth 100000
/-! Dicts. -/
namespace WK
open PySem L2
section
variable {K : PySem.W.Frag} {F H : Hp} {C : Option Addr}
theorem key_of {w : V} {d : D} (h : isKey d = true) (r : RpB K F H C w d) : ∃ k, KeyOf d k ∧ w = kV k := by
  cases d with
  | int i => cases r.int; exact ⟨.inl i, rfl, rfl⟩
  | str s => cases r.str; exact ⟨.inr (SS s), rfl, rfl⟩
  | _ => cases h
theorem KeyOf.eq {x y : D} {j k : Key} (a : KeyOf x j) (b : KeyOf y k) : dkEq x y = decide (j = k) := by
  cases x with
  | int i =>
    cases j with
    | inl i' =>
      have a : i = i' := a
      subst a
      cases y with
      | int l =>
        cases k with
        | inl l' =>
          have b : l = l' := b
          subst b
          show (i == l) = _
          rw [Bool.eq_iff_iff, beq_iff_eq, decide_eq_true_eq]
          exact ⟨fun h => by rw [h], fun h => by cases h; rfl⟩
        | inr _ => exact b.elim
      | str l =>
        cases k with
        | inl _ => exact b.elim
        | inr t => exact (decide_eq_false (fun h => nomatch h)).symm
      | _ => exact b.elim
    | inr _ => exact a.elim
  | str s =>
    cases j with
    | inl _ => exact a.elim
    | inr s' =>
      have a : s' = SS s := a
      subst a
      cases y with
      | int l =>
        cases k with
        | inl _ => exact (decide_eq_false (fun h => nomatch h)).symm
        | inr _ => exact b.elim
      | str l =>
        cases k with
        | inl _ => exact b.elim
        | inr t =>
          have b : t = SS l := b
          subst b
          show (s == l) = _
          rw [Bool.eq_iff_iff, beq_iff_eq, decide_eq_true_eq]
          exact ⟨fun h => by rw [h], fun h => ss_inj _ _ (Sum.inr.inj h)⟩
      | _ => exact b.elim
  | _ => exact a.elim
theorem KvOk.find {x : D} {k : Key} (hx : KeyOf x k) : ∀ {kvs : List (Key × V)} {ks ds : List D}, KvOk K F C kvs ks ds → (∃ v d, valV kvs k = some v ∧ dFind x ks ds = some d ∧ Rp K F C v d) ∨ (valV kvs k = none ∧ dFind x ks ds = none)
  | _, _, _, .nil => .inr ⟨rfl, rfl⟩
  | _, _, _, .cons (k := j) (v := v) (kvs := kvs) (x := y) (d := d) (xs := xs) (ds := ds) hy r t => by
    have e := KeyOf.eq hy hx
    by_cases h : j = k
    · subst h
      rw [decide_eq_true rfl] at e
      exact .inl ⟨v, d, valV_pos rfl, by unfold dFind; rw [if_pos e], r⟩
    · rw [decide_eq_false h] at e
      have e1 : valV ((j, v) :: kvs) k = valV kvs k := valV_neg h
      have e2 : dFind x (y :: xs) (d :: ds) = dFind x xs ds := by
        show (if dkEq y x = true then some d else dFind x xs ds) = _
        rw [e]; rfl
      rw [e1, e2]
      exact KvOk.find hx t
theorem KvOk.len : ∀ {kvs : List (Key × V)} {ks ds : List D}, KvOk K F C kvs ks ds → kvs.length = ks.length ∧ ks.length = ds.length
  | _, _, _, .nil => ⟨rfl, rfl⟩
  | _, _, _, .cons _ _ t => ⟨congrArg (· + 1) t.len.1, congrArg (· + 1) t.len.2⟩
theorem KvOk.snoc {x d : D} {k : Key} {v : V} (hx : KeyOf x k) (r : Rp K F C v d) : ∀ {kvs : List (Key × V)} {ks ds : List D}, KvOk K F C kvs ks ds → KvOk K F C (kvs ++ [(k, v)]) (ks ++ [x]) (ds ++ [d])
  | _, _, _, .nil => .cons hx r .nil
  | _, _, _, .cons a b t => .cons a b (KvOk.snoc hx r t)
theorem KvOk.repl {x d : D} {k : Key} {v : V} (hx : KeyOf x k) (r : Rp K F C v d) : ∀ {kvs : List (Key × V)} {ks ds : List D}, KvOk K F C kvs ks ds → KvOk K F C (kvs.map fun kv => if kv.1 = k then (kv.1, v) else kv) ks (dRepl x d ks ds)
  | _, _, _, .nil => .nil
  | _, _, _, .cons (k := j) (v := w) (kvs := kvs) (x := y) (d := d0) (xs := xs) (ds := ds) a b t => by
    have e := KeyOf.eq a hx
    have ih := KvOk.repl hx r t
    rw [List.map_cons]
    show KvOk K F C (_ :: _) (y :: xs) ((if dkEq y x = true then d else d0) :: dRepl x d xs ds)
    by_cases h : j = k
    · subst h
      rw [decide_eq_true rfl] at e
      rw [if_pos e]
      simp only [if_pos]
      exact .cons a r ih
    · rw [decide_eq_false h] at e
      rw [e]
      simp only [if_neg h]
      exact .cons a b ih
theorem KvOk.put {x d : D} {k : Key} {v : V} (hx : KeyOf x k) (r : Rp K F C v d) {kvs : List (Key × V)} {ks ds : List D} (h : KvOk K F C kvs ks ds) : KvOk K F C (putK kvs k v) (dKeys x ks ds) (dVals x d ks ds) := by
  unfold putK dKeys dVals
  rw [valV_any]
  rcases h.find hx with ⟨w, d0, e1, e2, _⟩ | ⟨e1, e2⟩
  · rw [e1, e2]
    exact h.repl hx r
  · rw [e1, e2]
    exact h.snoc hx r
end
/-- a new dict that nobody else knows -/
def RpD (K : PySem.W.Frag) (H0 F H : Hp) (C : Option Addr) (v : V) (d : D) : Prop :=
  ∃ p kvs ks ds, v = .ref p ∧ d = .dct ks ds ∧ H0 p = none ∧ H p = some (.dK kvs) ∧ F p = none ∧ C ≠ some p ∧ KvOk K F C kvs ks ds
abbrev RD : RK := fun K H0 F H C v d => RpD K H0 F H C v d
abbrev CD (X : Cx) : Expr → FE → Prop := CG X RD
theorem rd_back {K : PySem.W.Frag} {H F H1 F1 F2 H2 : Hp} {C C1 C2 : Option Addr} {v : V} {d : D} (hf : HF H F C) (s : Step H F C H1 F1 C1) (r : RpD K H1 F2 H2 C2 v d) : RpD K H F2 H2 C2 v d := by
  obtain ⟨p, kvs, ks, ds, e1, e2, np, r⟩ := r
  refine ⟨p, kvs, ks, ds, e1, e2, ?_, r⟩
  cases q : H p with
  | none => rfl
  | some o => exact absurd np (s.there hf (by rw [q]; simp))
section
variable {X : Cx} {e i o : Expr} {f g : FE} {pos p : Pos}
theorem CD.cb (h : CD X e f) : CB X e f := pe_mono h fun σ H Q ⟨B, F, C, ρ, E, q⟩ => ⟨B, F, C, ρ, E, q.mono fun d q v H' F' C' s r => q v H' F' C' s (by
  obtain ⟨p, kvs, ks, ds, e1, e2, np, hp, fp, cp, t⟩ := r
  exact .inr (.inr ⟨p, kvs, ks, ds, e1, e2, .inl hp, cp, t⟩))⟩
theorem c_dnew : CD X (.Dict [] [] pos) (fC (.dct [] [])) := pe_mono pe_dnewK fun σ H Q ⟨B, F, C, ρ, E, q⟩ => fun p np =>
  q _ _ _ _ (E.hf.laid np) ⟨p, [], [], [], rfl, rfl, np, upd_same, (E.hf.notNew np).1, (E.hf.notNew np).2, .nil⟩
theorem c_dget {k : Nat} (hr : Room k X.A) (ho : CB X o f) (hi : CB X i g) (hs : NoSl i := by exact fun _ _ => rfl) : CF X (.Subscript o i pos) (fOp gDGet f g) :=
  pe_mono (pe_dget (by have := hr.units; omega) ho hi hs) fun σ H Q ⟨B, F, C, ρ, E, q⟩ => by
    refine ⟨B, F, C, ρ, E, (M.all_bind.mp q).mono fun d q x H1 F1 C1 s1 r1 => ?_⟩
    refine ⟨B, F1, C1, ρ, E.step s1, (M.all_bind.mp q).mono fun d2 q y H2 F2 C2 s2 r2 => ?_⟩
    cases d with
    | dct ks ds =>
      obtain ⟨hk, q⟩ := all_if q
      obtain ⟨p, kvs, rfl, hp, cp, t⟩ := (r1.step s2).dct
      obtain ⟨k, kx, rfl⟩ := key_of hk r2
      rcases t.find kx with ⟨v, d, e1, e2, r⟩ | ⟨e1, e2⟩
      · rw [e2] at q
        exact ⟨p, v, rfl, .inl ⟨kvs, k, hp, rfl, e1.symm⟩, q v H2 F2 C2 (s1.trans E.hf s2) r⟩
      · rw [e2] at q; exact q.elim
    | _ => exact q.elim
theorem din_go {σ : L2.St} {H : Hp} {Q : VK} (h : tG X.K RF (fOp gDIn g f) σ H Q) : tDIn (tG X.K RB g) (tG X.K RB f) σ H Q := by
  obtain ⟨B, F, C, ρ, E, q⟩ := h
  refine ⟨B, F, C, ρ, E, (M.all_bind.mp q).mono fun d q x H1 F1 C1 s1 r1 => ?_⟩
  refine ⟨B, F1, C1, ρ, E.step s1, (M.all_bind.mp q).mono fun d2 q y H2 F2 C2 s2 r2 => ?_⟩
  cases d2 with
  | dct ks ds =>
    obtain ⟨hk, q⟩ := all_if q
    obtain ⟨p, kvs, rfl, hp, cp, t⟩ := r2.dct
    obtain ⟨k, kx, rfl⟩ := key_of hk (r1.step s2)
    refine ⟨p, valV kvs k, rfl, .inl ⟨kvs, k, hp, rfl, rfl⟩, ?_⟩
    have e : (valV kvs k).isSome = (dFind d ks ds).isSome := by
      rcases t.find kx with ⟨v, d, e1, e2, r⟩ | ⟨e1, e2⟩ <;> rw [e1, e2] <;> rfl
    rw [e]
    exact q _ H2 F2 C2 (s1.trans E.hf s2) (.bl _)
  | _ => exact q.elim
theorem c_din {k : Nat} (hr : Room k X.A) (hi : CB X i g) (ho : CB X o f) (h1 : behindInMarks .In o = false := by rfl) : CF X (.Compare i [.In] [o] pos) (fOp gDIn g f) :=
  pe_mono (pe_cmp (pc_din (by have := hr.units; omega) hi ho) h1) fun _ _ _ h => din_go h
theorem ct_din {k : Nat} (hr : Room k X.A) (hi : CB X i g) (ho : CB X o f) (h1 : behindInMarks .In o = false := by rfl) : CT X (.Compare i [.In] [o] pos) (fOp gDIn g f) :=
  pt_mono (pt_cmp (pc_din (by have := hr.units; omega) hi ho) h1) fun _ _ _ h => din_go (test_go h)
theorem dnotin_go {σ : L2.St} {H : Hp} {Q : VK} (h : tG X.K RF (fOp gDNotIn g f) σ H Q) : tDNotIn (tG X.K RB g) (tG X.K RB f) σ H Q := by
  obtain ⟨B, F, C, ρ, E, q⟩ := h
  refine ⟨B, F, C, ρ, E, (M.all_bind.mp q).mono fun d q x H1 F1 C1 s1 r1 => ?_⟩
  refine ⟨B, F1, C1, ρ, E.step s1, (M.all_bind.mp q).mono fun d2 q y H2 F2 C2 s2 r2 => ?_⟩
  cases d2 with
  | dct ks ds =>
    obtain ⟨hk, q⟩ := all_if q
    obtain ⟨p, kvs, rfl, hp, cp, t⟩ := r2.dct
    obtain ⟨k, kx, rfl⟩ := key_of hk (r1.step s2)
    refine ⟨p, valV kvs k, rfl, .inl ⟨kvs, k, hp, rfl, rfl⟩, ?_⟩
    have e : (valV kvs k).isSome = (dFind d ks ds).isSome := by
      rcases t.find kx with ⟨v, d, e1, e2, r⟩ | ⟨e1, e2⟩ <;> rw [e1, e2] <;> rfl
    rw [e]
    exact q _ H2 F2 C2 (s1.trans E.hf s2) (.bl _)
  | _ => exact q.elim
theorem c_dnotin {k : Nat} (hr : Room k X.A) (hi : CB X i g) (ho : CB X o f) (h1 : behindInMarks .NotIn o = false := by rfl) : CF X (.Compare i [.NotIn] [o] pos) (fOp gDNotIn g f) :=
  pe_mono (pe_cmp (pc_dnotin (by have := hr.units; omega) hi ho) h1) fun _ _ _ h => dnotin_go h
theorem ct_dnotin {k : Nat} (hr : Room k X.A) (hi : CB X i g) (ho : CB X o f) (h1 : behindInMarks .NotIn o = false := by rfl) : CT X (.Compare i [.NotIn] [o] pos) (fOp gDNotIn g f) :=
  pt_mono (pt_cmp (pc_dnotin (by have := hr.units; omega) hi ho) h1) fun _ _ _ h => dnotin_go (test_go h)
theorem bi_lenD : CallR X (.builtin "len") (rC1 X.K RF gLenD) := by
  intro pins s σ H vs us Q I r h
  obtain ⟨x, e, F, C, a, hf, ra, q⟩ := h
  subst e
  cases a with
  | dct ks ds =>
    obtain ⟨p, kvs, rfl, hp, cp, t⟩ := ra.dct
    rw [Vals.ref1 r]
    refine d_len I hp fun tk s' I' => ⟨.int kvs.length, H, I', ⟨tk, rfl⟩, ?_⟩
    rw [t.len.1]
    exact out hf q (.int _)
  | _ => exact q.elim
/-- dict(pairs) -/
theorem dPairs_cons {x : D} {xs ks ds : List D} {z : List D × List D} (e : dPairs (x :: xs) ks ds = some z) : ∃ k v, x = .tup [k, v] ∧ isKey k = true ∧ dPairs xs (dKeys k ks ds) (dVals k v ks ds) = some z := by
  cases x with
  | tup ys =>
    cases ys with
    | nil => cases e
    | cons k ys =>
      cases ys with
      | nil => cases e
      | cons v ys =>
        cases ys with
        | nil =>
          unfold dPairs at e
          cases hk : isKey k with
          | false => rw [hk] at e; cases e
          | true => rw [hk] at e; exact ⟨k, v, rfl, hk, e⟩
        | cons _ _ => cases e
  | _ => cases e
theorem tup2 {K : PySem.W.Frag} {F : Hp} {C : Option Addr} {w : V} {k v : D} (r : Rp K F C w (.tup [k, v])) : ∃ a x y, w = .ref a ∧ SqT K F a [x, y] ∧ Rp K F C x k ∧ Rp K F C y v := by
  cases r with
  | tup hs rr =>
    cases rr with
    | cons rk rr =>
      cases rr with
      | cons rv rr =>
        cases rr
        exact ⟨_, _, _, rfl, hs, rk, rv⟩
theorem pairs_ok {K : PySem.W.Frag} {H F : Hp} {C : Option Addr} (hf : HF H F C) {ks' ds' : List D} : ∀ (xs : List D) (vs : List V) (ks ds : List D) (kvs0 : List (Key × V)), Rps K F C vs xs → dPairs xs ks ds = some (ks', ds') → KvOk K F C kvs0 ks ds →
    ∃ (ps : List Addr) (kvs : List (Key × V)), vs = ps.map V.ref ∧ Paired (fun p kv => SqT K H p [kV kv.1, kv.2]) ps kvs ∧ KvOk K F C (mergeK kvs0 kvs) ks' ds' := by
  intro xs
  induction xs with
  | nil =>
    intro vs ks ds kvs0 r e t
    cases r
    cases e
    exact ⟨[], [], rfl, .nil, t⟩
  | cons x xs ih =>
    intro vs ks ds kvs0 r e t
    obtain ⟨k, v, rfl, hk, e⟩ := dPairs_cons e
    cases r with
    | cons r rs =>
      obtain ⟨a, wx, wy, rfl, hs, rk, rv⟩ := tup2 r
      obtain ⟨kk, hkk, ew⟩ := key_of (H := H) hk (Or.inl rk)
      obtain ⟨ps, kvs, e1, e2, e3⟩ := ih _ _ _ _ rs e (t.put hkk rv)
      subst ew e1
      exact ⟨a :: ps, (kk, wy) :: kvs, rfl, .cons (sameT hf.sub hs) e2, e3⟩
theorem bi_dict (hk : X.calm = true) : CallR X (.type "dict") (rC1 X.K RD gDict) := by
  intro pins s σ H vs us Q I r h
  obtain ⟨x, e, F, C, a, hf, ra, q⟩ := h
  subst e
  cases a with
  | lst xs =>
    obtain ⟨p, ws, rfl, hp, rs⟩ := ra.list hf
    have q : (match dPairs xs [] [] with
      | some (ks, ds) => M.ret (D.dct ks ds)
      | none => .bad).All _ := q
    cases ep : dPairs xs [] [] with
    | none => rw [ep] at q; exact q.elim
    | some z =>
      obtain ⟨ks, ds⟩ := z
      rw [ep] at q
      obtain ⟨ps, kvs, e1, e2, e3⟩ := pairs_ok hf _ _ _ _ [] rs ep .nil
      subst e1
      exact call_dictP hk pins s σ H _ us Q I r ⟨p, ps, kvs, rfl, .of hp, e2, fun a na => q _ _ _ _ (hf.laid na) ⟨a, _, ks, ds, rfl, rfl, na, upd_same, (hf.notNew na).1, (hf.notNew na).2, e3⟩⟩
  | _ => exact q.elim
theorem c_t1D {T : String} {x : Str} {gg : D → M D} (hc : CallR X (.type T) (rC1 X.K RD gg)) (hg : Gl X x) (hm : X.mg x = none) (hv : bootBuiltins x = some (.type T)) (ha : CB X e f) (hn : x ≠ "__name__" := by decide) (hdb : (x == ("__debug__" : Str)) = false := by decide)
    (he : starEach [e] X.env = (false, eval e X.env) :: starEach [] X.env := by rfl) (hpl : (backTo pos (starEach [] X.env)).any (·.1) = false := by rfl) : CD X (.Call (.Name x p) [e] [] pos) (fUn gg f) :=
  pe_mono (pe_callTy hc hg hm hv (pa_cons ha pa_nil he) hn hdb he hpl) fun _ _ _ h => tcb_go (R := RD) (fun hf s r => rd_back hf s r) h
/-! displays -/
structure CPs (X : Cx) (pos : Pos) (keys : List (Option Expr)) (values : List Expr) (fl : FL) : Prop where
  go : ∃ trs, PPs X pos keys values trs ∧ ∀ (B F : Hp) (C : Option Addr) (ρ : Ev) (σ : L2.St) (H : Hp) (Q : List (V × V) → Hp → Prop), EnvOk X.K B σ H F C ρ →
    ((fl ρ).All fun ds => ∀ (vs : List V) (H' F' : Hp) (C' : Option Addr), Step H F C H' F' C' → Rps X.K F' C' vs ds → ∃ ps, vs = (ps.map fun (q : V × V) => [q.1, q.2]).flatten ∧ Q ps H') → tPairs trs σ H Q
theorem cps_nil : CPs X pos [] [] fNil := ⟨[], pps_nil, fun B F C ρ σ H Q E q => by
  obtain ⟨ps, e, q⟩ := q [] H F C E.hf.refl .nil
  cases ps with
  | nil => exact q
  | cons x ps => cases e⟩
theorem cps_cons {k v : Expr} {ks : List (Option Expr)} {vs : List Expr} {fl : FL} (hk : CF X k f) (hv : CF X v g) (h : CPs X pos ks vs fl) : CPs X pos (some k :: ks) (v :: vs) (fCons f (fCons g fl)) := by
  obtain ⟨trs, hp, go⟩ := h
  refine ⟨_, pps_cons hk hv hp, fun B F C ρ σ H Q E q => ?_⟩
  refine ⟨B, F, C, ρ, E, (M.all_bind.mp q).mono fun d q x H1 F1 C1 s1 r1 => ?_⟩
  have q := M.all_bind.mp (M.all_bind.mp q)
  refine ⟨B, F1, C1, ρ, E.step s1, q.mono fun d2 q y H2 F2 C2 s2 r2 => ?_⟩
  refine go B F2 C2 ρ σ H2 _ ((E.step s1).step s2) ((M.all_bind.mp q).mono fun ds q vs H3 F3 C3 s3 rs => ?_)
  obtain ⟨ps, e, q⟩ := q (x :: y :: vs) H3 F3 C3 ((s1.trans E.hf s2).trans E.hf s3) (.cons ((r1.step s2).step s3) (.cons (r2.step s3) rs))
  match ps, e, q with
  | (a, b) :: ps, e, q =>
    simp at e
    obtain ⟨rfl, rfl, e⟩ := e
    exact ⟨ps, e, q⟩
  | [], e, q => cases e
set_option maxHeartbeats 1000000 in
theorem disp_ok {K : PySem.W.Frag} {F : Hp} {C : Option Addr} {H : Hp} : ∀ {n : Nat} {xs : List D} {vs : List V} {ks ds ks' ds' : List D} {kvs0 : List (Key × V)}, xs.length ≤ n → Rps K F C vs xs → dDisp xs ks ds = some (ks', ds') → KvOk K F C kvs0 ks ds →
    ∃ kvs : List (Key × V), vs = ((kvs.map fun kv => (kV kv.1, kv.2)).map fun (q : V × V) => [q.1, q.2]).flatten ∧ kvs.length * 2 = xs.length ∧ KvOk K F C (mergeK kvs0 kvs) ks' ds'
  | _, [], _, ks, ds, _, _, _, _, .nil, e, t => by
    cases e
    exact ⟨[], rfl, rfl, t⟩
  | _, [_], _, _, _, _, _, _, _, _, e, _ => by cases e
  | 0, _ :: _ :: _, _, _, _, _, _, _, h, _, _, _ => absurd h (by simp)
  | n + 1, k :: v :: xs, _, ks, ds, _, _, kvs0, h, .cons rk (.cons rv rs), e, t => by
    unfold dDisp at e
    split at e
    · rename_i hk
      obtain ⟨kk, hkk, ew⟩ := key_of hk (Or.inl rk : RpB K F H C _ _)
      obtain ⟨kvs, e1, e2, e3⟩ := disp_ok (H := H) (n := n) (by simp at h; omega) rs e (t.put hkk rv)
      subst ew
      exact ⟨(kk, _) :: kvs, by rw [e1]; rfl, by simp; omega, e3⟩
    · cases e
theorem c_disp {keys : List (Option Expr)} {values : List Expr} {fl : FL} (h : CPs X pos keys values fl) (hall : keys.all (·.isSome) = true) (hl : keys.length = values.length) (h0 : keys ≠ []) (h15 : keys.length ≤ 15) :
    CD X (.Dict keys values pos) (fArgs gDispB fl) := by
  obtain ⟨trs, hp, go⟩ := h
  refine pe_mono (pe_disp hp hall hl h0 h15) fun σ H Q ⟨B, F, C, ρ, E, q⟩ => fun p np => ?_
  have E1 := E.step (E.hf.laid (o := .dK []) np)
  refine go B F C ρ σ _ _ E1 ((M.all_bind.mp q).mono fun xs q vs H' F' C' s rs => ?_)
  obtain ⟨hz, q⟩ := all_if q
  unfold gDisp at q
  cases ed : dDisp xs [] [] with
  | none => rw [ed] at q; exact q.elim
  | some z =>
    obtain ⟨ks, ds⟩ := z
    rw [ed] at q
    obtain ⟨kvs, e1, e2, e3⟩ := disp_ok (H := H') (n := xs.length) (kvs0 := []) (Nat.le_refl _) rs ed .nil
    have cp : C ≠ some p := (E.hf.notNew np).2
    have fp : F p = none := (E.hf.notNew np).1
    have hp1 : H' p = some (.dK []) := s.same p _ cp upd_same
    have fp1 : F' p = none := s.new p (by rw [upd_same]; simp) fp
    have cp1 : C' ≠ some p := fun z => by
      rcases s.cupN p z with z | z
      · exact cp z
      · rw [upd_same] at z; cases z
    have s0 := (E.hf.laid (o := .dK []) np).trans E.hf s
    exact ⟨_, e1, hp1, kvs, rfl, by omega, q _ _ _ _ (s0.put hp1 fp1 cp1 np) ⟨p, _, ks, ds, rfl, rfl, np, upd_same, fp1, cp1, e3⟩⟩
end
/-! ### statements -/
section
variable {X : Cx} {st : Stmt} {i : Nat} {f g : FE}
theorem ownD_go {D : Ends} {σ : L2.St} {H : Hp} (h : tX X.K (sOwnD i f) D σ H) : tAsg (tG X.K RD f) (gName i) D σ H := by
  obtain ⟨B, F, C, ρ, E, q⟩ := h
  refine ⟨B, F, C, ρ, E, (M.all_bind.mp q).mono fun d q v H1 F1 C1 s1 r1 => ?_⟩
  obtain ⟨p, kvs, ks, ds, rfl, rfl, np, hp, fp, cp, rs⟩ := r1
  obtain ⟨hi, q⟩ := all_if (m := M.ret (Fl.nx (ρ.set i (.od ks ds)))) q
  exact q _ H1 F1 C1 ((E.step s1).setOwnD hp rs (E.base.free np) fp cp (E.noOwn s1 np)) (E.grow s1)
theorem s_ownD (h : PS X st (tAsg (tG X.K RD f) (gName i))) : CS X st (sOwnD i f) := ps_mono h fun _ _ _ q => ownD_go q
/-- d[k] = v -/
theorem s_dput (h : PS X st (L2.sDPut (tVar i) (tG X.K RB g) (tG X.K RF f))) : CS X st (sDPut i f g) := ps_mono h fun D σ H ⟨B, F, C, ρ, E, q⟩ => by
  unfold sDPut at q
  cases e : ρ[i]? with
  | none => rw [e] at q; exact q.elim
  | some s =>
    rw [e] at q
    cases s with
    | od ks ds =>
      refine ⟨B, F, C, ρ, E, (M.all_bind.mp q).mono fun d q v H1 F1 C1 s1 r1 => ?_⟩
      have E1 := E.step s1
      obtain ⟨p, kvs, e1, hp, rs, b, fp, cp⟩ := E1.slot i _ e
      refine ⟨.ref p, e1, B, F1, C1, ρ, E1, (M.all_bind.mp q).mono fun d2 q w H2 F2 C2 s2 r2 => ?_⟩
      have E2 := E1.step s2
      obtain ⟨p2, kvs2, e2, hp2, rs2, b2, fp2, cp2⟩ := E2.slot i _ e
      rw [e1] at e2
      cases e2
      obtain ⟨⟨hk, hz⟩, q⟩ := all_if q
      obtain ⟨k, kx, rfl⟩ := key_of hk r2
      refine ⟨p, _, rfl, DPut.k hp2 (by rw [rs2.len.1]; exact Nat.lt_trans hz (by decide)), ?_⟩
      exact q _ _ F2 C2 (E2.putS e (p := p) e1 ⟨p, _, e1, upd_same, rs2.put kx (r1.step s2), b2, fp2, cp2⟩ fun a w => w) ((E.grow s1).trans (E1.grow s2))
    | _ => exact q.elim
end
end WK
end

section
set_option Elab.async false
set_option linter.all false
set_option maxRecDepth 100000
/-! Dicts that are walked. -/
namespace WK
open PySem L2
section
variable {K : PySem.W.Frag} {H F H1 F1 : Hp} {C C1 : Option Addr} {p : Addr} {u : HO}
theorem Step.unlock {w : HO} (s : Step (upd H p w) F C H1 F1 C1) (hp : H p = some u) (fp : F p = none) (cp : C ≠ some p) : H1 p = some w ∧ F1 p = none ∧ C1 ≠ some p ∧ Step H F C (upd H1 p u) F1 C1 := by
  have h1 : H1 p = some w := s.same p _ cp upd_same
  have f1 : F1 p = none := s.new p (by rw [upd_same]; simp) fp
  have c1 : C1 ≠ some p := fun z => by
    rcases s.cupN p z with z | z
    · exact cp z
    · rw [upd_same] at z; cases z
  refine ⟨h1, f1, c1, ⟨⟨fun b o e => ?_, fun c e => ?_⟩, fun b o n e => ?_, s.frz, fun b n e => ?_, s.cup, fun c e => ?_⟩⟩
  · rw [upd_ne (ne_of_none e f1)]; exact s.hf.sub b o e
  · obtain ⟨⟨x, y, z⟩, w⟩ := s.hf.cup c e
    exact ⟨⟨x, y, by rw [upd_ne (fun q : c = p => c1 (q ▸ e))]; exact z⟩, w⟩
  · by_cases hb : b = p
    · subst hb; rw [upd_same, ← hp, e]
    · rw [upd_ne hb]; exact s.same b o n (by rw [upd_ne hb]; exact e)
  · by_cases hb : b = p
    · subst hb; exact f1
    · exact s.new b (by rw [upd_ne hb]; exact n) e
  · rcases s.cupN c e with z | z
    · exact .inl z
    · by_cases hc : c = p
      · subst hc; exact absurd e c1
      · rw [upd_ne hc] at z; exact .inr z
theorem KeyOf.rp {d : D} {k : Key} (h : KeyOf d k) : Rp K F C (kV k) d := by
  cases d with
  | int i =>
    cases k with
    | inl j => cases (show i = j from h); exact .int i
    | inr _ => exact h.elim
  | str s =>
    cases k with
    | inl _ => exact h.elim
    | inr t => cases (show t = SS s from h); exact .str s
  | _ => exact h.elim
theorem KvOk.key : ∀ {kvs : List (Key × V)} {ks ds : List D} {i : Nat} {x : D}, KvOk K F C kvs ks ds → ks[i]? = some x → ∃ k v, kvs[i]? = some (k, v) ∧ KeyOf x k
  | _, _, _, _, _, .nil, e => by simp at e
  | _, _, _, 0, _, .cons hk _ _, e => by simp at e; subst e; exact ⟨_, _, rfl, hk⟩
  | _, _, _, i + 1, _, .cons _ _ t, e => by
    obtain ⟨k, v, e1, e2⟩ := KvOk.key (i := i) t (by simpa using e)
    exact ⟨k, v, by simpa using e1, e2⟩
/-- keys, one by one -/
theorem wk_keys {P : Hp → Hp → Option Addr → Prop} {od : Obj} {kvs : List (Key × V)} {ks ds : List D} {F0 : Hp} {C0 : Option Addr} (t : KvOk K F0 C0 kvs ks ds) (h : ∀ H F C, P H F C → HF H F C ∧ H p = some (.frz od (.dK kvs))) : Wk K P (Itk p od kvs) ks := fun i H F C q => by
  obtain ⟨hf, hp⟩ := h H F C q
  refine ⟨fun d e => ⟨⟨hp, ?_⟩, fun x H' y => ?_⟩, fun e => ⟨hp, by rw [t.len.1]; omega⟩⟩
  · have := (List.getElem?_eq_some_iff.mp e).1
    rw [t.len.1]
    exact this
  · obtain ⟨rfl, k, v, e1, rfl⟩ := y
    obtain ⟨k', v', e1', e2⟩ := t.key e
    rw [e1] at e1'
    cases e1'
    exact ⟨F, hf.refl, e2.rp⟩
end
section
variable {X : Cx} {e : Expr} {f : FE} {i : Nat} {x : Str} {pos : Pos}
theorem c_lock (h : CF X e f) : CF X e (fLock i f) := pe_mono (pe_lock h) fun σ H Q ⟨B, F, C, ρ, E, q⟩ => by
  unfold fLock at q
  cases e : ρ[i]? with
  | none => rw [e] at q; exact q.elim
  | some s =>
    rw [e] at q
    cases s with
    | od ks ds =>
      obtain ⟨p, kvs, e1, hp, t, b, fp, cp⟩ := E.slot i _ e
      refine ⟨p, .dK kvs, hp, trivial, fun od => ⟨B, F, C, _, E.putS (u := .frz od (.dK kvs)) e (p := p) e1 (s' := .ol ks ds) ⟨p, kvs, od, e1, upd_same, t, b, fp, cp⟩ (fun a w => w), M.All.mono (fun d q v H' F' C' s r => ?_) q⟩⟩
      obtain ⟨h1, _, _, s2⟩ := s.unlock hp fp cp
      exact ⟨h1, q v _ F' C' s2 r⟩
    | _ => exact q.elim
theorem cj_dict {tg : Expr} (h : PE X (.Name x pos) (tVar i)) : CJ X tg (.Name x pos) (iDict i) := pi_mono (pi_keys h) fun σ H R ⟨B, F, C, ρ, E, q⟩ => by
  unfold iDict at q
  cases e : ρ[i]? with
  | none => rw [e] at q; exact q.elim
  | some s =>
    rw [e] at q
    cases s with
    | ol ks ds =>
      obtain ⟨p, kvs, od, e1, hp, t, b, fp, cp⟩ := E.slot i _ e
      obtain ⟨hz, q⟩ := all_if q
      exact ⟨.ref p, e1, p, od, rfl, .inl ⟨kvs, hp, q _ H F C E.hf.refl (Nat.le_of_lt (fits hz)) (wk_keys t fun H2 F2 C2 pc => ⟨pc.2.hf, pc.2.same p _ cp hp⟩)⟩⟩
    | _ => exact q.elim
end
/-! a statement walks a dict: it counts among what nobody changes meanwhile -/
def er (p : Addr) (F : Hp) : Hp := fun b => if b = p then none else F b
theorem er_same {p : Addr} {F : Hp} : er p F p = none := if_pos rfl
theorem er_ne {p b : Addr} {F : Hp} (h : b ≠ p) : er p F b = F b := if_neg h
section
variable {K : PySem.W.Frag} {H F B : Hp} {C : Option Addr} {p : Addr} {od : Obj} {kvs : List (Key × V)}
mutual
theorem Rp.er (hp : F p = some (.frz od (.dK kvs))) : ∀ {v : V} {d : D}, Rp K F C v d → Rp K (er p F) C v d
  | _, _, .non => .non
  | _, _, .bl b => .bl b
  | _, _, .int i => .int i
  | _, _, .str s => .str s
  | _, _, .tup (a := a) h r => .tup (by
      rcases h with (h | ⟨o, h⟩) | h
      · exact .inl (.inl (by rw [er_ne (fun z => by rw [z, hp] at h; cases h)]; exact h))
      · exact .inl (.inr ⟨o, by rw [er_ne (fun z => by rw [z, hp] at h; cases h)]; exact h⟩)
      · exact .inr h) (Rps.er hp r)
  | _, _, .lst h r => .lst (by rw [er_ne (fun z => by rw [z, hp] at h; cases h)]; exact h) (Rps.er hp r)
  | _, _, .scr h => .scr (by
      rcases h with (h | ⟨o, h⟩) | h
      · exact .inl (.inl (by rw [er_ne (fun z => by rw [z, hp] at h; cases h)]; exact h))
      · exact .inl (.inr ⟨o, by rw [er_ne (fun z => by rw [z, hp] at h; cases h)]; exact h⟩)
      · exact .inr h)
  | _, _, .cup h => .cup h
theorem Rps.er (hp : F p = some (.frz od (.dK kvs))) : ∀ {v : List V} {d : List D}, Rps K F C v d → Rps K (er p F) C v d
  | _, _, .nil => .nil
  | _, _, .cons r t => .cons (Rp.er hp r) (Rps.er hp t)
end
theorem KvOk.er (hp : F p = some (.frz od (.dK kvs))) : ∀ {m : List (Key × V)} {ks ds : List D}, KvOk K F C m ks ds → KvOk K (er p F) C m ks ds
  | _, _, _, .nil => .nil
  | _, _, _, .cons a b t => .cons a (b.er hp) (t.er hp)
theorem NsOk.er (hp : F p = some (.frz od (.dK kvs))) : ∀ {ps : List Addr} {xss : List (List D)}, NsOk K B H F C ps xss → NsOk K B H (er p F) C ps xss
  | _, _, .nil => .nil
  | _, _, .cons h r b f c n t => .cons h (r.er hp) b (by
      unfold WK.er
      split
      · rfl
      · exact f) c n (t.er hp)
theorem SlOk.er {o : Option (Option V)} {s : Sl} (hp : F p = some (.frz od (.dK kvs))) (h : SlOk K B H F C o s) : SlOk K B H (er p F) C o s := by
  have ee : ∀ {a}, F a = none → WK.er p F a = none := fun {a} f => by
    unfold WK.er
    split
    · rfl
    · exact f
  cases s with
  | no => trivial
  | fz d => obtain ⟨v, e, r⟩ := h; exact ⟨v, e, r.er hp⟩
  | ow xs => obtain ⟨a, vs, e, h, r, b, f, c⟩ := h; exact ⟨a, vs, e, h, r.er hp, b, ee f, c⟩
  | od xs ds => obtain ⟨a, vs, e, h, r, b, f, c⟩ := h; exact ⟨a, vs, e, h, r.er hp, b, ee f, c⟩
  | ol xs ds => obtain ⟨a, vs, o, e, h, r, b, f, c⟩ := h; exact ⟨a, vs, o, e, h, r.er hp, b, ee f, c⟩
  | on xss => obtain ⟨a, ps, e, h, b, f, c, n, t⟩ := h; exact ⟨a, ps, e, h, b, ee f, c, n, t.er hp⟩
theorem HF.er (h : HF H F C) (hp : F p = some (.frz od (.dK kvs))) {u : HO} : HF (upd H p u) (er p F) C := by
  refine ⟨fun b o e => ?_, fun c e => ?_⟩
  · by_cases hb : b = p
    · subst hb; rw [er_same] at e; cases e
    · rw [er_ne hb] at e; rw [upd_ne hb]; exact h.sub b o e
  · obtain ⟨⟨x, y, z⟩, w⟩ := h.cup c e
    have hc : c ≠ p := fun q => by rw [q, hp] at w; cases w
    exact ⟨⟨x, y, by rw [upd_ne hc]; exact z⟩, by rw [er_ne hc]; exact w⟩
theorem EnvOk.er {σ : L2.St} {ρ : Ev} (E : EnvOk K B σ H F C ρ) (hp : F p = some (.frz od (.dK kvs))) (bp : B p = none) {u : HO} : EnvOk K B σ (upd H p u) (er p F) C ρ := by
  have hne : ∀ (i : Nat) (x : Sl), ρ[i]? = some x → ∀ a, Own H σ[i]? x a → a ≠ p := fun i x e a wa z => by
    have := ((E.slot i x e).facts wa).2.1
    rw [z, hp] at this
    cases this
  have hH : ∀ (i : Nat) (x : Sl), ρ[i]? = some x → ∀ a, Own H σ[i]? x a → upd H p u a = H a := fun i x e a wa => upd_ne (hne i x e a wa)
  refine ⟨E.hf.er hp, fun b o e => ?_, E.cupB, E.len, fun i x e => ?_, fun i j a s1 s2 n e1 e2 w1 w2 => ?_⟩
  · rw [upd_ne (ne_of_none e bp)]; exact E.base b o e
  · have f := fun a wa => (E.slot i x e).facts (a := a) wa
    have h1 := (E.slot i x e).er hp
    refine h1.keep (hH i x e) (fun a wa => (f a wa).1) (fun a wa => ?_) (fun a wa => (f a wa).2.2.1) (Same.refl _) (fun _ z => z)
    rw [er_ne (hne i x e a wa)]
    exact (f a wa).2.1
  · exact E.apart i j a s1 s2 n e1 e2 (Own.back (E.slot i s1 e1) (hH i s1 e1) w1) (Own.back (E.slot j s2 e2) (hH j s2 e2) w2)
end
section
variable {X : Cx} {i : Nat} {x : Str} {pos npos : Pos} {tg : Expr} {gt : FG} {is : List Nat} {s : FS}
theorem forD_go {D : Ends} {σ : L2.St} {H : Hp} (h : tX X.K (sForD i gt s) D σ H) : tLock (tFor (iKeys (tVar i)) (tTg X.K is gt) (tX X.K s)) D σ H := by
  obtain ⟨B, F, C, ρ, E, q⟩ := h
  unfold sForD at q
  cases e : ρ[i]? with
  | none => rw [e] at q; exact q.elim
  | some sl =>
    rw [e] at q
    cases sl with
    | od ks ds =>
      obtain ⟨hz, q⟩ := all_if q
      obtain ⟨p, kvs, e1, hp, t, b, fp, cp⟩ := E.slot i _ e
      refine ⟨p, .dK kvs, hp, trivial, fun od => ?_⟩
      have E0 := E.putS (u := .frz od (.dK kvs)) e (p := p) e1 (s' := .no) trivial (fun a w => w.elim)
      have sm : Same F (upd F p (.frz od (.dK kvs))) := upd_sub fp
      have oth : ∀ (k : Nat) (y : Sl), (ρ.set i .no)[k]? = some y → ∀ a, Own (upd H p (.frz od (.dK kvs))) σ[k]? y a → a ≠ p := fun k y ek a wa z => by
        subst z
        by_cases hk : i = k
        · subst hk
          rw [List.getElem?_set_self (List.getElem?_eq_some_iff.mp e).1] at ek
          cases ek
          exact wa
        · rw [List.getElem?_set_ne hk] at ek
          refine E.apart i k a _ y hk e ek e1 (Own.back (E.slot k y ek) (fun a' wa' => ?_) wa)
          rw [upd_ne]
          intro z
          subst z
          exact E.apart i k a' _ y hk e ek e1 wa'
      have E1 : EnvOk X.K B σ (upd H p (.frz od (.dK kvs))) (upd F p (.frz od (.dK kvs))) C (ρ.set i .no) := by
        refine ⟨⟨fun a o z => ?_, fun c z => ⟨(E0.hf.cup c z).1, ?_⟩⟩, E0.base, E0.cupB, E0.len, fun k y ek => ?_, E0.apart⟩
        · by_cases ha : a = p
          · subst ha; rw [upd_same] at z ⊢; exact z
          · rw [upd_ne ha] at z; exact E0.hf.sub a o z
        · rw [upd_ne (fun q : c = p => cp (q ▸ z))]; exact (E0.hf.cup c z).2
        · have f := fun a wa => (E0.slot k y ek).facts (a := a) wa
          refine (E0.slot k y ek).keep (fun _ _ => rfl) (fun a wa => (f a wa).1) (fun a wa => ?_) (fun a wa => (f a wa).2.2.1) sm (fun _ z => z)
          rw [upd_ne (oth k y ek a wa)]
          exact (f a wa).2.1
      refine ⟨.ref p, e1, p, od, rfl, .inl ⟨kvs, upd_same, loop_go E1 (wk_keys t fun H2 F2 C2 pl => ⟨pl.1, pl.1.sub _ _ (pl.2.1 _ _ upd_same)⟩) (M.All.mono (fun fl z => ?_) q)⟩⟩
      have gr : ∀ {F' : Hp} {C' : Option Addr}, Grow B (upd F p (.frz od (.dK kvs))) C F' C' → F' p = some (.frz od (.dK kvs)) ∧ Grow B F C (er p F') C' := fun {F' C'} g => by
        refine ⟨g.frz _ _ upd_same, ⟨fun a o w => ?_, g.cup, fun a n w => ?_⟩⟩
        · rw [er_ne (ne_of_none w fp)]; exact g.frz a o (sm a o w)
        · by_cases ha : a = p
          · subst ha; exact er_same
          · rw [er_ne ha]; exact g.new a n (by rw [upd_ne ha]; exact w)
      cases fl with
      | nx ρ' => exact fun σ' H' F' C' E' g => ⟨E'.hf.sub _ _ (gr g).1, z σ' _ _ C' (E'.er (gr g).1 b) (gr g).2⟩
      | bk ρ' => exact fun σ' H' F' C' E' g => ⟨E'.hf.sub _ _ (gr g).1, z σ' _ _ C' (E'.er (gr g).1 b) (gr g).2⟩
      | ct ρ' => exact fun σ' H' F' C' E' g => ⟨E'.hf.sub _ _ (gr g).1, z σ' _ _ C' (E'.er (gr g).1 b) (gr g).2⟩
      | rt d => exact fun v H' F' C' hf sb cb g r => ⟨hf.sub _ _ (gr g).1, z v _ _ C' (hf.er (gr g).1) (fun a o w => by rw [upd_ne (ne_of_none w b)]; exact sb a o w) cb (gr g).2 (r.er (gr g).1)⟩
    | _ => exact q.elim
theorem s_forD {body : List Stmt} (hp : PassesOwn (model X.prog X.w) X.A X.env X.xe) (hc : X.calm = true) (h : PE X (.Name x npos) (tVar i)) (hg : CGt X is tg gt) (hb : CSs X body s) (hs : ∀ y, foldedSetIterable (.Name x npos) X.env y = pure y := by intro _; rfl) :
    CS X (.For tg (.Name x npos) body [] pos) (sForD i gt s) := ps_mono (ps_lock (ps_for hp hc (pi_keys h) hg hb hs)) fun _ _ _ h => forD_go h
end
end WK
end

section
set_option Elab.async false
set_option linter.all false
set_option maxRecDepth 100000
/-! sorted(d); two dicts at once. -/
namespace WK
open PySem L2
theorem strs_back : ∀ {ks : List D} {ss : List (List Nat)}, asStrs ks = some ss → ks = ss.map .str
  | [], ss, e => by cases e; rfl
  | k :: ks, ss, e => by
    cases k with
    | str s =>
      have e : (asStrs ks).map (s :: ·) = some ss := e
      cases h : asStrs ks with
      | none => rw [h] at e; cases e
      | some ts => rw [h] at e; cases e; rw [strs_back h]; rfl
    | _ => cases e
theorem ints_back : ∀ {ks : List D} {ss : List Int}, asInts ks = some ss → ks = ss.map .int
  | [], ss, e => by cases e; rfl
  | k :: ks, ss, e => by
    cases k with
    | int s =>
      have e : (asInts ks).map (s :: ·) = some ss := e
      cases h : asInts ks with
      | none => rw [h] at e; cases e
      | some ts => rw [h] at e; cases e; rw [ints_back h]; rfl
    | _ => cases e
section
variable {K : PySem.W.Frag} {F : Hp} {C : Option Addr}
theorem KvOk.strs : ∀ {kvs : List (Key × V)} {ss : List (List Nat)} {ds : List D}, KvOk K F C kvs (ss.map .str) ds → kvs.map (·.1) = (ss.map SS).map Sum.inr
  | [], [], _, .nil => rfl
  | (k, v) :: kvs, s :: ss, _, .cons hk _ t => by
    cases k with
    | inl _ => exact hk.elim
    | inr u =>
      have hk : u = SS s := hk
      subst hk
      rw [List.map_cons, t.strs]
      rfl
theorem KvOk.ints : ∀ {kvs : List (Key × V)} {ss : List Int} {ds : List D}, KvOk K F C kvs (ss.map .int) ds → kvs.map (·.1) = ss.map Sum.inl
  | [], [], _, .nil => rfl
  | (k, v) :: kvs, s :: ss, _, .cons hk _ t => by
    cases k with
    | inr _ => exact hk.elim
    | inl u =>
      have hk : s = u := hk
      subst hk
      rw [List.map_cons, t.ints]
      rfl
end
theorem rising_le : ∀ (x : Str) (r : List Str), PyProof.Rows.risingS x r = true → (x :: r).Pairwise fun a b => a.cps.toList ≤ b.cps.toList
  | _, [], _ => List.pairwise_singleton _ _
  | x, y :: r, h => by
    have h : (!PySem.Spec.ltCps y.cps.toList x.cps.toList && PyProof.Rows.risingS y r) = true := h
    rw [Bool.and_eq_true, PyProof.Rows.ltCps_eq] at h
    have ih := rising_le y r h.2
    have xy : x.cps.toList ≤ y.cps.toList := List.not_lt.mp (by simpa using h.1)
    refine List.pairwise_cons.mpr ⟨fun z hz => ?_, ih⟩
    rcases List.mem_cons.mp hz with e | hz
    · subst e; exact xy
    · exact List.le_trans xy ((List.pairwise_cons.mp ih).1 z hz)
theorem sorted_le {l : List Str} (h : PyProof.Rows.sortedS l = true) : l.Pairwise fun a b => a.cps.toList ≤ b.cps.toList := by
  cases l with
  | nil => exact .nil
  | cons x r => exact rising_le x r h
theorem sortS_uniq {zs ss : List (List Nat)} (p : zs.Perm ss) (h : zs.Pairwise (· ≤ ·)) : zs = sortS ss := by
  refine List.Perm.eq_of_pairwise (le := fun a b => a ≤ b) (fun x y _ _ h k => List.le_antisymm h k) h ?_ (p.trans (List.mergeSort_perm _ _).symm)
  exact (List.pairwise_mergeSort (le := fun a b : List Nat => decide (a ≤ b)) (fun a b c h k => by
    simp only [decide_eq_true_eq] at *
    exact List.le_trans h k) (fun a b => by
    simp only [Bool.or_eq_true, decide_eq_true_eq]
    exact List.le_total a b) ss).imp fun h => by simpa using h
theorem bi_sortedD {X : Cx} (hk : X.calm = true) : CallR X (.builtin "sorted") (rC1 X.K RN gSortedD) := by
  intro pins s σ H vs us Q I r h
  obtain ⟨x, e, F, C, a, hf, ra, q⟩ := h
  subst e
  cases a with
  | dct ks ds =>
    obtain ⟨hz, q2⟩ := all_if q
    obtain ⟨p, kvs, rfl, hp, cp, t⟩ := ra.dct
    cases es : asStrs ks with
    | some ss =>
      rw [es] at q2
      have ek := strs_back es
      subst ek
      refine call_sortedD hk pins s σ H _ us Q I r ⟨p, kvs, ss.map SS, rfl, hp, t.strs, by simpa using hz, fun ys a pm sr na => ?_⟩
      have e1 : ys = (ys.map fun s : Str => s.cps.toList).map SS := by
        rw [List.map_map]
        conv => lhs; rw [← List.map_id ys]
        exact List.map_congr_left fun s _ => rfl
      have e2 : (ys.map fun s : Str => s.cps.toList) = sortS ss := sortS_uniq (by
        have := pm.map fun s : Str => s.cps.toList
        rw [List.map_map] at this
        have e3 : ss.map ((fun s : Str => s.cps.toList) ∘ SS) = ss := by
          conv => rhs; rw [← List.map_id ss]
          exact List.map_congr_left fun s _ => rfl
        rwa [e3] at this) (List.pairwise_map.mpr (sorted_le sr))
      rw [e1, e2, List.map_map]
      refine outN hf q2 ?_ a na
      generalize sortS ss = zs
      induction zs with
      | nil => exact .nil
      | cons z zs ih => exact .cons (.str z) ih
    | none =>
      rw [es] at q2
      cases ei : asInts ks with
      | none => rw [ei] at q2; exact q2.elim
      | some ns =>
        rw [ei] at q2
        have ek := ints_back ei
        subst ek
        refine call_sortedDI hk pins s σ H _ us Q I r ⟨p, kvs, ns, rfl, hp, t.ints, by simpa using hz, fun ys a pm sr na => ?_⟩
        have e2 : ys = isort ns := sorted_uniq (pm.trans (isort_perm ns).symm) sr (isort_le ns)
        rw [e2]
        exact outN hf q2 (Rps.ofInts _) a na
  | _ => exact q.elim
theorem NoOwn.setOw {H : Hp} {σ : L2.St} {ρ : Ev} {i : Nat} {p p2 : Addr} {xs : List D} (no : NoOwn H σ ρ p2) (hl : σ.length = ρ.length) (ne : p ≠ p2) : NoOwn H (σ.set i (some (.ref p))) (ρ.set i (.ow xs)) p2 := fun k y ek wk => by
  by_cases hk : i = k
  · subst hk
    by_cases hi : i < ρ.length
    · rw [List.getElem?_set_self hi] at ek
      cases ek
      rw [List.getElem?_set_self (by rw [hl]; exact hi)] at wk
      have wk : some (some (V.ref p)) = some (some (V.ref p2)) := wk
      cases wk
      exact ne rfl
    · rw [List.getElem?_eq_none (by simpa using hi)] at ek
      cases ek
  · rw [List.getElem?_set_ne hk] at ek wk
    exact no k y ek wk
section
variable {X : Cx} {st : Stmt} {i j l : Nat} {f g h : FE}
theorem s_par3N (h3 : PS X st (tPar3 i j l (tCons (tG X.K RN f) (tCons (tG X.K RN g) (tCons (tG X.K RN h) tNil))))) : CS X st (sPar3N i j l f g h) := ps_mono h3 fun D σ H ⟨B, F, C, ρ, E, q⟩ => by
  refine ⟨B, F, C, ρ, E, (M.all_bind.mp q).mono fun d q v H1 F1 C1 s1 r1 => ?_⟩
  refine ⟨B, F1, C1, ρ, E.step s1, (M.all_bind.mp q).mono fun d2 q v2 H2 F2 C2 s2 r2 => ?_⟩
  have s12 := s1.trans E.hf s2
  refine ⟨B, F2, C2, ρ, E.step s12, (M.all_bind.mp q).mono fun d3 q v3 H3 F3 C3 s3 r3 => ?_⟩
  obtain ⟨p1, w1, x1, rfl, rfl, np1, hp1, fp1, cp1, t1⟩ := r1
  obtain ⟨p2, w2, x2, rfl, rfl, np2, hp2, fp2, cp2, t2⟩ := r2
  obtain ⟨p3, w3, x3, rfl, rfl, np3, hp3, fp3, cp3, t3⟩ := r3
  obtain ⟨hi, q⟩ := all_if (m := M.ret (Fl.nx (((ρ.set i (.ow x1)).set j (.ow x2)).set l (.ow x3)))) q
  have s23 := s2.trans s1.hf s3
  have s13 := s12.trans E.hf s3
  have E3 := E.step s13
  have old : ∀ {H H' F F' : Hp} {C C' : Option Addr} {p : Addr} {o : HO}, Step H F C H' F' C' → H p = some o → C ≠ some p → C' ≠ some p := fun {H H' F F' C C' p o} s hp cp z => by
    rcases s.cupN p z with z | z
    · exact cp z
    · rw [hp] at z; cases z
  have b1 : B p1 = none := E.base.free np1
  have b2 : B p2 = none := (E.step s1).base.free np2
  have b3 : B p3 = none := (E.step s12).base.free np3
  have h12 : p1 ≠ p2 := fun z => by subst z; rw [hp1] at np2; cases np2
  have h13 : p1 ≠ p3 := fun z => by subst z; rw [s2.same p1 _ cp1 hp1] at np3; cases np3
  have h23 : p2 ≠ p3 := fun z => by subst z; rw [hp2] at np3; cases np3
  have hp1' := s23.same p1 _ cp1 hp1
  have hp2' := s3.same p2 _ cp2 hp2
  have n1 : NoOwn H3 σ ρ p1 := E.noOwn s13 np1
  have n2 : NoOwn H3 σ ρ p2 := (E.step s1).noOwn s23 np2
  have n3 : NoOwn H3 σ ρ p3 := (E.step s12).noOwn s3 np3
  have G1 := E3.setOwn (i := i) hp1' (t1.mono s23.frz s23.cup) b1 (s23.new p1 (by rw [hp1]; simp) fp1) (old s23 hp1 cp1) n1
  have G2 := G1.setOwn (i := j) hp2' (t2.mono s3.frz s3.cup) b2 (s3.new p2 (by rw [hp2]; simp) fp2) (old s3 hp2 cp2) (n2.setOw E.len h12)
  have G3 := G2.setOwn (i := l) hp3 t3 b3 fp3 cp3 ((n3.setOw E.len h13).setOw G1.len h23)
  exact ⟨.ref p1, .ref p2, .ref p3, rfl, q _ H3 F3 C3 G3 (E.grow s13)⟩
theorem s_parD (hij : i ≠ j) (h2 : PS X st (tPar i j (tCons (tG X.K RD f) (tCons (tG X.K RD g) tNil)))) : CS X st (sParD i j f g) := ps_mono h2 fun D σ H ⟨B, F, C, ρ, E, q⟩ => by
  refine ⟨B, F, C, ρ, E, (M.all_bind.mp q).mono fun d q v H1 F1 C1 s1 r1 => ?_⟩
  refine ⟨B, F1, C1, ρ, E.step s1, (M.all_bind.mp q).mono fun d2 q v2 H2 F2 C2 s2 r2 => ?_⟩
  obtain ⟨p, kvs, ks, ds, rfl, rfl, np, hp, fp, cp, t⟩ := r1
  obtain ⟨p2, kvs2, ks2, ds2, rfl, rfl, np2, hp2, fp2, cp2, t2⟩ := r2
  have q : (if i < ρ.length ∧ j < ρ.length then M.ret (Fl.nx ((ρ.set i (.od ks ds)).set j (.od ks2 ds2))) else .bad).All _ := q
  obtain ⟨hi, q⟩ := all_if q
  have s12 := s1.trans E.hf s2
  have E2 := E.step s12
  have cpp : C2 ≠ some p := fun z => by
    rcases s2.cupN p z with z | z
    · exact cp z
    · rw [hp] at z; cases z
  have E3 := E2.setOwnD (i := i) (s2.same p _ cp hp) (t.mono s2.frz s2.cup) (E.base.free np) (s2.new p (by rw [hp]; simp) fp) cpp (E.noOwn s12 np)
  have hne : p ≠ p2 := fun z => by subst z; rw [hp] at np2; cases np2
  refine ⟨.ref p, .ref p2, rfl, q _ H2 F2 C2 (E3.setOwnD hp2 t2 ((E.step s1).base.free np2) fp2 cp2 fun k y ek wk => ?_) (E.grow s12)⟩
  by_cases hk : i = k
  · subst hk
    have hi2 : i < ρ.length := hi.1
    rw [List.getElem?_set_self hi2] at ek
    cases ek
    rw [List.getElem?_set_self (by rw [E.len]; exact hi2)] at wk
    have wk : some (some (V.ref p)) = some (some (V.ref p2)) := wk
    cases wk
    exact hne rfl
  · rw [List.getElem?_set_ne hk] at ek wk
    exact (E.step s1).noOwn s2 np2 k y ek wk
end
end WK
namespace WK
open PySem L2
theorem hu1 {k : Nat} {A : Around} (hr : Room k A) : A.units + 1 < cLine := by have := hr.units; omega
end WK
end

section
set_option Elab.async false
set_option linter.all false
set_option maxRecDepth 100000
namespace WK
open PySem L2 PySem.Spec PyProof.Rows
theorem fills_list_add : fillsNumberSlot (.type "list") "add" = pure false := by kernel_rfl
theorem seqI_list : seqSlot? (.type "list") (dunderI "add") = pure (some (.builtin "list.__iadd__")) := by kernel_rfl
theorem fillsI_list : fillsInplaceSlot (.type "list") "add" (Operator.Add == .Add) = pure false := by kernel_rfl
def ipL : TIp := fun x y H Q => ∃ l b xs zs, x = .ref l ∧ y = .ref b ∧ H l = some (.lst xs) ∧ H b = some (.lst zs) ∧ xs.length + zs.length ≤ sizeLine ∧ Q (.ref l) (upd H l (.lst (xs ++ zs)))
theorem ip_ext {X : Cx} : PIp X .Add ipL := by
  intro pins s σ H x y v u Q I rx ry h
  obtain ⟨l, b, xs, zs, rfl, rfl, hH, hB, hz, q⟩ := h
  cases rx
  cases ry
  obtain ⟨z, its, n, r, hl, e⟩ := I.lstM hH
  obtain ⟨z2, its2, n2, r2, hl2, e2⟩ := I.lstM hB
  have hsz : its.toArray.size + its2.toArray.size ≤ sizeLine := by rw [List.size_toArray, List.size_toArray]; omega
  have hlong : ¬ (!its.toArray.isEmpty && Builtin.List.listTooLong (its.toArray.size + its2.toArray.size)) = true := by
    rw [notLongL hsz, Bool.and_false]
    exact Bool.false_ne_true
  have T1 : s.TypeIs (.ref l) "list" := ⟨_, e, rfl⟩
  have T2 : s.TypeIs (.ref b) "list" := ⟨_, e2, rfl⟩
  unfold inplaceOp
  refine wpAny_holding ?_
  refine wpAny_bind (wpAny_typeOf T1 (wpAny_bind (wpAny_of_eq fillsI_list ?_)))
  show wpAny _ _ (if false = true then _ else _) _ _ s
  rw [if_neg Bool.false_ne_true]
  refine wpAny_bind (PyProof.Rows.binaryOp1_none (nm := "add") T1 T2 fills_list_add ?_)
  refine wpAny_bind (wpAny_of_eq seqI_list ?_)
  refine wpAny_bind (wpAny_rule ?_)
  refine call_meets F.slot_list_iadd T1 F.entry_list_iadd (F.args_list_iadd_2 _ _)
    (AutoSeq1.list___iadd___list_list_0 l its.toArray n b its2.toArray n2 hlong (by rw [List.size_toArray]; omega) (by omega)) ⟨e, e2, ?_⟩
  refine ⟨.ref l, _, I.lset (its' := its ++ its2) hH e (by simp) (r.append r2) ?_, rfl, q⟩
  rw [List.length_append]
  omega
theorem set_self {σ : L2.St} {i : Nat} {o : Option V} (h : σ[i]? = some o) : σ.set i o = σ := by
  apply List.ext_getElem?
  intro j
  by_cases e : i = j
  · subst e
    rw [List.getElem?_set_self (List.getElem?_eq_some_iff.mp h).1, h]
  · rw [List.getElem?_set_ne e]
section
variable {X : Cx} {e : Expr} {f g : FE} {s t : FS} {pos : Pos} {i j : Nat} {x : Str}
theorem ext_go {D : Ends} {σ : L2.St} {H : Hp} (h : tX X.K (sExt i f) D σ H) : tAug i (tG X.K RF f) ipL D σ H := by
  obtain ⟨B, F, C, ρ, E, q⟩ := h
  unfold sExt at q
  cases e : ρ[i]? with
  | none => rw [e] at q; exact q.elim
  | some s =>
    rw [e] at q
    cases s with
    | ow xs =>
      obtain ⟨p, vs, e1, hp, rs, b, fp, cp⟩ := E.slot i _ e
      refine ⟨.ref p, e1, B, F, C, ρ, E, (M.all_bind.mp q).mono fun d q v H1 F1 C1 s1 r1 => ?_⟩
      cases d with
      | lst ys =>
        obtain ⟨hz, q⟩ := all_if q
        cases r1 with
        | lst hb rb =>
          have hz2 := hz
          rw [← rs.length, ← rb.length] at hz2
          refine ⟨p, _, vs, _, rfl, rfl, s1.same p _ cp hp, s1.hf.sub _ _ hb, Nat.le_trans hz2 (by decide), ?_⟩
          show D.nx (σ.set i (some (V.ref p))) _
          rw [set_self e1]
          exact q _ _ F1 C1 ((E.step s1).put e e1 ((rs.mono s1.frz s1.cup).append rb)) (E.grow s1)
      | _ => exact q.elim
    | _ => exact q.elim
theorem s_ext {p : Pos} (hN : X.N.Nodup) (hi : X.N[i]? = some x) (hx : Loc X.env.scope x) (he : CF X e f) (hf : X.fn x = true ∨ X.env.scope.names.lookup x = some .local := by first | exact .inl rfl | exact .inr rfl | assumption) :
    CS X (.AugAssign (.Name x p) .Add e pos) (sExt i f) := ps_mono (ps_aug hN hi hx he ip_ext hf) fun _ _ _ h => ext_go h
/-! ### list(range(..)) -/
theorem rgV_rngL {K : PySem.W.Frag} {F : Hp} {C : Option Addr} (a b : Int) : Rps K F C (rgV a b) (rngL a (b - a).toNat) := by
  have e1 : rgV a b = ((List.range (b - a).toNat).map fun (k : Nat) => a + (k : Int)).map V.int := by
    unfold rgV
    rw [List.map_map]
    rfl
  have e2 : rngL a (b - a).toNat = ((List.range (b - a).toNat).map fun (k : Nat) => a + (k : Int)).map D.int := by
    unfold rngL
    rw [List.map_map]
    rfl
  rw [e1, e2]
  exact Rps.ofInts _
theorem c_lrng1 {a : Expr} {p p2 pos2 : Pos} (hc : X.calm = true) (hg : Gl X "list") (hm : X.mg "list" = none) (hg2 : Gl X "range") (hm2 : X.mg "range" = none) (ha : CB X a f) (na : starEach [a] X.env = (false, eval a X.env) :: starEach [] X.env := by rfl)
    (nl : starEach [.Call (.Name "range" p2) [a] [] pos2] X.env = (false, eval (.Call (.Name "range" p2) [a] [] pos2) X.env) :: starEach [] X.env := by rfl) :
    CN X (.Call (.Name "list" p) [.Call (.Name "range" p2) [a] [] pos2] [] pos) (fUn gLRng1 f) := pe_mono (pe_listRg hc hg hm (prg_1 hg2 hm2 ha na) nl) fun σ H Q ⟨B, F, C, ρ, E, q⟩ => by
  refine ⟨B, F, C, ρ, E, (M.all_bind.mp q).mono fun d q v H1 F1 C1 s1 r1 => ?_⟩
  cases d with
  | int n =>
    obtain ⟨hz, q⟩ := all_if (m := M.ret (D.lst (rngL 0 n.toNat))) q
    refine ⟨n, r1.int, ⟨by omega, by omega, by omega, by omega, by omega⟩, fun p np => ?_⟩
    refine q _ _ F1 C1 (s1.trans E.hf (s1.hf.laid np)) ⟨p, _, _, rfl, rfl, ?_, upd_same, (s1.hf.notNew np).1, (s1.hf.notNew np).2, ?_⟩
    · cases z : H p with
      | none => rfl
      | some o => exact absurd np (s1.there E.hf (by rw [z]; simp))
    · have := rgV_rngL (K := X.K) (F := F1) (C := C1) 0 n
      rwa [Int.sub_zero] at this
  | _ => exact q.elim
theorem c_lrng2 {a b : Expr} {p p2 pos2 : Pos} (hc : X.calm = true) (hg : Gl X "list") (hm : X.mg "list" = none) (hg2 : Gl X "range") (hm2 : X.mg "range" = none) (ha : CB X a f) (hb : CB X b g)
    (na : starEach [a, b] X.env = (false, eval a X.env) :: starEach [b] X.env := by rfl) (nb : starEach [b] X.env = (false, eval b X.env) :: starEach [] X.env := by rfl) (hp : (backTo pos2 (starEach [b] X.env)).any (·.1) = false := by rfl)
    (nl : starEach [.Call (.Name "range" p2) [a, b] [] pos2] X.env = (false, eval (.Call (.Name "range" p2) [a, b] [] pos2) X.env) :: starEach [] X.env := by rfl) :
    CN X (.Call (.Name "list" p) [.Call (.Name "range" p2) [a, b] [] pos2] [] pos) (fOp gLRng2 f g) := pe_mono (pe_listRg hc hg hm (prg_2 hg2 hm2 ha hb na nb hp) nl) fun σ H Q ⟨B, F, C, ρ, E, q⟩ => by
  refine ⟨B, F, C, ρ, E, (M.all_bind.mp q).mono fun d q v H1 F1 C1 s1 r1 => ⟨B, F1, C1, ρ, E.step s1, (M.all_bind.mp q).mono fun d2 q v2 H2 F2 C2 s2 r2 => ?_⟩⟩
  have r1' := RpB.step r1 s2
  cases d with
  | int n =>
    cases d2 with
    | int m =>
      obtain ⟨hz, q⟩ := all_if (m := M.ret (D.lst (rngL n (m - n).toNat))) q
      have s12 := s1.trans E.hf s2
      refine ⟨n, m, r1.int, r2.int, ⟨by omega, by omega, by omega, by omega, by omega⟩, fun p np => ?_⟩
      refine q _ _ F2 C2 (s12.trans E.hf (s2.hf.laid np)) ⟨p, _, _, rfl, rfl, ?_, upd_same, (s2.hf.notNew np).1, (s2.hf.notNew np).2, rgV_rngL n m⟩
      cases z : H p with
      | none => rfl
      | some o => exact absurd np (s12.there E.hf (by rw [z]; simp))
    | _ => exact q.elim
  | _ => exact q.elim
end
end WK
end

section
set_option Elab.async false
set_option linter.all false
set_option maxRecDepth 100000
/-! Lists of lists of one's own. -/
namespace WK
open PySem L2
section
variable {K : PySem.W.Frag} {B H F H1 F1 : Hp} {C C1 : Option Addr}
theorem NsOk.step {ps : List Addr} {xss : List (List D)} (t : NsOk K B H F C ps xss) (s : Step H F C H1 F1 C1) : NsOk K B H1 F1 C1 ps xss := by
  refine t.keep (fun a ha => ?_) (fun a ha => (t.mem a ha).2.1) (fun a ha => ?_) (fun a ha => ?_) s.frz s.cup
  · obtain ⟨⟨vs, e⟩, _, _, c⟩ := t.mem a ha
    rw [e]; exact s.same a _ c e
  · obtain ⟨⟨vs, e⟩, _, f, _⟩ := t.mem a ha
    exact s.new a (by rw [e]; simp) f
  · obtain ⟨⟨vs, e⟩, _, _, c⟩ := t.mem a ha
    intro z
    rcases s.cupN a z with z | z
    · exact c z
    · rw [e] at z; cases z
theorem NsOk.upd_other {ps : List Addr} {xss : List (List D)} (t : NsOk K B H F C ps xss) {p : Addr} {o : HO} (hp : p ∉ ps) : NsOk K B (upd H p o) F C ps xss :=
  t.keep (fun a ha => upd_ne (fun z => hp (z ▸ ha))) (fun a ha => (t.mem a ha).2.1) (fun a ha => (t.mem a ha).2.2.1) (fun a ha => (t.mem a ha).2.2.2) (Same.refl _) fun _ z => z
theorem NsOk.snoc : ∀ {ps : List Addr} {xss : List (List D)}, NsOk K B H F C ps xss → ∀ {p : Addr} {vs : List V} {xs : List D}, H p = some (.lst vs) → Rps K F C vs xs → B p = none → F p = none → C ≠ some p → p ∉ ps → NsOk K B H F C (ps ++ [p]) (xss ++ [xs])
  | _, _, .nil, p, vs, xs, hp, r, b, f, c, n => .cons hp r b f c (by simp) .nil
  | _, _, .cons hp' r' b' f' c' n' t, p, vs, xs, hp, r, b, f, c, n => by
    refine .cons hp' r' b' f' c' (fun z => ?_) (t.snoc hp r b f c fun z => n (List.mem_cons_of_mem _ z))
    rcases List.mem_append.mp z with z | z
    · exact n' z
    · rw [List.mem_singleton.mp z] at n
      exact n List.mem_cons_self
theorem NsOk.get : ∀ {ps : List Addr} {xss : List (List D)} {k : Nat} {xs : List D}, NsOk K B H F C ps xss → xss[k]? = some xs → ∃ p vs, ps[k]? = some p ∧ H p = some (.lst vs) ∧ Rps K F C vs xs
  | _, _, k, xs, .nil, e => by simp at e
  | _, _, 0, xs, .cons hp r b f c n t, e => by simp at e; subst e; exact ⟨_, _, rfl, hp, r⟩
  | _, _, k + 1, xs, .cons hp r b f c n t, e => by
    obtain ⟨p, vs, h1, h2, h3⟩ := t.get (k := k) (xs := xs) (by simpa using e)
    exact ⟨p, vs, by simpa using h1, h2, h3⟩
theorem NsOk.set : ∀ {ps : List Addr} {xss : List (List D)} {k : Nat} {q : Addr} {ws : List V} {ys : List D}, NsOk K B H F C ps xss → ps[k]? = some q → Rps K F C ws ys → NsOk K B (upd H q (.lst ws)) F C ps (xss.set k ys)
  | _, _, k, q, ws, ys, .nil, e, _ => by simp at e
  | _, _, 0, q, ws, ys, .cons hp r b f c n t, e, rs => by
    simp at e
    subst e
    rw [List.set_cons_zero]
    exact .cons upd_same rs b f c n (t.upd_other n)
  | _, _, k + 1, q, ws, ys, .cons hp r b f c n t, e, rs => by
    rw [List.set_cons_succ]
    have e' := by simpa using e
    have hq : q ∈ _ := List.mem_of_getElem? e'
    exact .cons (by rw [upd_ne (fun z => n (by rw [z]; exact hq))]; exact hp) r b f c n (t.set e' rs)
theorem NsOk.len : ∀ {ps : List Addr} {xss : List (List D)}, NsOk K B H F C ps xss → ps.length = xss.length
  | _, _, .nil => rfl
  | _, _, .cons _ _ _ _ _ _ t => congrArg (· + 1) t.len
end
/-- a new list of new lists -/
abbrev RNN : RK := fun K H0 F H C v d => ∃ (p : Addr) (ps : List Addr) (xss : List (List D)), v = .ref p ∧ d = .lst (xss.map .lst) ∧ H0 p = none ∧ H p = some (.lst (ps.map V.ref)) ∧ F p = none ∧ C ≠ some p ∧ p ∉ ps ∧ NsOk K H0 H F C ps xss
section
variable {X : Cx} {own : List (Str × Nat)} {it : FL} {i j : Nat} {st : Stmt} {f g : FE}
theorem lcN_go (hj : j ∈ own.map (·.2)) {σ : L2.St} {H : Hp} {Q : VK} (h : tG X.K RNN (fLcE it j) σ H Q) : tLc (tI X.K PC it) (tTg X.K [j] (gtName j)) (tT X.K (fC (.bl true))) (tG X.K RN (fArgs gLst fNil)) (own.map (·.2)) σ H Q := by
  obtain ⟨B, F, C, ρ, E, q⟩ := h
  refine ⟨B, F, C, ρ, E, (M.all_bind.mp q).mono fun xs q J H1 F1 C1 s1 hz wk => ?_⟩
  obtain ⟨⟨hz, hjl⟩, q⟩ := all_if (m := M.ret (D.lst (List.replicate xs.length (.lst [])))) q
  intro D nD
  have nF : F1 D = none := s1.hf.sub.free nD
  have nC : C1 ≠ some D := (s1.hf.notNew nD).2
  have nH : H D = none := by
    cases z : H D with
    | none => rfl
    | some o => exact absurd nD (s1.there E.hf (by rw [z]; simp))
  let ρ' := WK.wipe ρ (own.map (·.2))
  let St : Nat → Hp → Prop := fun i H2 => ∃ (F2 : Hp) (C2 : Option Addr) (ps : List Addr), Step H1 F1 C1 H2 F2 C2 ∧ H2 D = some (.lst (ps.map V.ref)) ∧ F2 D = none ∧ C2 ≠ some D ∧ ps.length = i ∧ D ∉ ps ∧ NsOk X.K H H2 F2 C2 ps (List.replicate i [])
  refine ⟨fun i m H2 => m = xs.length - i ∧ i ≤ xs.length ∧ St i H2, ⟨xs.length, by simp, Nat.zero_le _, F1, C1, [], s1.hf.laid nD, upd_same, nF, nC, rfl, by simp, .nil⟩, ?_⟩
  rintro i m H2 ⟨rfl, hi, F2, C2, ps, s2, hD, fD, cD, hps, dps, nk⟩
  have s02 := s1.trans E.hf s2
  obtain ⟨w1, w2⟩ := wk i H2 F2 C2 ⟨s1.hf, s2⟩
  by_cases hlt : i < xs.length
  · have ex : xs[i]? = some xs[i] := List.getElem?_eq_getElem hlt
    obtain ⟨go, yl⟩ := w1 _ ex
    refine .inr ⟨go, St (i + 1), fun H' st => ⟨xs.length - (i + 1), by omega, rfl, hlt, st⟩, fun x H3 y => ?_⟩
    obtain ⟨F3, s3, r3⟩ := yl x H3 y
    have s03 := s02.trans E.hf s3
    have s13 := s2.trans s1.hf s3
    have E3 : EnvOk X.K B (L2.wipe σ (own.map (·.2))) H3 F3 C2 ρ' := (E.step s03).wipe _
    have hD3 := s3.same D _ cD hD
    have fD3 : F3 D = none := s3.new D (by rw [hD]; simp) fD
    have lw : ρ'.length = ρ.length := by rw [← E3.len, ← E.len, L2.wipe_length]
    refine ⟨B, F3, C2, ρ', xs[i], E3, r3, ?_⟩
    refine ⟨ρ'.set j (.fz xs[i]), by unfold gtName; rw [if_pos (by rw [lw]; exact hjl)], fun σ2 E2 w2 => ⟨?_, ?_⟩⟩
    · exact (w2 _ (fun i hi => by rw [List.mem_singleton.mp hi]; exact hj)).trans (wipe_twice _ _)
    · refine ⟨B, F3, C2, _, E2, true, rfl, fun H4 F4 C4 s4 => iteT ⟨B, F4, C4, _, E2.step s4, ?_⟩⟩
      show ((M.ret []).bind gLst).All _
      rw [M.ret_bind]
      unfold gLst fit
      rw [if_pos (show ([] : List WK.D).length ≤ sizeMax from Nat.zero_le _)]
      intro v H5 F5 C5 s5 r5
      obtain ⟨p, vs, xs', rfl, ed, np, hp, fp, cp, rs⟩ := r5
      cases ed
      cases rs
      have s04 := s03.trans E.hf s4
      have s14 := s13.trans s1.hf s4
      have hD4 := s4.same D _ cD hD3
      have fD4 : F4 D = none := s4.new D (by rw [hD3]; simp) fD3
      have cD4 : C4 ≠ some D := fun z => by
        rcases s4.cupN D z with z | z
        · exact cD z
        · rw [hD3] at z; cases z
      have hD5 := s5.same D _ cD4 hD4
      have fD5 : F5 D = none := s5.new D (by rw [hD4]; simp) fD4
      have cD5 : C5 ≠ some D := fun z => by
        rcases s5.cupN D z with z | z
        · exact cD4 z
        · rw [hD4] at z; cases z
      have s15 := s14.trans s1.hf s5
      have nk4 : NsOk X.K H H4 F4 C4 ps (List.replicate i []) := (nk.step s3).step s4
      have pD : p ≠ D := fun z => by rw [z, hD4] at np; cases np
      have pps : p ∉ ps := fun z => by
        obtain ⟨⟨vs, e⟩, _⟩ := nk4.mem p z
        rw [np] at e; cases e
      have nHp : H p = none := by
        cases z : H p with
        | none => rfl
        | some o => exact absurd np (s04.there E.hf (by rw [z]; simp))
      refine ⟨ps.map V.ref, hD5, ?_, F5, C5, ps ++ [p], ?_, ?_, fD5, cD5, by rw [List.length_append, hps]; rfl, ?_, ?_⟩
      · rw [List.length_map, hps]
        exact Nat.lt_trans hlt (Nat.lt_trans hz (by decide))
      · rw [show ps.map V.ref ++ [V.ref p] = (ps ++ [p]).map V.ref by rw [List.map_append]; rfl]
        exact s15.put hD5 fD5 cD5 nD
      · rw [upd_same, List.map_append]
        rfl
      · intro z
        rcases List.mem_append.mp z with z | z
        · exact dps z
        · exact pD (List.mem_singleton.mp z).symm
      · rw [List.replicate_succ']
        refine ((nk4.step s5).snoc hp .nil nHp fp cp pps).upd_other ?_
        intro z
        rcases List.mem_append.mp z with z | z
        · exact dps z
        · exact pD (List.mem_singleton.mp z).symm
  · have e : i = xs.length := by omega
    refine .inl ⟨w2 e, ?_⟩
    subst e
    exact q (.ref D) H2 F2 C2 s02 ⟨D, ps, List.replicate xs.length [], rfl, by rw [List.map_replicate], nH, hD, fD, cD, dps, nk⟩
theorem lcsN {e : Stmt} (h : PS X e (tAsg (tLc (tI X.K PC it) (tTg X.K [j] (gtName j)) (tT X.K (fC (.bl true))) (tG X.K RN (fArgs gLst fNil)) (own.map (·.2))) (gName i))) (hj : j ∈ own.map (·.2)) : PS X e (tAsg (tG X.K RNN (fLcE it j)) (gName i)) := ps_mono h fun D σ H q => lcN_go hj q
theorem s_ownN (h : PS X st (tAsg (tG X.K RNN (fLcE it j)) (gName i))) : CS X st (sOwnN i j it) := ps_mono h fun D σ H ⟨B, F, C, ρ, E, q⟩ => by
  refine ⟨B, F, C, ρ, E, M.all_bind.mpr ((M.all_bind.mp q).mono fun xs q => ?_)⟩
  obtain ⟨⟨hz, hj, hi⟩, q⟩ := all_if (m := M.ret (Fl.nx (ρ.set i (.on (List.replicate xs.length []))))) q
  rw [if_pos ⟨hz, hj⟩]
  intro v H1 F1 C1 s1 r1
  obtain ⟨p, ps, xss, rfl, ed, np, hp, fp, cp, n, t⟩ := r1
  have ex : xss = List.replicate xs.length [] := by
    have : (List.replicate xs.length (WK.D.lst [])) = xss.map .lst := WK.D.lst.inj ed
    apply List.ext_getElem?
    intro k
    have hk := congrArg (fun l => l[k]?) this
    simp only [List.getElem?_map, List.getElem?_replicate] at hk ⊢
    split at hk
    · cases hx : xss[k]? with
      | none => rw [hx] at hk; cases hk
      | some y => rw [hx] at hk; cases hk; rw [if_pos (by assumption)]
    · cases hx : xss[k]? with
      | none => rw [if_neg (by assumption)]
      | some y => rw [hx] at hk; cases hk
  subst ex
  have no : ∀ a, a = p ∨ a ∈ ps → H a = none := fun a ha => by
    rcases ha with e | e
    · rw [e]; exact np
    · exact (t.mem a e).2.1
  refine q _ H1 F1 C1 ((E.step s1).upd1 (s := .on (List.replicate xs.length [])) ⟨p, ps, rfl, hp, E.base.free np, fp, cp, n, t.keep (fun _ _ => rfl) (fun a ha => E.base.free (no a (.inr ha))) (fun a ha => (t.mem a ha).2.2.1) (fun a ha => (t.mem a ha).2.2.2) (Same.refl _) fun _ z => z⟩ fun k a s2 hk e2 w => ?_) (E.grow s1)
  obtain ⟨p', ps', e', hp', w⟩ := w
  cases e'
  rw [hp] at hp'
  have := refs_inj (HO.lst.inj (Option.some.inj hp'))
  subst this
  exact E.noOwn s1 (no a w) k s2 e2
/-- xs[k].append(e) -/
theorem s_appN (h : PS X st (tDrop (tBM X.K "list" rAppend (tOp (rIxL X.K) (tVar i) (tG X.K RB g)) (tCons (tG X.K RF f) tNil)))) : CS X st (sAppN i g f) := ps_mono h fun D σ H ⟨B, F, C, ρ, E, q⟩ => by
  unfold sAppN at q
  cases e : ρ[i]? with
  | none => rw [e] at q; exact q.elim
  | some s =>
    rw [e] at q
    cases s with
    | on xss =>
      obtain ⟨p, ps, e1, hp, b, fp, cp, n, t⟩ := E.slot i _ e
      refine ⟨.ref p, e1, B, F, C, ρ, E, (M.all_bind.mp q).mono fun d q y H1 F1 C1 s1 r1 => ?_⟩
      cases d with
      | int k =>
        have r1 := r1.int
        subst r1
        have q : (if 0 ≤ k then (match xss[k.toNat]? with
          | some xs => (f ρ).bind fun x => if xs.length < sizeMax then M.ret (Fl.nx (ρ.set i (.on (xss.set k.toNat (xs ++ [x]))))) else .bad
          | none => .bad) else .bad).All _ := q
        by_cases hk : 0 ≤ k
        · rw [if_pos hk] at q
          cases ex : xss[k.toNat]? with
          | none => rw [ex] at q; exact q.elim
          | some xs =>
            rw [ex] at q
            obtain ⟨a, vs, h1, h2, h3⟩ := t.get ex
            have E1 := E.step s1
            have hp1 := s1.same p _ cp hp
            have ca : C ≠ some a := (t.mem a (List.mem_of_getElem? h1)).2.2.2
            have h21 := s1.same a _ ca h2
            refine ⟨p, ps.map V.ref, k, .ref a, rfl, rfl, .of hp1, ?_, .inl ⟨rfl, vs, .of h21⟩, B, F1, C1, ρ, E1, (M.all_bind.mp q).mono fun d2 q v2 H2 F2 C2 s2 r2 => ?_⟩
            · unfold atI ixN
              have hl : k.toNat < ps.length := (List.getElem?_eq_some_iff.mp h1).1
              rw [if_pos hk, if_pos (by rw [List.length_map]; omega)]
              show (ps.map V.ref)[k.toNat]? = _
              rw [List.getElem?_map, h1]
              rfl
            · obtain ⟨hz, q⟩ := all_if (m := M.ret (Fl.nx (ρ.set i (.on (xss.set k.toNat (xs ++ [d2])))))) q
              have t1 := t.step s1
              have t2 := t1.step s2
              have E2 := E1.step s2
              have cp1 : C1 ≠ some p := (E1.slot i _ e).elim fun p2 ⟨ps2, z1, z2, _, _, c, _⟩ => by
                rw [e1] at z1; cases z1; exact c
              have ca1 : C1 ≠ some a := (t1.mem a (List.mem_of_getElem? h1)).2.2.2
              have hp2 := s2.same p _ cp1 hp1
              have h22 := s2.same a _ ca1 h21
              have pa : p ≠ a := fun z => n (z ▸ List.mem_of_getElem? h1)
              refine ⟨a, vs, v2, rfl, rfl, h22, ?_, ?_⟩
              · rw [h3.length]
                exact Nat.lt_trans hz (by decide)
              · obtain ⟨p', ps', z1, z2, b2, f2, c2, n2, _⟩ := E2.slot i _ e
                rw [e1] at z1
                cases z1
                rw [hp2] at z2
                have := refs_inj (HO.lst.inj (Option.some.inj z2))
                subst this
                have w0 : Own H2 σ[i]? (.on xss) a := ⟨p, ps, e1, hp2, .inr (List.mem_of_getElem? h1)⟩
                refine q _ _ F2 C2 (E2.putS e w0 ⟨p, ps, e1, by rw [upd_ne pa]; exact hp2, b2, f2, c2, n, t2.set h1 (((h3.mono s1.frz s1.cup).mono s2.frz s2.cup).append (.one r2))⟩ fun x w => ?_) ((E.grow s1).trans (E1.grow s2))
                obtain ⟨p', ps', e', hp', w⟩ := w
                rw [e1] at e'
                cases e'
                rw [upd_ne pa] at hp'
                exact ⟨p, ps', e1, hp', w⟩
        · rw [if_neg hk] at q
          exact q.elim
      | _ => exact q.elim
    | _ => exact q.elim
end
end WK
end

section
set_option Elab.async false
set_option linter.all false
set_option maxRecDepth 100000
/-! Tuples of targets with lists of one's own; pop. -/
namespace WK
open PySem L2
section
variable {X : Cx} {i j l : Nat} {st : Stmt} {f g h : FE}
theorem s_tup3O (h3 : PS X st (tAsg (tTup (tCons (tG X.K RF f) (tCons (tG X.K RF g) (tCons (tG X.K RN h) tNil)))) (L2.gTup X.K 3 (gCons (gName i) (gCons (gName j) (gCons (gName l) gNil)))))) : CS X st (sPar3O i j l f g h) := ps_mono h3 fun D σ H ⟨B, F, C, ρ, E, q⟩ => by
  refine ⟨B, F, C, ρ, E, (M.all_bind.mp q).mono fun d q v H1 F1 C1 s1 r1 => ?_⟩
  refine ⟨B, F1, C1, ρ, E.step s1, (M.all_bind.mp q).mono fun d2 q v2 H2 F2 C2 s2 r2 => ?_⟩
  have s12 := s1.trans E.hf s2
  refine ⟨B, F2, C2, ρ, E.step s12, (M.all_bind.mp q).mono fun d3 q v3 H3 F3 C3 s3 r3 => ?_⟩
  obtain ⟨p, vs, xs, rfl, rfl, np, hp, fp, cp, rs⟩ := r3
  obtain ⟨hi, q⟩ := all_if (m := M.ret _) q
  have s13 := s12.trans E.hf s3
  have bp : B p = none := (E.step s12).base.free np
  refine ⟨by show (3 : Nat) ≤ sizeLine; decide, fun t nt => ⟨t, _, rfl, .of upd_same, rfl, v, _, rfl, v2, _, rfl, .ref p, _, rfl, rfl, ?_⟩⟩
  have s34 := s3.hf.laid (o := .tup [v, v2, .ref p]) nt
  have s14 := s13.trans E.hf s34
  have pt : p ≠ t := fun z => by rw [z, nt] at hp; cases hp
  have E4 := ((E.step s14).set (i := i) ((r1.step s2).step s3)).set (i := j) (r2.step s3)
  exact q _ _ F3 C3 (E4.setOwn (by rw [upd_ne pt]; exact hp) rs bp fp cp ((E.step s12).noOwn (s3.trans (E.step s12).hf s34) np).set.set) (E.grow s14)
theorem s_tup2B (h2 : PS X st (tAsg (tTup (tCons (tG X.K RF f) (tCons (tG X.K RN g) tNil))) (L2.gTup X.K 2 (gCons (gName i) (gCons (gName j) gNil))))) : CS X st (sParB i j f g) := ps_mono h2 fun D σ H ⟨B, F, C, ρ, E, q⟩ => by
  refine ⟨B, F, C, ρ, E, (M.all_bind.mp q).mono fun d q v H1 F1 C1 s1 r1 => ?_⟩
  refine ⟨B, F1, C1, ρ, E.step s1, (M.all_bind.mp q).mono fun d2 q v2 H2 F2 C2 s2 r2 => ?_⟩
  obtain ⟨p, vs, xs, rfl, rfl, np, hp, fp, cp, rs⟩ := r2
  obtain ⟨hi, q⟩ := all_if (m := M.ret _) q
  have s12 := s1.trans E.hf s2
  have bp : B p = none := (E.step s1).base.free np
  refine ⟨by show (2 : Nat) ≤ sizeLine; decide, fun t nt => ⟨t, _, rfl, .of upd_same, rfl, v, _, rfl, .ref p, _, rfl, rfl, ?_⟩⟩
  have s23 := s2.hf.laid (o := .tup [v, .ref p]) nt
  have s13 := s12.trans E.hf s23
  have pt : p ≠ t := fun z => by rw [z, nt] at hp; cases hp
  have E3 := (E.step s13).set (i := i) (r1.step s2)
  exact q _ _ F2 C2 (E3.setOwn (by rw [upd_ne pt]; exact hp) rs bp fp cp ((E.step s1).noOwn (s2.trans (E.step s1).hf s23) np).set) (E.grow s13)
/-- x = xs.pop() -/
theorem s_pop (h : PS X st (tAsg (tBM0 X.K "list" rPop (tVar i)) (gName j))) : CS X st (sPop j i) := ps_mono h fun D σ H ⟨B, F, C, ρ, E, q⟩ => by
  unfold sPop at q
  cases e : ρ[i]? with
  | none => rw [e] at q; exact q.elim
  | some s =>
    rw [e] at q
    cases s with
    | ow xs =>
      obtain ⟨p, vs, e1, hp, rs, b, fp, cp⟩ := E.slot i _ e
      have q : (match xs.getLast? with
        | some x => if j < ρ.length ∧ i ≠ j then M.ret (Fl.nx ((ρ.set i (.ow xs.dropLast)).set j (.fz x))) else .bad
        | none => .bad).All _ := q
      cases ex : xs.getLast? with
      | none => rw [ex] at q; exact q.elim
      | some x =>
        rw [ex] at q
        obtain ⟨⟨hj, hij⟩, q⟩ := all_if (m := M.ret _) q
        rw [List.getLast?_eq_getElem?] at ex
        obtain ⟨y, h1, h2⟩ := rs.get ex
        refine ⟨.ref p, e1, .inl ⟨rfl, vs, .of hp⟩, p, vs, y, rfl, rfl, hp, by rw [rs.length]; exact h1, ?_⟩
        have rd : Rps X.K F C vs.dropLast xs.dropLast := by
          rw [List.dropLast_eq_take, List.dropLast_eq_take, rs.length]
          exact rs.take _
        exact q _ _ F C ((E.put e e1 rd).set h2) (Grow.refl _ _ _)
    | _ => exact q.elim
theorem s_parDO (hij : i ≠ j) (h2 : PS X st (tPar i j (tCons (tG X.K RD f) (tCons (tG X.K RN g) tNil)))) : CS X st (sParDO i j f g) := ps_mono h2 fun D σ H ⟨B, F, C, ρ, E, q⟩ => by
  refine ⟨B, F, C, ρ, E, (M.all_bind.mp q).mono fun d q v H1 F1 C1 s1 r1 => ?_⟩
  refine ⟨B, F1, C1, ρ, E.step s1, (M.all_bind.mp q).mono fun d2 q v2 H2 F2 C2 s2 r2 => ?_⟩
  obtain ⟨p, kvs, ks, ds, rfl, rfl, np, hp, fp, cp, t⟩ := r1
  obtain ⟨p2, vs, xs, rfl, rfl, np2, hp2, fp2, cp2, rs⟩ := r2
  have q : (if i < ρ.length ∧ j < ρ.length then M.ret (Fl.nx ((ρ.set i (.od ks ds)).set j (.ow xs))) else .bad).All _ := q
  obtain ⟨hi, q⟩ := all_if q
  have s12 := s1.trans E.hf s2
  have E2 := E.step s12
  have cpp : C2 ≠ some p := fun z => by
    rcases s2.cupN p z with z | z
    · exact cp z
    · rw [hp] at z; cases z
  have E3 := E2.setOwnD (i := i) (s2.same p _ cp hp) (t.mono s2.frz s2.cup) (E.base.free np) (s2.new p (by rw [hp]; simp) fp) cpp (E.noOwn s12 np)
  have hne : p ≠ p2 := fun z => by subst z; rw [hp] at np2; cases np2
  refine ⟨.ref p, .ref p2, rfl, q _ H2 F2 C2 (E3.setOwn hp2 rs ((E.step s1).base.free np2) fp2 cp2 fun k y ek wk => ?_) (E.grow s12)⟩
  by_cases hk : i = k
  · subst hk
    have hi2 : i < ρ.length := hi.1
    rw [List.getElem?_set_self hi2] at ek
    cases ek
    rw [List.getElem?_set_self (by rw [E.len]; exact hi2)] at wk
    have wk : some (some (V.ref p)) = some (some (V.ref p2)) := wk
    cases wk
    exact hne rfl
  · rw [List.getElem?_set_ne hk] at ek wk
    exact (E.step s1).noOwn s2 np2 k y ek wk
theorem ct_tru {e : Expr} (h : CB X e f) (he : ∀ whole, isTrue e X.env whole = (do let v ← whole; standAt e.pos; holding [v] (truthy v)) := by intro _; rfl) : CT X e (fUn gTru f) :=
  pt_mono (pt_truth h he) fun σ H Q ⟨B, F, C, ρ, E, q⟩ => ⟨B, F, C, ρ, E, (M.all_bind.mp q).mono fun d q v H' F' C' s r => by
    cases d with
    | bl b =>
      obtain ⟨b', e, q⟩ := q
      cases e
      have r := r.bl
      subst r
      exact ⟨b, rfl, q _ _ _ s⟩
    | non =>
      obtain ⟨b', e, q⟩ := q
      cases e
      have r := r.non
      subst r
      exact ⟨false, rfl, q _ _ _ s⟩
    | _ => exact q.elim⟩
end
end WK
end

section
set_option Elab.async false
set_option linter.all false
set_option maxRecDepth 100000
set_option maxHeartbeats 2000000
/-! list(zip(..)), at the machine: a zip whose tuples stay. -/
namespace PySem
open Sem (wp)
section
variable {prog : Program} {w : World} {A : Around} {E : Value → Shared → Prop} {s : Shared} {z TI TO i1 i2 : Addr} {fp1 fp2 : List Addr} {n1 n2 i : Nat} {P1 P2 : Nat → Value → Prop} {St1 St2 : Nat → Heap → Prop} {a1 a2 : Value} {T : Addr} {f : Bool} {oT : Obj}
theorem zipD2h_next_item {Q : Value → Shared → Prop} (S : ZipSep2 z TI TO i1 i2 fp1 fp2) (D1 : Draws prog w A i1 fp1 n1 P1 St1) (D2 : Draws prog w A i2 fp2 n2 P2 St2)
    (hz : IsZipHeld s.heap z TI TO T f) (hT : s.heap.get? T = some oT) (hTI : IsTupOf2 s.heap TI (.ref i1) (.ref i2)) (st1 : St1 i s.heap) (st2 : St2 i s.heap) (hlt1 : i < n1) (hlt2 : i < n2)
    (hQ : ∀ x1 x2 h' tk, P1 i x1 → P2 i x2 → IsZipHeld h' z TI TO T true → St1 (i + 1) h' → St2 (i + 1) h' → IsTupOf2 h' s.heap.objs.size x1 x2 → h'.objs.size = s.heap.objs.size + 1 →
      (∀ c o, c ≠ z → c ≠ i1 → c ≠ i2 → s.heap.get? c = some o → h'.get? c = some o) → Q (.ref s.heap.objs.size) { s with heap := h', toks := tk }) :
    wpAny (model prog w) A (Builtin.«zip.__next__» ⟨[.ref z], []⟩) (fun fin s' => ∃ v, fin = .done (.ret v) ∧ Q v s') E s := by
  obtain ⟨hp, g, d, tk0, os⟩ := s
  show wpAny _ _ (field (.ref z) 2 >>= _) _ _ _
  refine wpAny_bind (wpAny_field hz rfl (x := .bool false) rfl ?_)
  show wpAny _ _ (field (.ref z) 3 >>= _) _ _ _
  refine wpAny_bind (wpAny_field hz rfl (x := .ref TI) rfl ?_)
  refine wpAny_bind (wpAny_seqItems hTI rfl ?_)
  show wpAny _ _ (Builtin.SmallTypes.ownedTupleIsFree (.ref z) >>= _) _ _ _
  refine wpAny_bind (wpAny_tupleHeld_zip hz hT fun h₁ hz₁ hs₁ => ?_)
  replace hs₁ : Heap.SameBut z hp h₁ := hs₁
  simp only [Bool.false_eq_true, if_false]
  refine wpAny_bind ?_
  rw [← Array.forIn_toList]
  simp only [List.forIn_cons, List.forIn_nil]
  refine wpAny_bind (wpAny_bind (wpAny_holding ?_))
  show wpAny _ _ (Builtin.SmallTypes.nextOf (.ref i1) >>= _) _ _ ⟨h₁, g, d, tk0, os⟩
  refine wpAny_bind (D1.item i _ _ _ hlt1 (D1.over st1 hs₁ S.zf1) fun x1 p1 tk1 hx1 sn1 hp1 => wpAny_pure ?_)
  replace hp1 : Heap.SameBut i1 h₁ p1 := hp1
  refine wpAny_pure ?_
  refine wpAny_bind (wpAny_bind (wpAny_holding ?_))
  show wpAny _ _ (Builtin.SmallTypes.nextOf (.ref i2) >>= _) _ _ ⟨p1, g, d, tk1, os⟩
  refine wpAny_bind (D2.item i _ _ _ hlt2 (D2.over (D2.over st2 hs₁ S.zf2) hp1 S.sep1_2) fun x2 p2 tk2 hx2 sn2 hp2 => wpAny_pure ?_)
  replace hp2 : Heap.SameBut i2 p1 p2 := hp2
  refine wpAny_pure (wpAny_pure ?_)
  show wpAny _ _ (newTuple [x1, x2] >>= _) _ _ _
  refine wpAny_bind (wpAny_newTuple ?_)
  have hsz : p2.objs.size = hp.objs.size := by rw [hp2.1, hp1.1, hs₁.1]
  have hz₃ : IsZipHeld p2 z TI TO T true := hp2.extBut _ _ S.zi2 (hp1.extBut _ _ S.zi1 hz₁)
  have hk : ∀ c o, c ≠ z → c ≠ i1 → c ≠ i2 → hp.get? c = some o → p2.get? c = some o := fun c o c1 c2 c3 e => hp2.extBut _ _ c3 (hp1.extBut _ _ c2 (hs₁.extBut _ _ c1 e))
  have hj1 : St1 (i + 1) p2 := D1.over sn1 hp2 S.sep2_1
  refine wpAny_pure ⟨_, rfl, ?_⟩
  show Q (.ref p2.objs.size) _
  have hp' : IsTupOf2 (p2.push { cls := .type "tuple", data := .seq #[x1, x2] }) p2.objs.size x1 x2 := Heap.get?_push_size _ rfl
  have hz4 : (p2.push { cls := .type "tuple", data := .seq #[x1, x2] }).objs.size = p2.objs.size + 1 := Heap.size_push ..
  rw [hsz] at hp' hz4 ⊢
  exact hQ x1 x2 _ tk2 hx1 hx2 (Heap.get?_push_of_some _ hz₃) (D1.frame _ _ _ hj1 fun b _ o e => Heap.get?_push_of_some _ e) (D2.frame _ _ _ sn2 fun b _ o e => Heap.get?_push_of_some _ e) hp' hz4 fun c o c1 c2 c3 e => Heap.get?_push_of_some _ (hk c o c1 c2 c3 e)
theorem zipD2h_next_end {Q : Fin → Shared → Prop} (S : ZipSep2 z TI TO i1 i2 fp1 fp2) (D1 : Draws prog w A i1 fp1 n1 P1 St1) (D2 : Draws prog w A i2 fp2 n2 P2 St2)
    (hz : IsZipHeld s.heap z TI TO T f) (hT : s.heap.get? T = some oT) (hTI : IsTupOf2 s.heap TI (.ref i1) (.ref i2)) (st1 : St1 i s.heap) (st2 : St2 i s.heap) (hle1 : i ≤ n1) (hle2 : i ≤ n2) (hend : i = n1 ∨ i = n2)
    (hE : ∀ h' tk e, (∀ c o, c ≠ z → c ≠ i1 → c ≠ i2 → s.heap.get? c = some o → h'.get? c = some o) → (∃ o, h'.get? e = some o ∧ o.cls = .type "StopIteration") → E (.ref e) { s with heap := h', toks := tk }) :
    wpAny (model prog w) A (Builtin.«zip.__next__» ⟨[.ref z], []⟩) Q E s := by
  obtain ⟨hp, g, d, tk0, os⟩ := s
  show wpAny _ _ (field (.ref z) 2 >>= _) _ _ _
  refine wpAny_bind (wpAny_field hz rfl (x := .bool false) rfl ?_)
  show wpAny _ _ (field (.ref z) 3 >>= _) _ _ _
  refine wpAny_bind (wpAny_field hz rfl (x := .ref TI) rfl ?_)
  refine wpAny_bind (wpAny_seqItems hTI rfl ?_)
  show wpAny _ _ (Builtin.SmallTypes.ownedTupleIsFree (.ref z) >>= _) _ _ _
  refine wpAny_bind (wpAny_tupleHeld_zip hz hT fun h₁ hz₁ hs₁ => ?_)
  replace hs₁ : Heap.SameBut z hp h₁ := hs₁
  simp only [Bool.false_eq_true, if_false]
  refine wpAny_bind ?_
  rw [← Array.forIn_toList]
  simp only [List.forIn_cons, List.forIn_nil]
  refine wpAny_bind (wpAny_bind (wpAny_holding ?_))
  show wpAny _ _ (Builtin.SmallTypes.nextOf (.ref i1) >>= _) _ _ ⟨h₁, g, d, tk0, os⟩
  by_cases hlt1 : i < n1
  · refine wpAny_bind (D1.item i _ _ _ hlt1 (D1.over st1 hs₁ S.zf1) fun x1 p1 tk1 hx1 sn1 hp1 => wpAny_pure ?_)
    replace hp1 : Heap.SameBut i1 h₁ p1 := hp1
    refine wpAny_pure ?_
    have hi2 : i = n2 := by omega
    refine wpAny_bind (wpAny_bind (wpAny_holding ?_))
    show wpAny _ _ (Builtin.SmallTypes.nextOf (.ref i2) >>= _) _ _ ⟨p1, g, d, tk1, os⟩
    refine wpAny_bind (D2.done ⟨p1, g, d, tk1, os⟩ _ _ (by rw [← hi2]; exact D2.over (D2.over st2 hs₁ S.zf2) hp1 S.sep1_2) fun q e hq he => ?_)
    replace hq : Heap.ExtBut i2 p1 q := hq
    exact hE q tk1 e (fun c o c1 c2 c3 x => hq _ _ c3 (hp1.extBut _ _ c2 (hs₁.extBut _ _ c1 x))) he
  · have hi1 : i = n1 := by omega
    refine wpAny_bind (D1.done ⟨h₁, g, d, tk0, os⟩ _ _ (by rw [← hi1]; exact D1.over st1 hs₁ S.zf1) fun q e hq he => ?_)
    replace hq : Heap.ExtBut i1 h₁ q := hq
    exact hE q tk0 e (fun c o c1 c2 c3 x => hq _ _ c2 (hs₁.extBut _ _ c1 x)) he
theorem wpAny_pyNext_zipD2h_item {Q : Option Value → Shared → Prop} (S : ZipSep2 z TI TO i1 i2 fp1 fp2) (D1 : Draws prog w A.in1 i1 fp1 n1 P1 St1) (D2 : Draws prog w A.in1 i2 fp2 n2 P2 St2)
    (hz : IsZipHeld s.heap z TI TO T f) (hT : s.heap.get? T = some oT) (hTI : IsTupOf2 s.heap TI (.ref i1) (.ref i2)) (st1 : St1 i s.heap) (st2 : St2 i s.heap) (hlt1 : i < n1) (hlt2 : i < n2)
    (hQ : ∀ x1 x2 h' tk, P1 i x1 → P2 i x2 → IsZipHeld h' z TI TO T true → St1 (i + 1) h' → St2 (i + 1) h' → IsTupOf2 h' s.heap.objs.size x1 x2 → h'.objs.size = s.heap.objs.size + 1 →
      (∀ c o, c ≠ z → c ≠ i1 → c ≠ i2 → s.heap.get? c = some o → h'.get? c = some o) → Q (some (.ref s.heap.objs.size)) { s with heap := h', toks := tk }) :
    wpAny (model prog w) A (pyNext (.ref z)) Q E s := by
  have hTy : s.TypeIs (.ref z) "zip" := ⟨_, hz, rfl⟩
  unfold pyNext
  exact wpAny_bind (wpAny_attempt (wpAny_callSpecial?_slot (name := Str.ofString "__next__") hTy F.slot_zip_next
    (wpAny_call_entry F.slot_zip_next hTy F.entry_zip_next
      (zipD2h_next_item S D1 D2 hz hT hTI st1 st2 hlt1 hlt2 fun x1 x2 h' tk y1 y2 b1 d1 d2 b5 b6 b7 => wpAny_pure (hQ x1 x2 h' tk y1 y2 b1 d1 d2 b5 b6 b7)) (F.args_zip_next_1 _))))
theorem wpAny_pyNext_zipD2h_end {Q : Option Value → Shared → Prop} (S : ZipSep2 z TI TO i1 i2 fp1 fp2) (D1 : Draws prog w A.in1 i1 fp1 n1 P1 St1) (D2 : Draws prog w A.in1 i2 fp2 n2 P2 St2)
    (hz : IsZipHeld s.heap z TI TO T f) (hT : s.heap.get? T = some oT) (hTI : IsTupOf2 s.heap TI (.ref i1) (.ref i2)) (st1 : St1 i s.heap) (st2 : St2 i s.heap) (hle1 : i ≤ n1) (hle2 : i ≤ n2) (hend : i = n1 ∨ i = n2)
    (hQ : ∀ h' tk, (∀ c o, c ≠ z → c ≠ i1 → c ≠ i2 → s.heap.get? c = some o → h'.get? c = some o) → Q none { s with heap := h', toks := tk }) : wpAny (model prog w) A (pyNext (.ref z)) Q E s := by
  have hTy : s.TypeIs (.ref z) "zip" := ⟨_, hz, rfl⟩
  unfold pyNext
  refine wpAny_bind (wpAny_attempt (wpAny_callSpecial?_slot (name := Str.ofString "__next__") hTy F.slot_zip_next
    (wpAny_call_entry F.slot_zip_next hTy F.entry_zip_next (zipD2h_next_end S D1 D2 hz hT hTI st1 st2 hle1 hle2 hend fun h' tk e hk he => ?_) (F.args_zip_next_1 _))))
  obtain ⟨o, ho, hc⟩ := he
  refine wpAny_bind (wpAny_isInstance (T := "StopIteration") (b := true) ⟨o, ho, hc⟩ isSubtype_stop ?_)
  exact wpAny_pure (hQ _ _ hk)
end
/-! ### the walk -/
/-- a zip that has told i pairs; S: all that stands above is new -/
structure ZlSt (z TI TO i1 i2 : Addr) (S : Addr) (St1 St2 : Nat → Heap → Prop) (i : Nat) (h : Heap) : Prop where
  zip : (IsZip h z TI TO .none ∧ ∃ a1 a2, IsTupOf2 h TO a1 a2) ∨ ∃ T f oT, IsZipHeld h z TI TO T f ∧ h.get? T = some oT ∧ S < T
  ti : IsTupOf2 h TI (.ref i1) (.ref i2)
  s1 : St1 i h
  s2 : St2 i h
structure ZlG (P1 P2 : Nat → Value → Prop) (lo : Addr) (h : Heap) (as : List Addr) : Prop where
  rise : as.Pairwise (· < ·)
  above : ∀ a ∈ as, lo < a
  pairs : ∀ (j : Nat) (a : Addr), as[j]? = some a → ∃ x1 x2, P1 j x1 ∧ P2 j x2 ∧ IsTupOf2 h a x1 x2
theorem ZlG.there {P1 P2 : Nat → Value → Prop} {lo : Addr} {h : Heap} {as : List Addr} (g : ZlG P1 P2 lo h as) {a : Addr} (ha : a ∈ as) : a < h.objs.size := by
  obtain ⟨j, hj⟩ := List.mem_iff_getElem?.mp ha
  obtain ⟨_, _, _, _, e⟩ := g.pairs j a hj
  exact Heap.lt_size e
structure ZlLow (z TI TO : Addr) (fp1 fp2 : List Addr) (S : Addr) : Prop where
  z : z < S
  TI : TI < S
  TO : TO < S
  f1 : ∀ b ∈ fp1, b < S
  f2 : ∀ b ∈ fp2, b < S
section
variable {prog : Program} {w : World} {A : Around} {E : Value → Shared → Prop} {s : Shared} {z TI TO i1 i2 S : Addr} {fp1 fp2 : List Addr} {n1 n2 : Nat} {P1 P2 : Nat → Value → Prop} {St1 St2 : Nat → Heap → Prop} {i : Nat}
theorem ZlSt.keep {h h' : Heap} (st : ZlSt z TI TO i1 i2 S St1 St2 i h) (L : ZlLow z TI TO fp1 fp2 S) (D1 : Draws prog w A i1 fp1 n1 P1 St1) (D2 : Draws prog w A i2 fp2 n2 P2 St2) (hk : ∀ b o, b ≠ S → h.get? b = some o → h'.get? b = some o) : ZlSt z TI TO i1 i2 S St1 St2 i h' := by
  refine ⟨?_, hk _ _ (Nat.ne_of_lt L.TI) st.ti, D1.frame _ _ _ st.s1 fun b hb o e => hk b o (Nat.ne_of_lt (L.f1 b hb)) e, D2.frame _ _ _ st.s2 fun b hb o e => hk b o (Nat.ne_of_lt (L.f2 b hb)) e⟩
  rcases st.zip with ⟨hz, a1, a2, hTO⟩ | ⟨T, f, oT, hz, hT, hS⟩
  · exact .inl ⟨hk _ _ (Nat.ne_of_lt L.z) hz, a1, a2, hk _ _ (Nat.ne_of_lt L.TO) hTO⟩
  · exact .inr ⟨T, f, oT, hk _ _ (Nat.ne_of_lt L.z) hz, hk _ _ (Nat.ne_of_gt hS) hT, hS⟩
theorem zl_item {Q : Option Value → Shared → Prop} (Sp : ZipSep2 z TI TO i1 i2 fp1 fp2) (L : ZlLow z TI TO fp1 fp2 S) (hS : S < s.heap.objs.size) (D1 : Draws prog w A.in1 i1 fp1 n1 P1 St1) (D2 : Draws prog w A.in1 i2 fp2 n2 P2 St2) (st : ZlSt z TI TO i1 i2 S St1 St2 i s.heap) (h1 : i < n1) (h2 : i < n2)
    (hQ : ∀ x1 x2 h' tk, P1 i x1 → P2 i x2 → ZlSt z TI TO i1 i2 S St1 St2 (i + 1) h' → IsTupOf2 h' s.heap.objs.size x1 x2 → h'.objs.size = s.heap.objs.size + 1 → (∀ b o, S ≤ b → s.heap.get? b = some o → h'.get? b = some o) →
      (∀ b o, b ≠ z → b ≠ TO → b ≠ i1 → b ≠ i2 → s.heap.get? b = some o → h'.get? b = some o) → Q (some (.ref s.heap.objs.size)) { s with heap := h', toks := tk }) :
    wpAny (model prog w) A (pyNext (.ref z)) Q E s := by
  have l1 : i1 < S := L.f1 _ Sp.mem1
  have l2 : i2 < S := L.f2 _ Sp.mem2
  rcases st.zip with ⟨hz, a1, a2, hTO⟩ | ⟨T, f, oT, hz, hT, hST⟩
  · refine wpAny_pyNext_zipD2_item Sp D1 D2 hz st.ti hTO st.s1 st.s2 h1 h2 fun x1 x2 h' tk p1 p2 b1 b2 d1 d2 b5 b6 hk => ?_
    exact hQ x1 x2 h' tk p1 p2 ⟨.inr ⟨_, false, _, b1, b5, hS⟩, hk _ _ Sp.TIz Sp.TITO Sp.TIi1 Sp.TIi2 st.ti, d1, d2⟩ b5 b6
      (fun b o hb e => hk b o (Nat.ne_of_gt (Nat.lt_of_lt_of_le L.z hb)) (Nat.ne_of_gt (Nat.lt_of_lt_of_le L.TO hb)) (Nat.ne_of_gt (Nat.lt_of_lt_of_le l1 hb)) (Nat.ne_of_gt (Nat.lt_of_lt_of_le l2 hb)) e) fun b o c1 c2 c3 c4 e => hk b o c1 c2 c3 c4 e
  · refine wpAny_pyNext_zipD2h_item Sp D1 D2 hz hT st.ti st.s1 st.s2 h1 h2 fun x1 x2 h' tk p1 p2 b1 d1 d2 b5 b6 hk => ?_
    exact hQ x1 x2 h' tk p1 p2 ⟨.inr ⟨T, true, oT, b1, hk _ _ (Nat.ne_of_gt (Nat.lt_trans L.z hST)) (Nat.ne_of_gt (Nat.lt_trans l1 hST)) (Nat.ne_of_gt (Nat.lt_trans l2 hST)) hT, hST⟩, hk _ _ Sp.TIz Sp.TIi1 Sp.TIi2 st.ti, d1, d2⟩ b5 b6
      (fun b o hb e => hk b o (Nat.ne_of_gt (Nat.lt_of_lt_of_le L.z hb)) (Nat.ne_of_gt (Nat.lt_of_lt_of_le l1 hb)) (Nat.ne_of_gt (Nat.lt_of_lt_of_le l2 hb)) e) fun b o c1 c2 c3 c4 e => hk b o c1 c3 c4 e
theorem zl_done {Q : Option Value → Shared → Prop} (Sp : ZipSep2 z TI TO i1 i2 fp1 fp2) (L : ZlLow z TI TO fp1 fp2 S) (D1 : Draws prog w A.in1 i1 fp1 n1 P1 St1) (D2 : Draws prog w A.in1 i2 fp2 n2 P2 St2) (st : ZlSt z TI TO i1 i2 S St1 St2 i s.heap) (h1 : i ≤ n1) (h2 : i ≤ n2) (he : i = n1 ∨ i = n2)
    (hQ : ∀ h' tk, (∀ b o, S ≤ b → s.heap.get? b = some o → h'.get? b = some o) → (∀ b o, b ≠ z → b ≠ TO → b ≠ i1 → b ≠ i2 → s.heap.get? b = some o → h'.get? b = some o) → Q none { s with heap := h', toks := tk }) :
    wpAny (model prog w) A (pyNext (.ref z)) Q E s := by
  have l1 : i1 < S := L.f1 _ Sp.mem1
  have l2 : i2 < S := L.f2 _ Sp.mem2
  rcases st.zip with ⟨hz, a1, a2, hTO⟩ | ⟨T, f, oT, hz, hT, hST⟩
  · refine wpAny_pyNext_zipD2_end Sp D1 D2 hz st.ti hTO st.s1 st.s2 h1 h2 he fun h' tk hk => ?_
    exact hQ h' tk (fun b o hb e => hk b o (Nat.ne_of_gt (Nat.lt_of_lt_of_le L.z hb)) (Nat.ne_of_gt (Nat.lt_of_lt_of_le L.TO hb)) (Nat.ne_of_gt (Nat.lt_of_lt_of_le l1 hb)) (Nat.ne_of_gt (Nat.lt_of_lt_of_le l2 hb)) e) hk
  · refine wpAny_pyNext_zipD2h_end Sp D1 D2 hz hT st.ti st.s1 st.s2 h1 h2 he fun h' tk hk => ?_
    exact hQ h' tk (fun b o hb e => hk b o (Nat.ne_of_gt (Nat.lt_of_lt_of_le L.z hb)) (Nat.ne_of_gt (Nat.lt_of_lt_of_le l1 hb)) (Nat.ne_of_gt (Nat.lt_of_lt_of_le l2 hb)) e) fun b o c1 c2 c3 c4 e => hk b o c1 c3 c4 e
end
end PySem
end

section
set_option Elab.async false
set_option linter.all false
set_option maxRecDepth 100000
set_option maxHeartbeats 2000000
/-! list(zip(..)), at the machine: the list. -/
namespace PySem
open Sem (wp)
open PySem.Calls
namespace F
theorem zip_no_len : typeLookup (.type "zip") "__len__" = pure none := by rw [typeLookup_type, builtinLookup_eq_fast]; kernel_rfl
theorem zip_no_hint : typeLookup (.type "zip") "__length_hint__" = pure none := by rw [typeLookup_type, builtinLookup_eq_fast]; kernel_rfl
end F
section
variable {prog : Program} {w : World} {A : Around} {s : Shared} {R : Result → Shared → Prop} {z TI TO i1 i2 S : Addr} {fp1 fp2 : List Addr} {n1 n2 : Nat} {P1 P2 : Nat → Value → Prop} {St1 St2 : Nat → Heap → Prop}
theorem zl_loop (Sp : ZipSep2 z TI TO i1 i2 fp1 fp2) (L : ZlLow z TI TO fp1 fp2 S) (D1 : Draws prog w A.in1.in1 i1 fp1 n1 P1 St1) (D2 : Draws prog w A.in1.in1 i2 fp2 n2 P2 St2) (hn : min n1 n2 ≤ sizeLine) (res : Value) {h₁ : Heap}
    (hR : ∀ h' tk acc c as, (∀ b o, b ≠ S → b ≠ z → b ≠ TO → b ≠ i1 → b ≠ i2 → h₁.get? b = some o → h'.get? b = some o) → h'.get? S = some { cls := .type "list", dict := none, data := .seq acc c, slots := #[] } → as.length = min n1 n2 → ZlG P1 P2 S h' as →
      acc.toList = as.map Value.ref → R (.ok (.ret res)) { s with heap := h', toks := tk }) :
    ∀ (k i : Nat) (h : Heap) (tk c : Nat) (acc : Array Value) (as : List Addr), min n1 n2 - i = k → i ≤ min n1 n2 → ZlSt z TI TO i1 i2 S St1 St2 i h → (∀ b o, b ≠ S → b ≠ z → b ≠ TO → b ≠ i1 → b ≠ i2 → h₁.get? b = some o → h.get? b = some o) →
      h.get? S = some { cls := .type "list", dict := none, data := .seq acc c, slots := #[] } → acc.toList = as.map Value.ref → as.length = i → ZlG P1 P2 S h as →
      codeAny (model prog w) A (.builtin "list.extend.loop" ⟨[.ref S, .ref z, res], []⟩) R { s with heap := h, toks := tk } := by
  intro k
  induction k with
  | zero =>
    intro i h tk c acc as hk hi hst hkeep hS hacc hal hG
    refine codeAny_builtin PySem.F.entry_extend_loop ?_
    rw [Around.under_plainId PySem.F.plain_extend_loop _]
    show wpAny _ A.in1 (pyNext (.ref z) >>= _) _ _ _
    refine wpAny_bind (zl_done (s := { s with heap := h, toks := tk }) (A := A.in1) Sp L D1 D2 hst (by omega) (by omega) (by omega) fun h' tk' hhi hlo => ?_)
    refine wpAny_pure (hR h' tk' acc c as (fun b o h0 h1 h2 h3 h4 e => hlo b o h1 h2 h3 h4 (hkeep b o h0 h1 h2 h3 h4 e)) (hhi S _ (Nat.le_refl _) hS) (by omega) ⟨hG.rise, hG.above, fun j a hj => ?_⟩ hacc)
    obtain ⟨x1, x2, p1, p2, e3⟩ := hG.pairs j a hj
    exact ⟨x1, x2, p1, p2, hhi a _ (Nat.le_of_lt (hG.above a (List.mem_of_getElem? hj))) e3⟩
  | succ k ih =>
    intro i h tk c acc as hk hi hst hkeep hS hacc hal hG
    have hlt : i < min n1 n2 := by omega
    have hsz : acc.size = i := by rw [← Array.length_toList, hacc, List.length_map, hal]
    have hSl : S < h.objs.size := Heap.lt_size hS
    refine codeAny_builtin PySem.F.entry_extend_loop ?_
    rw [Around.under_plainId PySem.F.plain_extend_loop _]
    show wpAny _ A.in1 (pyNext (.ref z) >>= _) _ _ _
    refine wpAny_bind (zl_item (s := { s with heap := h, toks := tk }) (A := A.in1) Sp L hSl D1 D2 hst (by omega) (by omega) fun x1 x2 h' tk' p1 p2 hst' ht hz hhi hlo => ?_)
    dsimp only at ht hz hhi hlo ⊢
    have hS' := hhi S _ (Nat.le_refl _) hS
    have up : ∀ b o, b ≠ S → h'.get? b = some o → (h'.update S (Obj.mapSeq (·.push (Value.ref h.objs.size)))).get? b = some o := fun b o hb e => (Heap.get?_update_other _ _ (Ne.symm hb)).trans e
    show wpAny _ A.in1 (updateSeq S (·.push (Value.ref h.objs.size)) >>= _) _ _ _
    refine wpAny_bind ?_
    refine wpAny_updateSeq hS' rfl (wpAny_pure ⟨plainId_quiet PySem.F.plain_extend_loop _, ih (i + 1) _ tk' _ (acc.push (Value.ref h.objs.size)) (as ++ [h.objs.size]) (by omega) (by omega) (hst'.keep L D1 D2 up)
      (fun b o h0 h1 h2 h3 h4 e => up b o h0 (hlo b o h1 h2 h3 h4 (hkeep b o h0 h1 h2 h3 h4 e))) (Heap.get?_update_self _ hS' rfl) (by rw [Array.toList_push, hacc, List.map_append]; rfl) (by rw [List.length_append, hal]; rfl) ⟨?_, ?_, ?_⟩⟩) (by rw [hsz]; omega) (by show (acc.push (Value.ref h.objs.size)).size ≤ sizeLine + 1; rw [Array.size_push, hsz]; omega)
    · refine List.pairwise_append.mpr ⟨hG.rise, List.pairwise_singleton _ _, fun a ha b hb => ?_⟩
      rw [List.mem_singleton.mp hb]
      exact hG.there ha
    · intro a ha
      rcases List.mem_append.mp ha with ha | ha
      · exact hG.above a ha
      · rw [List.mem_singleton.mp ha]; exact hSl
    · intro j b hj
      rcases Nat.lt_trichotomy j as.length with h1 | h1 | h1
      · rw [List.getElem?_append_left h1] at hj
        obtain ⟨y1, y2, q1, q2, e3⟩ := hG.pairs j b hj
        have hb := hG.above b (List.mem_of_getElem? hj)
        exact ⟨y1, y2, q1, q2, up b _ (Nat.ne_of_gt hb) (hhi b _ (Nat.le_of_lt hb) e3)⟩
      · subst h1
        have hb : h.objs.size = b := by simpa using hj
        subst hb
        exact ⟨x1, x2, by subst hal; exact p1, by subst hal; exact p2, up _ _ (Nat.ne_of_gt hSl) ht⟩
      · have hnone : (as ++ [h.objs.size])[j]? = none := List.getElem?_eq_none (by rw [List.length_append, List.length_singleton]; omega)
        rw [hnone] at hj; cases hj
end
section
variable {prog : Program} {w : World} {A : Around} {E : Value → Shared → Prop} {s : Shared} {z TI TO i1 i2 : Addr} {fp1 fp2 : List Addr} {n1 n2 : Nat} {P1 P2 : Nat → Value → Prop} {St1 St2 : Nat → Heap → Prop}
theorem zl_extend {S : Addr} {R : Result → Shared → Prop} (Sp : ZipSep2 z TI TO i1 i2 fp1 fp2) (L : ZlLow z TI TO fp1 fp2 S) (D1 : Draws prog w A.in1.in1 i1 fp1 n1 P1 St1) (D2 : Draws prog w A.in1.in1 i2 fp2 n2 P2 St2) (hn : min n1 n2 ≤ sizeLine)
    (hz : IsZip s.heap z TI TO .none) (st : ZlSt z TI TO i1 i2 S St1 St2 0 s.heap) (res : Value) (c₀ : Nat) (hS : s.heap.get? S = some { cls := .type "list", data := .seq #[] c₀ })
    (hR : ∀ h' tk acc c as, (∀ b o, b ≠ S → b ≠ z → b ≠ TO → b ≠ i1 → b ≠ i2 → s.heap.get? b = some o → h'.get? b = some o) → h'.get? S = some { cls := .type "list", dict := none, data := .seq acc c, slots := #[] } → as.length = min n1 n2 → ZlG P1 P2 S h' as →
      acc.toList = as.map Value.ref → R (.ok (.ret res)) { s with heap := h', toks := tk }) :
    wpAny (model prog w) A.in1 (Builtin.List.listExtendWith (.ref S) (.ref z) res)
      (fun fin s' => match fin with | .done f => R (.ok f) s' | .again c' => c'.quiet = true ∧ codeAny (model prog w) A c' R s') (fun e s' => R (.error e) s') s := by
  have hSz : S ≠ z := Nat.ne_of_gt L.z
  have hTy : s.TypeIs (.ref z) "zip" := ⟨_, hz, rfl⟩
  unfold Builtin.List.listExtendWith
  refine wpAny_bind (wpAny_typeOf hTy ?_)
  have h1 : Builtin.List.listSameRef (.ref S) (.ref z) = false := by simp [Builtin.List.listSameRef, hSz]
  have h2 : (Value.type "zip" == Value.type "list") = false := by decide
  have h3 : (Value.type "zip" == Value.type "tuple") = false := by decide
  simp only [h1, h2, h3, Bool.or_false, Bool.false_eq_true, if_false]
  refine wpAny_bind (wpAny_pyIter_zip hz ?_)
  refine wpAny_bind (wpAny_holding ?_)
  unfold Builtin.List.listLengthHint
  refine wpAny_bind (wpAny_specialOf hTy F.zip_no_len ?_)
  show wpAny _ A.in1 (specialOf (Value.ref z) (Str.ofString "__length_hint__") >>= _) _ _ _
  refine wpAny_bind (wpAny_specialOf hTy F.zip_no_hint ?_)
  refine wpAny_pure ?_
  show wpAny _ A.in1 (rule "list.extend.makes-room" >>= fun _ => Builtin.List.listTouch (.ref S) >>= fun _ =>
    again (.builtin "list.extend.loop" ⟨[.ref S, .ref z, res], []⟩)) _ _ _
  refine wpAny_bind (wpAny_rule ?_)
  refine wpAny_bind ?_
  show wpAny _ A.in1 (updateSeq S (·.push .none) >>= fun _ => updateSeq S (·.pop)) _ _ _
  refine wpAny_bind (wpAny_updateSeq hS rfl ?_)
  have hS₂ := Heap.get?_update_self (Obj.mapSeq (·.push Value.none)) hS rfl
  refine wpAny_updateSeq (hz := by seq_fits) hS₂ rfl ?_
  have hS₃ := Heap.get?_update_self (Obj.mapSeq (·.pop)) hS₂ rfl
  have oth : ∀ b o, b ≠ S → s.heap.get? b = some o → ((s.heap.update S (Obj.mapSeq (·.push Value.none))).update S (Obj.mapSeq (·.pop))).get? b = some o :=
    fun b o hb e => (Heap.get?_update_other _ _ (Ne.symm hb)).trans ((Heap.get?_update_other _ _ (Ne.symm hb)).trans e)
  refine wpAny_pure ⟨plainId_quiet PySem.F.plain_extend_loop _, zl_loop (h₁ := s.heap) Sp L D1 D2 hn res (fun h' tk acc c as hk => hR h' tk acc c as hk) _ 0 _ s.toks _ #[] [] rfl (Nat.zero_le _)
    (st.keep L D1 D2 oth) (fun b o h0 _ _ _ _ e => oth b o h0 e) hS₃ rfl rfl ⟨List.Pairwise.nil, (fun _ ha => nomatch ha), (fun j a hj => by simp at hj)⟩⟩
theorem zl_init {S : Addr} {R : Result → Shared → Prop} (Sp : ZipSep2 z TI TO i1 i2 fp1 fp2) (L : ZlLow z TI TO fp1 fp2 S) (D1 : Draws prog w A.in1.in1 i1 fp1 n1 P1 St1) (D2 : Draws prog w A.in1.in1 i2 fp2 n2 P2 St2) (hn : min n1 n2 ≤ sizeLine)
    (hz : IsZip s.heap z TI TO .none) (st : ZlSt z TI TO i1 i2 S St1 St2 0 s.heap) (hS : s.heap.get? S = some { cls := .type "list", data := .seq #[] })
    (hR : ∀ h' tk acc c as, (∀ b o, b ≠ S → b ≠ z → b ≠ TO → b ≠ i1 → b ≠ i2 → s.heap.get? b = some o → h'.get? b = some o) → h'.get? S = some { cls := .type "list", dict := none, data := .seq acc c, slots := #[] } → as.length = min n1 n2 → ZlG P1 P2 S h' as →
      acc.toList = as.map Value.ref → R (.ok (.ret .none)) { s with heap := h', toks := tk }) :
    wpAny (model prog w) A.in1 (Builtin.«list.__init__» ⟨[.ref S, .ref z], []⟩)
      (fun fin s' => match fin with | .done f => R (.ok f) s' | .again c' => c'.quiet = true ∧ codeAny (model prog w) A c' R s') (fun e s' => R (.error e) s') s := by
  show wpAny _ _ (do let old ← Builtin.List.listItems (.ref S); Builtin.List.listUpdate (.ref S) (fun _ => #[]); letGo old.toList.reverse; Builtin.List.listExtendWith (.ref S) (.ref z) .none) _ _ s
  refine wpAny_bind ?_
  unfold Builtin.List.listItems
  refine wpAny_bind (wpAny_seqItems hS rfl (wpAny_pure ?_))
  show wpAny _ _ (updateSeq S (fun _ => #[]) >>= fun _ => letGo (#[] : Array Value).toList.reverse >>= fun _ => Builtin.List.listExtendWith (.ref S) (.ref z) .none) _ _ s
  refine wpAny_bind (wpAny_updateSeq hS rfl ?_)
  have hS₂ := Heap.get?_update_self (Obj.mapSeq (fun _ => (#[] : Array Value))) hS rfl
  have oth : ∀ b o, b ≠ S → s.heap.get? b = some o → (s.heap.update S (Obj.mapSeq (fun _ => (#[] : Array Value)))).get? b = some o :=
    fun b o hb e => (Heap.get?_update_other _ _ (Ne.symm hb)).trans e
  refine wpAny_bind (wpAny_letGo ?_)
  refine zl_extend Sp L D1 D2 hn (oth _ _ (Nat.ne_of_lt L.z) hz) (st.keep L D1 D2 oth) .none _ hS₂ (fun h' tk acc c as hk hS' hl hG hacc => ?_)
  exact hR h' tk acc c as (fun b o h0 h1 h2 h3 h4 e => hk b o h0 h1 h2 h3 h4 (oth b o h0 e)) hS' hl hG hacc
theorem zl_call {Q : Value → Shared → Prop} (Sp : ZipSep2 z TI TO i1 i2 fp1 fp2) (L : ZlLow z TI TO fp1 fp2 s.heap.objs.size) (D1 : Draws prog w A.in1.in1.in1 i1 fp1 n1 P1 St1) (D2 : Draws prog w A.in1.in1.in1 i2 fp2 n2 P2 St2) (hn : min n1 n2 ≤ sizeLine)
    (hz : IsZip s.heap z TI TO .none) (hTO : ∃ a1 a2, IsTupOf2 s.heap TO a1 a2) (hTI : IsTupOf2 s.heap TI (.ref i1) (.ref i2)) (s1 : St1 0 s.heap) (s2 : St2 0 s.heap)
    (hQ : ∀ h' tk acc c as, (∀ b o, b ≠ z → b ≠ TO → b ≠ i1 → b ≠ i2 → s.heap.get? b = some o → h'.get? b = some o) → h'.get? s.heap.objs.size = some { cls := .type "list", dict := none, data := .seq acc c, slots := #[] } → as.length = min n1 n2 → ZlG P1 P2 s.heap.objs.size h' as →
      acc.toList = as.map Value.ref → Q (.ref s.heap.objs.size) { s with heap := h', toks := tk }) :
    wpAny (model prog w) A (call (.type "list") [.ref z]) Q E s := by
  refine callType_codes (Q₁ := fun obj s₁ => obj = .ref s.heap.objs.size ∧ s₁ = { s with heap := s.heap.push { cls := .type "list", data := .seq #[] } }) PySem.F.called_list (PySem.F.typeCall_list_1 _) PySem.F.entry_list_init
    (code_list_new _ ⟨rfl, rfl⟩) fun obj s₁ h₁ => ?_
  obtain ⟨rfl, rfl⟩ := h₁
  have hS : (s.heap.push { cls := .type "list", data := .seq #[] }).get? s.heap.objs.size = some { cls := .type "list", data := .seq #[] } := Heap.get?_push_size _ rfl
  have up : ∀ b o, s.heap.get? b = some o → (s.heap.push { cls := .type "list", data := .seq #[] }).get? b = some o := fun b o e => Heap.get?_push_of_some _ e
  obtain ⟨a1, a2, hTO⟩ := hTO
  refine ⟨⟨_, hS, rfl⟩, PySem.F.args_list_init_2 _ _, zl_init (A := A.in1) Sp L D1 D2 hn (up _ _ hz) ⟨.inl ⟨up _ _ hz, a1, a2, up _ _ hTO⟩, up _ _ hTI, D1.frame _ _ _ s1 fun b _ o e => up b o e, D2.frame _ _ _ s2 fun b _ o e => up b o e⟩ hS (fun h' tk acc c as hk hS' hl hG hacc => ?_)⟩
  exact ⟨rfl, hQ h' tk acc c as (fun b o h1 h2 h3 h4 e => hk b o (Nat.ne_of_lt (Heap.lt_size e)) h1 h2 h3 h4 (up b o e)) hS' hl hG hacc⟩
end
end PySem
end

section
set_option Elab.async false
set_option linter.all false
set_option maxRecDepth 100000
/-! list(zip(x, y)), texts. -/
namespace WK
open PySem L2 PySem.Spec PyProof.Rows
/-- pairs laid as tuples -/
def putP : Hp → List Addr → List (V × V) → Hp
  | H, a :: as, p :: ps => putP (upd H a (.tup [p.1, p.2])) as ps
  | H, _, _ => H
theorem putP_off {b : Addr} : ∀ (as : List Addr) (ps : List (V × V)) (H : Hp), b ∉ as → putP H as ps b = H b
  | [], _, _, _ => rfl
  | _ :: _, [], _, _ => rfl
  | a :: as, p :: ps, H, h => by
    show putP (upd H a (.tup [p.1, p.2])) as ps b = H b
    rw [putP_off as ps _ (fun z => h (List.mem_cons_of_mem _ z)), upd_ne (fun z => h (by rw [z]; exact List.mem_cons_self))]
theorem putP_at : ∀ (as : List Addr) (ps : List (V × V)) (H : Hp), as.Nodup → ∀ (j : Nat) (a : Addr) (p : V × V), as[j]? = some a → ps[j]? = some p → putP H as ps a = some (.tup [p.1, p.2])
  | [], _, _, _, j, a, p, h, _ => by simp at h
  | _ :: _, [], _, _, j, a, p, _, h => by simp at h
  | x :: as, y :: ps, H, hn, 0, a, p, h1, h2 => by
    simp at h1 h2
    subst h1 h2
    show putP (upd H x (.tup [y.1, y.2])) as ps x = _
    rw [putP_off as ps _ (List.nodup_cons.mp hn).1, upd_same]
  | x :: as, y :: ps, H, hn, j + 1, a, p, h1, h2 => putP_at as ps _ (List.nodup_cons.mp hn).2 j a p (by simpa using h1) (by simpa using h2)
theorem vals_refs : ∀ as : List Addr, Vals (as.map V.ref) (as.map Value.ref)
  | [] => .nil
  | _ :: as => .cons rfl (vals_refs as)
section
variable {X : Cx}
theorem zl_laid {pins : List (Addr × Obj)} {σ : L2.St} {H : Hp} {s : Shared} {h' : Heap} {tk : Nat} {ps : List (V × V)} {P1 P2 : Nat → Value → Prop} {acc : Array Value} {c : Nat} {as : List Addr} {p : Addr} (I : Inv X pins σ H s) (hp : s.heap.objs.size ≤ p)
    (hk : ∀ b o, s.heap.get? b = some o → h'.get? b = some o) (hS : h'.get? p = some { cls := .type "list", dict := none, data := .seq acc c, slots := #[] }) (hl : as.length = ps.length) (hz : ps.length ≤ sizeLine) (hG : ZlG P1 P2 p h' as) (hacc : acc.toList = as.map Value.ref)
    (r1 : ∀ j q x, ps[j]? = some q → P1 j x → RelV q.1 x) (r2 : ∀ j q x, ps[j]? = some q → P2 j x → RelV q.2 x) :
    ∃ H' : Hp, (∀ b o, H b = some o → H' b = some o) ∧ H p = none ∧ (∀ t ∈ as, H t = none) ∧ p ∉ as ∧ as.Nodup ∧ H' p = some (.lst (as.map V.ref)) ∧ (∀ (j : Nat) (a : Addr) (q : V × V), as[j]? = some a → ps[j]? = some q → H' a = some (.tup [q.1, q.2])) ∧ Inv X pins σ H' { s with heap := h', toks := tk } := by
  have hSn : p ∉ as := fun z => Nat.lt_irrefl _ (hG.above _ z)
  have nd : as.Nodup := List.Pairwise.imp (fun {a b} (h : a < b) => Nat.ne_of_lt h) hG.rise
  have new : ∀ t ∈ as, H t = none := fun t ht => I.hok.fresh (Nat.le_trans hp (Nat.le_of_lt (hG.above t ht)))
  have newS : H p = none := I.hok.fresh hp
  have atP := putP_at as ps (upd H p (.lst (as.map V.ref))) nd
  have off : ∀ b, b ∉ as → b ≠ p → putP (upd H p (.lst (as.map V.ref))) as ps b = H b := fun b h1 h2 => by rw [putP_off as ps _ h1, upd_ne h2]
  have low : ∀ b o, s.heap.get? b = some o → b ∉ as ∧ b ≠ p := fun b o e => ⟨fun z => absurd (Heap.lt_size e) (Nat.not_lt.mpr (Nat.le_trans hp (Nat.le_of_lt (hG.above b z)))), fun z => by rw [z] at e; exact absurd (Heap.lt_size e) (Nat.not_lt.mpr hp)⟩
  have kp : ∀ b u, H b = some u → (putP (upd H p (.lst (as.map V.ref))) as ps) b = some u := fun b u e => by
    rw [off b (fun z => by rw [new b z] at e; cases e) (fun z => by rw [z, newS] at e; cases e)]
    exact e
  have eS : putP (upd H p (.lst (as.map V.ref))) as ps p = some (.lst (as.map V.ref)) := by rw [putP_off as ps _ hSn, upd_same]
  refine ⟨putP (upd H p (.lst (as.map V.ref))) as ps, kp, newS, new, hSn, nd, eS, atP, ?_⟩
  refine I.call' (ch := []) rfl ⟨fun b o q _ _ _ => hk b o q, fun b o q _ _ _ => ⟨o.slots, hk b o q⟩, fun b o q n _ => ?_, fun b o q _ => ⟨o, hk b o q⟩, fun b xs q => kp b _ q, fun b o u q => kp b _ q, fun b ps q => ⟨#[], by rw [kp b _ q]; simp⟩⟩ (fun b u q => ?_) I.bare fun b z => by simp at z
  · obtain ⟨z1, z2⟩ := low b o q
    rw [off b z1 z2]
    exact n
  · by_cases hb : b ∈ as
    · obtain ⟨j, e1⟩ := List.mem_iff_getElem?.mp hb
      have hj : j < ps.length := by rw [← hl]; exact (List.getElem?_eq_some_iff.mp e1).1
      have e2 := List.getElem?_eq_getElem hj
      rw [atP j b _ e1 e2] at q
      cases q
      obtain ⟨x1, x2, p1, p2, e3⟩ := hG.pairs j b e1
      exact ⟨by show 2 ≤ sizeLine; decide, [x1, x2], .cons (r1 j _ x1 e2 p1) (.cons (r2 j _ x2 e2 p2) .nil), ⟨_, e3, rfl, _, rfl⟩⟩
    · by_cases hb2 : b = p
      · rw [hb2] at q ⊢
        rw [eS] at q
        cases q
        refine ⟨by rw [List.length_map]; omega, acc.toList, c, by rw [hacc]; exact vals_refs as, ?_⟩
        rw [Array.toArray_toList]
        exact hS
      · rw [off b hb hb2] at q
        exact (I.hok b u q).stay (fun d v _ y => hk d v y) (fun d y => kp d _ y) fun d xs y => kp d _ y
def chV (c : Nat) : V := .str ⟨#[c]⟩
def pairsV (u v : Str) : List (V × V) := List.zipWith (fun a b => (chV a, chV b)) u.cps.toList v.cps.toList
def tListZip (ta tb : TE) : TE := fun σ H Q => ta σ H fun x H1 => tb σ H1 fun y H2 => ∃ u v : Str, x = .str u ∧ y = .str v ∧ u.length ≤ sizeLine ∧
  ∀ (H' : Hp) (p : Addr) (ts : List Addr), (∀ b o, H2 b = some o → H' b = some o) → H2 p = none → (∀ t ∈ ts, H2 t = none) → p ∉ ts → ts.Nodup → H' p = some (.lst (ts.map V.ref)) → ts.length = (pairsV u v).length →
    (∀ (j : Nat) (a : Addr) (q : V × V), ts[j]? = some a → (pairsV u v)[j]? = some q → H' a = some (.tup [q.1, q.2])) → Q (.ref p) H'
theorem pairsV_at {u v : Str} {j : Nat} {q : V × V} (h : (pairsV u v)[j]? = some q) : ∃ a b, u.cps[j]? = some a ∧ v.cps[j]? = some b ∧ q = (chV a, chV b) := by
  unfold pairsV at h
  rw [List.getElem?_zipWith] at h
  cases e1 : u.cps.toList[j]? with
  | none => rw [e1] at h; cases h
  | some a =>
    cases e2 : v.cps.toList[j]? with
    | none => rw [e1, e2] at h; cases h
    | some b =>
      rw [e1, e2] at h
      exact ⟨a, b, by rw [← Array.getElem?_toList]; exact e1, by rw [← Array.getElem?_toList]; exact e2, (Option.some.inj h).symm⟩
theorem pe_listZip {a b : Expr} {ta tb : TE} {p p2 pos pos2 : Pos} (hc : X.calm = true) (hg : Gl X "list") (hm : X.mg "list" = none) (hg2 : Gl X "zip") (hm2 : X.mg "zip" = none) (ha : PE X a ta) (hb : PE X b tb)
    (na : starEach [a, b] X.env = (false, eval a X.env) :: starEach [b] X.env := by rfl) (nb : starEach [b] X.env = (false, eval b X.env) :: starEach [] X.env := by rfl) (hp : (backTo pos2 (starEach [b] X.env)).any (·.1) = false := by rfl)
    (nl : starEach [.Call (.Name "zip" p2) [a, b] [] pos2] X.env = (false, eval (.Call (.Name "zip" p2) [a, b] [] pos2) X.env) :: starEach [] X.env := by rfl) :
    PE X (.Call (.Name "list" p) [.Call (.Name "zip" p2) [a, b] [] pos2] [] pos) (tListZip ta tb) := by
  refine ⟨fun pins s σ H Q I h => ?_⟩
  refine Call_ (ld_blt I hg hm boot_list (PyProof.Rows.callWith_type1 (args_cons ?_ nl) nl))
  refine Call_ (ld_blt I hg2 hm2 PyProof.Rows.boot_zip (PyProof.Rows.callWith_type1 (args_cons (thn (ha.run pins s σ H _ I h) fun x1 s1 ⟨v1, H1, I1, r1, q1⟩ => args_cons (thn (hb.run pins s1 σ H1 _ I1 q1) fun x2 s2 ⟨v2, H2, I2, r2, q2⟩ => args_nil ?_) nb) na) na hp))
  obtain ⟨u, v, e1, e2, hz, q⟩ := q2
  subst e1 e2
  obtain ⟨t1, rfl⟩ := r1
  obtain ⟨t2, rfl⟩ := r2
  refine zip_begins2 (begins_text u t1) (begins_text v t2) trivial trivial fun h' hzip hTI hTO g1 g2 hsz hk => ?_
  refine args_nil ?_
  have hh : X.A.in1.in1.in1.handled = none := I2.ok.hd hc
  have Sp := zip_sep2 (N := s2.heap.objs.size) (fp1 := []) (fp2 := []) (fun _ hb => nomatch hb) fun _ hb => nomatch hb
  have hlen : (pairsV u v).length = min u.cps.size v.cps.size := by unfold pairsV; rw [List.length_zipWith, Array.length_toList, Array.length_toList]
  have hz' : u.cps.size ≤ sizeLine := hz
  have L : ZlLow (s2.heap.objs.size + 4) (s2.heap.objs.size + 2) (s2.heap.objs.size + 3) [s2.heap.objs.size] [s2.heap.objs.size + 1] h'.objs.size := by
    rw [hsz]
    exact ⟨Nat.lt_succ_self _, Nat.add_lt_add_left (by decide) _, Nat.add_lt_add_left (by decide) _, fun b hb => by rw [List.mem_singleton.mp hb]; exact Nat.lt_add_of_pos_right (by decide), fun b hb => by rw [List.mem_singleton.mp hb]; exact Nat.add_lt_add_left (by decide) _⟩
  refine zl_call (s := { s2 with heap := h' }) Sp L (Draws.text hh _ u t1) (Draws.text hh _ v t2) (Nat.le_trans (Nat.min_le_left _ _) hz') hzip ⟨_, _, hTO⟩ hTI ⟨_, g1, rfl, rfl⟩ ⟨_, g2, rfl, rfl⟩ fun h2 tk acc c as hk2 hS hl hG hacc => ?_
  have hold : ∀ b o, s2.heap.get? b = some o → h2.get? b = some o := fun b o e => by
    have hb := Heap.lt_size e
    exact hk2 b o (Nat.ne_of_lt (Nat.lt_of_lt_of_le hb (Nat.le_add_right _ _))) (Nat.ne_of_lt (Nat.lt_of_lt_of_le hb (Nat.le_add_right _ _))) (Nat.ne_of_lt hb) (Nat.ne_of_lt (Nat.lt_of_lt_of_le hb (Nat.le_add_right _ _))) (hk b o e)
  obtain ⟨H', k1, k2, k3, k4, k5, k6, k7, J⟩ := zl_laid (tk := tk) (ps := pairsV u v) I2 (p := h'.objs.size) (by rw [hsz]; exact Nat.le_add_right _ _) hold hS (by rw [hl, hlen]) (by rw [hlen]; exact Nat.le_trans (Nat.min_le_left _ _) hz') hG hacc
    (fun j q x e ⟨c, w, e1, e2⟩ => by
      obtain ⟨a, b, f1, f2, f3⟩ := pairsV_at e
      rw [f1] at e1
      cases e1
      subst f3 e2
      exact ⟨w, rfl⟩) fun j q x e ⟨c, w, e1, e2⟩ => by
      obtain ⟨a, b, f1, f2, f3⟩ := pairsV_at e
      rw [f2] at e1
      cases e1
      subst f3 e2
      exact ⟨w, rfl⟩
  exact ⟨.ref h'.objs.size, H', J, rfl, q H' _ as k1 k2 k3 k4 k5 k6 (by rw [hl, hlen]) k7⟩
/-! ### the reading -/
theorem freeze_all {H F H1 : Hp} {C C1 : Option Addr} : ∀ (ts : List Addr) {F1 : Hp}, Step H F C H1 F1 C1 → ts.Nodup → (∀ t ∈ ts, H t = none ∧ (∃ o, H1 t = some o) ∧ F1 t = none ∧ C1 ≠ some t) → ∃ F', Step H F C H1 F' C1 ∧ Same F1 F' ∧ (∀ t ∈ ts, F' t = H1 t) ∧ ∀ b, b ∉ ts → F' b = F1 b
  | [], F1, s, _, _ => ⟨F1, s, Same.refl _, fun _ h => (nomatch h), fun _ _ => rfl⟩
  | t :: ts, F1, s, hn, h => by
    obtain ⟨n1, n2⟩ := List.nodup_cons.mp hn
    obtain ⟨a1, ⟨o, a2⟩, a3, a4⟩ := h t List.mem_cons_self
    obtain ⟨F', s', sm, at_, off⟩ := freeze_all ts (s.freeze a1 a2 a3 a4) n2 fun x hx => by
      obtain ⟨b1, b2, b3, b4⟩ := h x (List.mem_cons_of_mem _ hx)
      exact ⟨b1, b2, by rw [upd_ne (fun z => n1 (by rw [← z]; exact hx))]; exact b3, b4⟩
    refine ⟨F', s', (upd_sub a3).trans sm, fun x hx => ?_, fun b hb => ?_⟩
    · rcases List.mem_cons.mp hx with e | e
      · rw [e, off t n1, upd_same, a2]
      · exact at_ x e
    · rw [off b (fun z => hb (List.mem_cons_of_mem _ z)), upd_ne (fun z => hb (by rw [z]; exact List.mem_cons_self))]
theorem rps_pairs {K : PySem.W.Frag} {F : Hp} {C : Option Addr} : ∀ (x y : List Nat) (ts : List Addr), ts.length = (List.zipWith (fun a b => (chV a, chV b)) x y).length → (∀ (j : Nat) (a : Addr) (q : V × V), ts[j]? = some a → (List.zipWith (fun a b => (chV a, chV b)) x y)[j]? = some q → F a = some (.tup [q.1, q.2])) →
    Rps K F C (ts.map V.ref) (List.zipWith (fun a b => D.tup [.str [a], .str [b]]) x y)
  | [], y, ts, hl, _ => by
    have : ts = [] := List.length_eq_zero_iff.mp (by simpa using hl)
    subst this
    exact .nil
  | a :: x, [], ts, hl, _ => by
    have : ts = [] := List.length_eq_zero_iff.mp (by simpa using hl)
    subst this
    exact .nil
  | a :: x, b :: y, [], hl, _ => by simp at hl
  | a :: x, b :: y, t :: ts, hl, h => by
    refine .cons (.tup (.of (h 0 t _ rfl rfl)) (.cons (.str [a]) (.cons (.str [b]) .nil))) (rps_pairs x y ts (by simpa using hl) fun j c q e1 e2 => h (j + 1) c q (by simpa using e1) (by simpa using e2))
theorem c_listZip {a b : Expr} {f g : FE} {p p2 pos pos2 : Pos} (hc : X.calm = true) (hg : Gl X "list") (hm : X.mg "list" = none) (hg2 : Gl X "zip") (hm2 : X.mg "zip" = none) (ha : CB X a f) (hb : CB X b g)
    (na : starEach [a, b] X.env = (false, eval a X.env) :: starEach [b] X.env := by rfl) (nb : starEach [b] X.env = (false, eval b X.env) :: starEach [] X.env := by rfl) (hp : (backTo pos2 (starEach [b] X.env)).any (·.1) = false := by rfl)
    (nl : starEach [.Call (.Name "zip" p2) [a, b] [] pos2] X.env = (false, eval (.Call (.Name "zip" p2) [a, b] [] pos2) X.env) :: starEach [] X.env := by rfl) :
    CN X (.Call (.Name "list" p) [.Call (.Name "zip" p2) [a, b] [] pos2] [] pos) (fOp gZipL f g) := pe_mono (pe_listZip hc hg hm hg2 hm2 ha hb na nb hp nl) fun σ H Q ⟨B, F, C, ρ, E, q⟩ => by
  refine ⟨B, F, C, ρ, E, (M.all_bind.mp q).mono fun d q v H1 F1 C1 s1 r1 => ⟨B, F1, C1, ρ, E.step s1, (M.all_bind.mp q).mono fun d2 q v2 H2 F2 C2 s2 r2 => ?_⟩⟩
  have r1' := RpB.step r1 s2
  cases d with
  | str x =>
    cases d2 with
    | str y =>
      obtain ⟨hz, q⟩ := all_if (m := M.ret (D.lst (List.zipWith (fun a b => D.tup [.str [a], .str [b]]) x y))) q
      have s12 := s1.trans E.hf s2
      refine ⟨SS x, SS y, r1.str, r2.str, Nat.le_trans (by show x.toArray.size ≤ sizeMax; rw [List.size_toArray]; exact hz.1) (by decide), fun H' p ts k1 k2 k3 k4 k5 k6 k7 k8 => ?_⟩
      have back : ∀ b, H2 b = none → H b = none := fun b nb => by
        cases z : H b with
        | none => rfl
        | some o => exact absurd nb (s12.there E.hf (by rw [z]; simp))
      have hf2 := s2.hf
      have sg : Step H2 F2 C2 H' F2 C2 := ⟨⟨fun b o e => k1 b o (hf2.sub b o e), fun c e => by
        obtain ⟨⟨m, n, w⟩, u⟩ := hf2.cup c e
        exact ⟨⟨m, n, k1 _ _ w⟩, u⟩⟩, fun b o _ e => k1 b o e, Same.refl _, fun _ _ e => e, fun _ e => e, fun _ e => .inl e⟩
      have s13 := s12.trans E.hf sg
      have nt : ∀ t ∈ ts, H t = none ∧ (∃ o, H' t = some o) ∧ F2 t = none ∧ C2 ≠ some t := fun t ht => by
        obtain ⟨j, e⟩ := List.mem_iff_getElem?.mp ht
        have hj : j < (pairsV (SS x) (SS y)).length := by rw [← k7]; exact (List.getElem?_eq_some_iff.mp e).1
        exact ⟨back t (k3 t ht), ⟨_, k8 j t _ e (List.getElem?_eq_getElem hj)⟩, (hf2.notNew (k3 t ht)).1, (hf2.notNew (k3 t ht)).2⟩
      obtain ⟨F', s', sm, at_, off⟩ := freeze_all ts s13 k5 nt
      refine q _ _ F' C2 s' ⟨p, _, _, rfl, rfl, back p k2, k6, by rw [off p k4]; exact (hf2.notNew k2).1, (hf2.notNew k2).2, ?_⟩
      refine rps_pairs x y ts ?_ fun j a q' e1 e2 => ?_
      · rw [k7]
        unfold pairsV
        rfl
      · rw [at_ a (List.mem_of_getElem? e1)]
        exact k8 j a q' e1 e2
    | _ => exact q.elim
  | _ => exact q.elim
end
end WK
end

section
set_option Elab.async false
set_option linter.all false
set_option maxRecDepth 100000
/-! text.split(sign) -/
namespace WK
open PySem L2 PySem.Spec PyProof.Rows
theorem splitN_ne (c : Nat) : ∀ xs : List Nat, splitN c xs ≠ []
  | [] => by simp [splitN]
  | x :: xs => by
    unfold splitN
    split
    · simp
    · cases h : splitN c xs with
      | nil => exact absurd h (splitN_ne c xs)
      | cons p ps => simp
theorem splitN_free (c : Nat) : ∀ p : List Nat, c ∉ p → splitN c p = [p]
  | [], _ => rfl
  | x :: p, h => by
    have h1 : x ≠ c := fun z => h (by rw [z]; exact List.mem_cons_self)
    unfold splitN
    rw [if_neg h1, splitN_free c p fun z => h (List.mem_cons_of_mem _ z)]
theorem splitN_cut (c : Nat) : ∀ (p r : List Nat), c ∉ p → splitN c (p ++ c :: r) = p :: splitN c r
  | [], r, _ => by
    show splitN c (c :: r) = _
    rw [splitN, if_pos rfl]
  | x :: p, r, h => by
    have h1 : x ≠ c := fun z => h (by rw [z]; exact List.mem_cons_self)
    show splitN c (x :: (p ++ c :: r)) = _
    rw [splitN, if_neg h1, splitN_cut c p r fun z => h (List.mem_cons_of_mem _ z)]
theorem splitN_len (c : Nat) : ∀ xs : List Nat, (splitN c xs).length ≤ xs.length + 1
  | [] => by simp [splitN]
  | x :: xs => by
    have := splitN_len c xs
    unfold splitN
    split
    · simp only [List.length_cons]; omega
    · cases h : splitN c xs with
      | nil => exact absurd h (splitN_ne c xs)
      | cons p ps => rw [h] at this; simp only [List.length_cons] at this ⊢; omega
theorem SS_of (x : Str) : SS x.cps.toList = x := by cases x; rfl
theorem parts_splitN (x : Str) (c : Nat) : ∀ (cuts : List Nat) (a f : Nat), StrLaws.ChainG x ⟨#[c]⟩ x.length a cuts f → (∀ k, f ≤ k → ¬ StrLaws.At x ⟨#[c]⟩ x.length k) → StrLaws.partsFrom x 1 a cuts = (splitN c (x.cps.toList.drop a)).map SS
  | [], a, f, h, hn => by
    have e : f = a := h
    subst e
    have hf : c ∉ x.cps.toList.drop f := by
      intro hm
      obtain ⟨j, hj⟩ := List.getElem?_of_mem hm
      rw [List.getElem?_drop] at hj
      exact hn (f + j) (by omega) ((StrLaws.subAt_one x c (f + j)).mpr hj)
    rw [splitN_free c _ hf]
    show [Builtin.Str.strSub x f x.length] = [SS (x.cps.toList.drop f)]
    rw [← SS_of (Builtin.Str.strSub x f x.length), StrLaws.strSub_toList, List.take_of_length_le (by rw [List.length_drop]; show _ ≤ x.cps.size - f; rw [Array.length_toList]; exact Nat.le_refl _)]
  | d :: r, a, f, h, hn => by
    obtain ⟨had, hAt, hgap, hrest⟩ := h
    have ih := parts_splitN x c r _ f hrest hn
    have hd : x.cps.toList[d]? = some c := (StrLaws.subAt_one x c d).mp hAt
    have e1 : x.cps.toList.drop a = (x.cps.toList.drop a).take (d - a) ++ (x.cps.toList.drop a).drop (d - a) := (List.take_append_drop _ _).symm
    have e2 : (x.cps.toList.drop a).drop (d - a) = x.cps.toList.drop d := by rw [List.drop_drop]; congr 1; omega
    have e3 : x.cps.toList.drop d = c :: x.cps.toList.drop (d + 1) := by
      have hlt : d < x.cps.toList.length := (List.getElem?_eq_some_iff.mp hd).1
      rw [List.drop_eq_getElem_cons hlt]
      congr 1
      exact (List.getElem?_eq_some_iff.mp hd).2
    have hfree : c ∉ (x.cps.toList.drop a).take (d - a) := by
      have := StrLaws.part_free x c a d (by have := hAt.1; omega) hgap
      rwa [StrLaws.strSub_toList] at this
    have hw : (⟨#[c]⟩ : Str).length = 1 := rfl
    rw [hw] at ih
    rw [e1, e2, e3, splitN_cut c _ _ hfree, List.map_cons]
    show Builtin.Str.strSub x a d :: StrLaws.partsFrom x 1 (d + 1) r = _
    rw [ih, ← SS_of (Builtin.Str.strSub x a d), StrLaws.strSub_toList]
theorem split_is (a : List Nat) (c : Nat) (hc : c < 256) : Txt.split (SS a) (SS [c]) = (splitN c a).map SS := by
  have e0 : SS [c] = ⟨#[c]⟩ := rfl
  rw [e0]
  obtain ⟨f, hG, hn⟩ := StrLaws.occ_tight (SS a) ⟨#[c]⟩ (Nat.le_refl 1)
  have key := parts_splitN (SS a) c _ 0 f hG hn
  rw [List.drop_zero] at key
  have key : _ = (splitN c a).map SS := key
  have hk : (decide (Builtin.Str.strKind (SS a) < Builtin.Str.strKind ⟨#[c]⟩)) = false := by
    have h1 : Builtin.Str.strKind ⟨#[c]⟩ = 1 := by
      unfold Builtin.Str.strKind
      rw [if_pos (by simp [hc])]
    have h2 : 1 ≤ Builtin.Str.strKind (SS a) := by
      unfold Builtin.Str.strKind
      split
      · exact Nat.le_refl _
      · split <;> decide
    rw [h1]
    exact decide_eq_false (by omega)
  unfold Txt.split
  rw [hk, Bool.or_false]
  cases ha : decide ((SS a).length < Str.length ⟨#[c]⟩) with
  | true =>
    have h1 : (SS a).length < 1 := of_decide_eq_true ha
    have h2 : a = [] := by
      cases a with
      | nil => rfl
      | cons x xs => exact absurd h1 (by show ¬ (List.toArray (x :: xs)).size < 1; simp)
    subst h2
    rfl
  | false =>
    rw [if_neg (by simp)]
    by_cases ho : (Builtin.Str.occurrences (SS a) ⟨#[c]⟩ 0 (SS a).length ((SS a).length + 1)).isEmpty = true
    · rw [if_pos ho, ← key, List.isEmpty_iff.mp ho]
      show _ = [Builtin.Str.strSub (SS a) 0 (SS a).length]
      rw [← SS_of (Builtin.Str.strSub (SS a) 0 (SS a).length), StrLaws.strSub_toList, List.drop_zero, List.take_of_length_le (by rw [Array.length_toList]; exact Nat.le_refl _), SS_of]
    · rw [if_neg ho, ← key]
      unfold Builtin.Str.partsBetween
      exact StrLaws.zip_parts (SS a) 1 _ 0
section
variable {X : Cx}
theorem rps_strs {K : PySem.W.Frag} {F : Hp} {C : Option Addr} : ∀ (xs : List (List Nat)), Rps K F C ((xs.map SS).map V.str) (xs.map .str)
  | [] => .nil
  | x :: xs => .cons (.str x) (rps_strs xs)
theorem c_split {a b : Expr} {f g : FE} {apos pos : Pos} (ha : CB X a f) (hb : CB X b g) (hs : starEach [b] X.env = [(false, eval b X.env)] := by rfl) (hbase : attributeBase a "split" X.env (eval a X.env) = eval a X.env := by rfl) (hline : (apos.endLine == pos.line) = true := by rfl) :
    CN X (.Call (.Attribute a "split" apos) [b] [] pos) (fOp gSplit (fUn asStr f) g) :=
  pe_mono (pe_split ha hb hs hbase hline) fun σ H Q ⟨B, F, C, ρ, E, q⟩ => by
    refine ⟨B, F, C, ρ, E, M.All.mono (fun d q x H1 F1 C1 s1 r1 => ?_) (M.all_bind.mp (M.all_bind.mp q))⟩
    cases d with
    | str s =>
      cases r1.str
      refine ⟨⟨_, rfl⟩, B, F1, C1, ρ, E.step s1, M.All.mono (fun d2 q y H2 F2 C2 s2 r2 => ?_) (M.all_bind.mp q)⟩
      cases d2 with
      | str t =>
        match t, q, r2 with
        | [c], q, r2 =>
          cases r2.str
          obtain ⟨hz, q⟩ := all_if (m := M.ret (D.lst ((splitN c s).map .str))) q
          have s12 := s1.trans E.hf s2
          refine ⟨_, _, rfl, rfl, rfl, Nat.le_trans (by show s.toArray.size + 2 ≤ sizeMax; rw [List.size_toArray]; exact hz.2) (by decide), fun p np => ?_⟩
          rw [split_is s c hz.1]
          refine q _ _ F2 C2 (s12.trans E.hf (s2.hf.laid np)) ⟨p, _, _, rfl, rfl, ?_, upd_same, (s2.hf.notNew np).1, (s2.hf.notNew np).2, rps_strs _⟩
          cases z : H p with
          | none => rfl
          | some o => exact absurd np (s12.there E.hf (by rw [z]; simp))
        | [], q, _ => exact q.elim
        | _ :: _ :: _, q, _ => exact q.elim
      | _ => exact q.elim
    | _ => exact q.elim
end
end WK
end

section
set_option Elab.async false
set_option linter.all false
namespace WK
/-! the readings as rewriting rules -/
@[simp] theorem bind_ret {α β : Type} (a : α) (f : α → M β) : (M.ret a).bind f = f a := rfl
@[simp] theorem bind_bad {α β : Type} (f : α → M β) : (M.bad : M α).bind f = .bad := rfl
@[simp] theorem bind_draw {α β : Type} (n : Nat) (k : Nat → M α) (f : α → M β) : (M.draw n k).bind f = .draw n fun i => (k i).bind f := rfl
@[simp] theorem all_ret {α : Type} (P : α → Prop) (a : α) : (M.ret a).All P = P a := rfl
@[simp] theorem all_bad {α : Type} (P : α → Prop) : (M.bad : M α).All P = False := rfl
@[simp] theorem all_draw {α : Type} (P : α → Prop) (n : Nat) (k : Nat → M α) : (M.draw n k).All P = (0 < n ∧ ∀ i, i < n → (k i).All P) := rfl
@[simp] theorem e_fC (d : D) (ρ : Ev) : fC d ρ = .ret d := rfl
@[simp] theorem e_fUn (g : D → M D) (f : FE) (ρ : Ev) : fUn g f ρ = (f ρ).bind g := rfl
@[simp] theorem e_fOp (g : D → D → M D) (f1 f2 : FE) (ρ : Ev) : fOp g f1 f2 ρ = (f1 ρ).bind fun a => (f2 ρ).bind fun b => g a b := rfl
@[simp] theorem e_onT {α : Type} (x y : M α) : onB (.bl true) x y = x := rfl
@[simp] theorem e_onF {α : Type} (x y : M α) : onB (.bl false) x y = y := rfl
@[simp] theorem e_fIf (c f g : FE) (ρ : Ev) : fIf c f g ρ = (c ρ).bind fun b => onB b (f ρ) (g ρ) := rfl
@[simp] theorem e_fAnd (f g : FE) (ρ : Ev) : fAnd f g ρ = (f ρ).bind fun b => onB b (g ρ) (.ret (.bl false)) := rfl
@[simp] theorem e_fOr (f g : FE) (ρ : Ev) : fOr f g ρ = (f ρ).bind fun b => onB b (.ret (.bl true)) (g ρ) := rfl
theorem onb_ite {α : Type} (b : Bool) (x y : M α) : onB (.bl b) x y = if b = true then x else y := by cases b <;> rfl
@[simp] theorem onb_dec {α : Type} (p : Prop) [Decidable p] (x y : M α) : onB (.bl (decide p)) x y = if p then x else y := by
  rw [onb_ite]
  by_cases h : p <;> simp [h]
@[simp] theorem onb_not {α : Type} (b : Bool) (x y : M α) : onB (.bl (!b)) x y = onB (.bl b) y x := by cases b <;> rfl
@[simp] theorem onb_vals (b c d : Bool) : onB (.bl b) (.ret (.bl c)) (.ret (.bl d)) = (.ret (.bl (if b then c else d)) : M D) := by cases b <;> rfl
@[simp] theorem e_gNot (b : Bool) : gNot (.bl b) = .ret (.bl (!b)) := by cases b <;> rfl
@[simp] theorem e_fChain (g g' : D → D → M D) (f1 f2 f3 : FE) (ρ : Ev) : fChain g g' f1 f2 f3 ρ = (f1 ρ).bind fun a => (f2 ρ).bind fun b => (g a b).bind fun c => onB c ((f3 ρ).bind fun e => g' b e) (.ret (.bl false)) := rfl
@[simp] theorem e_fNil (ρ : Ev) : fNil ρ = .ret [] := rfl
@[simp] theorem e_fCons (f : FE) (g : FL) (ρ : Ev) : fCons f g ρ = (f ρ).bind fun x => (g ρ).bind fun xs => .ret (x :: xs) := rfl
@[simp] theorem e_fArgs (g : List D → M D) (fs : FL) (ρ : Ev) : fArgs g fs ρ = (fs ρ).bind g := rfl
@[simp] theorem v0 (d : D) (r : Ev) : fVar 0 (.fz d :: r) = .ret d := rfl
@[simp] theorem vs (i : Nat) (s : Sl) (r : Ev) : fVar (i + 1) (s :: r) = fVar i r := rfl
@[simp] theorem b0 (d : D) (r : Ev) : fBor 0 (.fz d :: r) = .ret d := rfl
@[simp] theorem b0w (d : List D) (r : Ev) : fBor 0 (.ow d :: r) = .ret (.lst d) := rfl
@[simp] theorem bs (i : Nat) (s : Sl) (r : Ev) : fBor (i + 1) (s :: r) = fBor i r := rfl
@[simp] theorem e_sNil (ρ : Ev) : sNil ρ = .ret (.nx ρ) := rfl
/-- what follows a statement -/
def andThen (t : FS) : Fl → M Fl
  | .nx ρ' => t ρ'
  | fl => .ret fl
@[simp] theorem then_nx (t : FS) (ρ : Ev) : andThen t (.nx ρ) = t ρ := rfl
@[simp] theorem then_rt (t : FS) (d : D) : andThen t (.rt d) = .ret (.rt d) := rfl
@[simp] theorem e_sSeq (s t : FS) (ρ : Ev) : sSeq s t ρ = (s ρ).bind (andThen t) := by
  refine congrArg (M.bind (s ρ)) (funext fun fl => ?_)
  cases fl <;> rfl
@[simp] theorem e_sRet (f : FE) (ρ : Ev) : sRet f ρ = (f ρ).bind fun x => .ret (.rt x) := rfl
@[simp] theorem e_sRetN (ρ : Ev) : sRetN ρ = .ret (.rt .non) := rfl
@[simp] theorem e_sExpr (f : FE) (ρ : Ev) : sExpr f ρ = (f ρ).bind fun _ => .ret (.nx ρ) := rfl
@[simp] theorem e_sNever (ρ : Ev) : sNever ρ = .bad := rfl
@[simp] theorem e_sIf (c : FE) (s t : FS) (ρ : Ev) : sIf c s t ρ = (c ρ).bind fun b => onB b (s ρ) (t ρ) := rfl
def finish : Fl → M D
  | .rt d => .ret d
  | .nx _ => .ret .non
  | _ => .bad
@[simp] theorem fin_rt (d : D) : finish (.rt d) = .ret d := rfl
@[simp] theorem fin_nx (ρ : Ev) : finish (.nx ρ) = .ret .non := rfl
theorem run_eq {n k : Nat} {b : FS} {args : List D} (h : args.length = k) : run n k b args = (b (args.map .fz ++ List.replicate (n - k) .no)).bind finish := by
  unfold run
  rw [if_pos h]
  refine congrArg (M.bind _) (funext fun fl => ?_)
  cases fl <;> rfl
/-- a name stored -/
@[simp] theorem e_sAsg (f : FE) (i : Nat) (ρ : Ev) : sAsg f (gtName i) ρ = (f ρ).bind fun x => if i < ρ.length then .ret (.nx (ρ.set i (.fz x))) else .bad := by
  refine congrArg (M.bind (f ρ)) (funext fun x => ?_)
  unfold gtName
  by_cases h : i < ρ.length <;> simp [h]
theorem ret_fin (m : M D) : (m.bind fun x => M.ret (Fl.rt x)).bind finish = m := by
  rw [M.bind_assoc]
  exact M.bind_ret
end WK
end

section
set_option Elab.async false
set_option linter.all false
namespace WK
/-! ### equal data -/
mutual
def D.beq : D → D → Bool
  | .non, .non => true
  | .bl a, .bl b => a == b
  | .int i, .int j => i == j
  | .str x, .str y => x == y
  | .lst xs, .lst ys => D.beqs xs ys
  | .tup xs, .tup ys => D.beqs xs ys
  | _, _ => false
def D.beqs : List D → List D → Bool
  | [], [] => true
  | x :: xs, y :: ys => D.beq x y && D.beqs xs ys
  | _, _ => false
end
mutual
theorem D.beq_eq : ∀ {a b : D}, D.beq a b = true → a = b
  | .non, b, h => by cases b <;> first | rfl | cases h
  | .bl a, b, h => by
    cases b with
    | bl b => rw [eq_of_beq (show (a == b) = true from h)]
    | _ => cases h
  | .int a, b, h => by
    cases b with
    | int b => rw [eq_of_beq (show (a == b) = true from h)]
    | _ => cases h
  | .str a, b, h => by
    cases b with
    | str b => rw [eq_of_beq (show (a == b) = true from h)]
    | _ => cases h
  | .lst a, b, h => by
    cases b with
    | lst b => rw [D.beqs_eq (show D.beqs a b = true from h)]
    | _ => cases h
  | .tup a, b, h => by
    cases b with
    | tup b => rw [D.beqs_eq (show D.beqs a b = true from h)]
    | _ => cases h
  | .cup, b, h => by cases b <;> cases h
  | .scr, b, h => by cases b <;> cases h
  | .dct _ _, b, h => by cases b <;> cases h
theorem D.beqs_eq : ∀ {a b : List D}, D.beqs a b = true → a = b
  | [], [], _ => rfl
  | [], _ :: _, h => by cases h
  | _ :: _, [], h => by cases h
  | x :: xs, y :: ys, h => by
    have h : (D.beq x y && D.beqs xs ys) = true := h
    rw [Bool.and_eq_true] at h
    rw [D.beq_eq h.1, D.beqs_eq h.2]
end
def M.gives (m : M D) (d : D) : Bool := match m with
  | .ret e => D.beq e d
  | _ => false
/-- by evaluation -/
theorem M.by_eval {m : M D} {d : D} (h : m.gives d = true) : m = .ret d := by
  cases m with
  | ret e => rw [D.beq_eq (show D.beq e d = true from h)]
  | _ => cases h
/-! ### what is walked -/
@[simp] theorem e_iSeq (f : FE) (ρ : Ev) : iSeq f ρ = (f ρ).bind wSeq := rfl
@[simp] theorem w_lst (xs : List D) : wSeq (.lst xs) = .ret xs := rfl
@[simp] theorem w_tup (xs : List D) : wSeq (.tup xs) = .ret xs := rfl
theorem w_str {s : List Nat} (h : s.length ≤ sizeMax) : wSeq (.str s) = .ret (s.map fun c => .str [c]) := if_pos h
def rng1 (j : Int) : M (List D) := if j.natAbs ≤ 4000000 then .ret (rngL 0 j.toNat) else .bad
def rng2 (i j : Int) : M (List D) := if i.natAbs ≤ 4000000 ∧ j.natAbs ≤ 4000000 then .ret (rngL i (j - i).toNat) else .bad
def asRng1 : D → M (List D)
  | .int j => rng1 j
  | _ => .bad
@[simp] theorem asRng1_int (j : Int) : asRng1 (.int j) = rng1 j := rfl
@[simp] theorem e_iRange1 (f : FE) (ρ : Ev) : iRange1 f ρ = (f ρ).bind asRng1 := by
  refine congrArg (M.bind (f ρ)) (funext fun d => ?_)
  cases d <;> rfl
def asRng2 : D → D → M (List D)
  | .int i, .int j => rng2 i j
  | _, _ => .bad
@[simp] theorem asRng2_int (i j : Int) : asRng2 (.int i) (.int j) = rng2 i j := rfl
@[simp] theorem e_iRange2 (f g : FE) (ρ : Ev) : iRange2 f g ρ = (f ρ).bind fun d => (g ρ).bind fun e => asRng2 d e := by
  refine congrArg (M.bind (f ρ)) (funext fun d => congrArg (M.bind (g ρ)) (funext fun e => ?_))
  cases d <;> cases e <;> rfl
theorem rng1_nat {n : Nat} (h : n ≤ 4000000) : rng1 (n : Int) = .ret ((List.range n).map fun (i : Nat) => .int (i : Int)) := by
  unfold rng1 rngL
  have e : sizeMax = 16000000 := rfl
  rw [if_pos (by omega), Int.toNat_natCast]
  congr 1
  exact List.map_congr_left fun i _ => by rw [Int.zero_add]
/-! ### loops -/
/-- one turn -/
def turn (g : FG) (b : FS) (x : D) (ρ : Ev) : M Fl := match g x ρ with
  | some ρ1 => b ρ1
  | none => .bad
/-- how a loop goes on -/
def goOn (g : FG) (b : FS) (xs : List D) : Fl → M Fl
  | .nx ρ2 => loop g b xs ρ2
  | .ct ρ2 => loop g b xs ρ2
  | .bk ρ2 => .ret (.nx ρ2)
  | .rt d => .ret (.rt d)
@[simp] theorem loop_nil (g : FG) (b : FS) (ρ : Ev) : loop g b [] ρ = .ret (.nx ρ) := rfl
theorem loop_cons (g : FG) (b : FS) (x : D) (xs : List D) (ρ : Ev) : loop g b (x :: xs) ρ = (turn g b x ρ).bind (goOn g b xs) := by
  unfold loop turn
  cases g x ρ with
  | none => rfl
  | some ρ1 =>
    refine congrArg (M.bind (b ρ1)) (funext fun fl => ?_)
    cases fl <;> rfl
/-- a loop that goes to its end: st i the names ahead of turn i -/
theorem loop_run {g : FG} {b : FS} {α : Type} {e : α → D} (st : List α → Ev → Prop) : ∀ (xs ys : List α) (ρ : Ev), st ys ρ → (∀ ys x ρ, st ys ρ → ∃ ρ', turn g b (e x) ρ = .ret (.nx ρ') ∧ st (ys ++ [x]) ρ') →
    ∃ ρ', loop g b (xs.map e) ρ = .ret (.nx ρ') ∧ st (ys ++ xs) ρ'
  | [], ys, ρ, h, _ => ⟨ρ, rfl, by rw [List.append_nil]; exact h⟩
  | x :: xs, ys, ρ, h, hs => by
    obtain ⟨ρ1, e1, h1⟩ := hs ys x ρ h
    obtain ⟨ρ2, e2, h2⟩ := loop_run st xs (ys ++ [x]) ρ1 h1 hs
    refine ⟨ρ2, ?_, by rw [List.append_assoc] at h2; exact h2⟩
    rw [List.map_cons, loop_cons, e1]
    exact e2
/-- whatever is drawn in it; the turns may end it by a return -/
theorem loop_all {g : FG} {b : FS} {Q : Fl → Prop} (st : List D → Ev → Prop) : ∀ (xs ys : List D) (ρ : Ev), st ys ρ → (∀ ys x ρ, st ys ρ → x ∈ xs → (turn g b x ρ).All fun fl => (∃ ρ', fl = .nx ρ' ∧ st (ys ++ [x]) ρ') ∨ ∃ d, fl = .rt d ∧ Q (.rt d)) → (∀ ρ, st (ys ++ xs) ρ → Q (.nx ρ)) → (loop g b xs ρ).All Q
  | [], ys, ρ, h, _, hd => hd ρ (by rw [List.append_nil]; exact h)
  | x :: xs, ys, ρ, h, hs, hd => by
    rw [loop_cons]
    refine M.All.bind (hs ys x ρ h List.mem_cons_self) fun fl q => ?_
    rcases q with ⟨ρ', rfl, q⟩ | ⟨d, rfl, q⟩
    · exact loop_all st xs (ys ++ [x]) ρ' q (fun ys x ρ h m => hs ys x ρ h (List.mem_cons_of_mem _ m)) fun ρ z => hd ρ (by rw [List.append_assoc] at z; exact z)
    · exact q
@[simp] theorem e_sFor (it : FL) (g : FG) (b : FS) (ρ : Ev) : sFor it g b ρ = (it ρ).bind fun xs => loop g b xs ρ := rfl
/-! ### comprehensions -/
theorem mapM_eq {α β : Type} {f : α → M β} {g : α → β} {xs : List α} (h : ∀ x, x ∈ xs → f x = .ret (g x)) : mapM f xs = .ret (xs.map g) := mapM_ret h
theorem flat_filter {α β : Type} (p : α → Bool) (g : α → β) : ∀ xs : List α, (xs.map fun x => if p x = true then [g x] else []).flatten = (xs.filter p).map g
  | [] => rfl
  | x :: xs => by
    rw [List.map_cons, List.flatten_cons, flat_filter p g xs]
    by_cases h : p x = true <;> simp [h]
/-- what one item gives -/
def lcOne (tg : FG) (test elt : FE) (ρ0 : Ev) (x : D) : M (List D) := match tg x ρ0 with
  | some ρ2 => (test ρ2).bind fun b => onB b ((elt ρ2).bind fun d => .ret [d]) (.ret [])
  | none => .bad
def lcAll (yss : List (List D)) : M D := .ret (.lst yss.flatten)
theorem e_fLc {it : FL} {tg : FG} {test elt : FE} {vs : List Nat} {ρ : Ev} {xs : List D} (hi : it ρ = .ret xs) (hz : xs.length < sizeMax) : fLc it tg test elt vs ρ = (mapM (lcOne tg test elt (wipe ρ vs)) xs).bind lcAll := by
  unfold fLc
  rw [hi]
  exact if_pos hz
theorem lc_eq {it : FL} {tg : FG} {test elt : FE} {vs : List Nat} {ρ : Ev} {α : Type} {e : α → D} {ys : List α} (hi : it ρ = .ret (ys.map e)) (hz : ys.length < sizeMax) (p : α → Bool) (g : α → D)
    (h : ∀ y, y ∈ ys → ∃ ρ2, tg (e y) (wipe ρ vs) = some ρ2 ∧ test ρ2 = .ret (.bl (p y)) ∧ (p y = true → elt ρ2 = .ret (g y))) : fLc it tg test elt vs ρ = .ret (.lst ((ys.filter p).map g)) := by
  rw [e_fLc hi (by rw [List.length_map]; exact hz)]
  have hm : mapM (lcOne tg test elt (wipe ρ vs)) (ys.map e) = .ret (ys.map fun y => if p y = true then [g y] else []) := by
    clear hi hz
    induction ys with
    | nil => rfl
    | cons y ys ih =>
      obtain ⟨ρ2, e1, e2, e3⟩ := h y List.mem_cons_self
      have ih := ih fun y hy => h y (List.mem_cons_of_mem _ hy)
      have h1 : lcOne tg test elt (wipe ρ vs) (e y) = .ret (if p y = true then [g y] else []) := by
        unfold lcOne
        rw [e1]
        show (test ρ2).bind _ = _
        rw [e2]
        cases hp : p y with
        | true =>
          show (elt ρ2).bind _ = _
          rw [e3 hp]
          rfl
        | false => rfl
      rw [List.map_cons]
      unfold mapM
      rw [h1, ih]
      rfl
  rw [hm]
  show M.ret (D.lst _) = _
  rw [flat_filter]
/-- .. without a test -/
theorem lc_map {it : FL} {tg : FG} {elt : FE} {vs : List Nat} {ρ : Ev} {α : Type} {e : α → D} {ys : List α} (hi : it ρ = .ret (ys.map e)) (hz : ys.length < sizeMax) (g : α → D)
    (h : ∀ y, y ∈ ys → ∃ ρ2, tg (e y) (wipe ρ vs) = some ρ2 ∧ elt ρ2 = .ret (g y)) : fLc it tg (fC (.bl true)) elt vs ρ = .ret (.lst (ys.map g)) := by
  have := lc_eq (test := fC (.bl true)) hi hz (fun _ => true) g fun y hy => by
    obtain ⟨ρ2, e1, e2⟩ := h y hy
    exact ⟨ρ2, e1, rfl, fun _ => e2⟩
  rw [this, List.filter_eq_self.mpr fun _ _ => rfl]
/-- whatever is drawn in it -/
theorem mapM_all {α β : Type} {f : α → M β} {P : α → β → Prop} : ∀ {xs : List α}, (∀ x, x ∈ xs → (f x).All (P x)) → (mapM f xs).All fun ys => ys.length = xs.length ∧ ∀ (i : Nat) (x : α) (y : β), xs[i]? = some x → ys[i]? = some y → P x y
  | [], _ => ⟨rfl, fun i x y h => by simp at h⟩
  | x :: xs, h => by
    refine M.All.bind (h x List.mem_cons_self) fun y q => M.All.bind (mapM_all fun x hx => h x (List.mem_cons_of_mem _ hx)) fun ys ⟨l, r⟩ => ?_
    refine ⟨by simp [l], fun i a b h1 h2 => ?_⟩
    cases i with
    | zero => simp at h1 h2; subst h1 h2; exact q
    | succ i => exact r i a b (by simpa using h1) (by simpa using h2)
/-! ### targets, names forgotten -/
@[simp] theorem e_gtName (i : Nat) (x : D) (ρ : Ev) : gtName i x ρ = if i < ρ.length then some (ρ.set i (.fz x)) else none := rfl
@[simp] theorem wipe_nil (ρ : Ev) : wipe ρ [] = ρ := rfl
@[simp] theorem wipe_cons (ρ : Ev) (i : Nat) (vs : List Nat) : wipe ρ (i :: vs) = (wipe ρ vs).set i .no := rfl
@[simp] theorem e_gtTup (gs : List FG) (xs : List D) (ρ : Ev) : gtTup gs (.tup xs) ρ = gtSeq gs xs ρ := rfl
@[simp] theorem e_gtTupL (gs : List FG) (xs : List D) (ρ : Ev) : gtTup gs (.lst xs) ρ = gtSeq gs xs ρ := rfl
@[simp] theorem e_gtSeq0 (ρ : Ev) : gtSeq [] [] ρ = some ρ := rfl
@[simp] theorem e_gtSeq (g : FG) (gs : List FG) (x : D) (xs : List D) (ρ : Ev) : gtSeq (g :: gs) (x :: xs) ρ = (g x ρ).bind fun ρ' => gtSeq gs xs ρ' := by
  show (match g x ρ with
    | some ρ' => gtSeq gs xs ρ'
    | none => none) = _
  cases g x ρ <;> rfl
@[simp] theorem e_sOwn (i : Nat) (f : FE) (ρ : Ev) : sOwn i f ρ = (f ρ).bind fun x => match x with
  | .lst xs => if i < ρ.length then .ret (.nx (ρ.set i (.ow xs))) else .bad
  | _ => .bad := rfl
@[simp] theorem e_sPar (i j : Nat) (f g : FE) (ρ : Ev) : sPar i j f g ρ = (f ρ).bind fun x => (g ρ).bind fun y => if i < ρ.length ∧ j < ρ.length then .ret (.nx ((ρ.set i (.fz x)).set j (.fz y))) else .bad := rfl
@[simp] theorem e_sPar3 (i j l : Nat) (f g h : FE) (ρ : Ev) : sPar3 i j l f g h ρ = (f ρ).bind fun x => (g ρ).bind fun y => (h ρ).bind fun z => if i < ρ.length ∧ j < ρ.length ∧ l < ρ.length then .ret (.nx (((ρ.set i (.fz x)).set j (.fz y)).set l (.fz z))) else .bad := rfl
theorem e_sAsgG (f : FE) (g : FG) (ρ : Ev) : sAsg f g ρ = (f ρ).bind fun x => match g x ρ with
  | some ρ' => .ret (.nx ρ')
  | none => .bad := rfl
/-! ### operators -/
@[simp] theorem o_addI (i j : Int) : gAdd (.int i) (.int j) = .ret (.int (i + j)) := rfl
@[simp] theorem o_addJ (i j : Int) : gAddI (.int i) (.int j) = .ret (.int (i + j)) := rfl
@[simp] theorem o_subI (i j : Int) : gSub (.int i) (.int j) = .ret (.int (i - j)) := rfl
theorem fit_ok {n : Nat} {m : M D} (h : n ≤ sizeMax) : fit n m = m := if_pos h
theorem o_addS {a b : List Nat} (h : a.length + b.length ≤ sizeMax) : gAdd (.str a) (.str b) = .ret (.str (a ++ b)) := if_pos h
theorem o_addL {a b : List D} (h : a.length + b.length ≤ sizeMax) : gAdd (.lst a) (.lst b) = .ret (.lst (a ++ b)) := if_pos h
theorem o_addT {a b : List D} (h : a.length + b.length ≤ sizeMax) : gAdd (.tup a) (.tup b) = .ret (.tup (a ++ b)) := if_pos h
@[simp] theorem o_le (i j : Int) : gLe (.int i) (.int j) = .ret (.bl (decide (i ≤ j))) := rfl
@[simp] theorem o_lt (i j : Int) : gLt (.int i) (.int j) = .ret (.bl (decide (i < j))) := rfl
@[simp] theorem o_ge (i j : Int) : gGe (.int i) (.int j) = .ret (.bl (decide (j ≤ i))) := rfl
@[simp] theorem o_gt (i j : Int) : gGt (.int i) (.int j) = .ret (.bl (decide (j < i))) := rfl
@[simp] theorem o_eqI (i j : Int) : gEq (.int i) (.int j) = .ret (.bl (i == j)) := rfl
@[simp] theorem o_neI (i j : Int) : gNe (.int i) (.int j) = .ret (.bl (!(i == j))) := rfl
@[simp] theorem o_eqS (a b : List Nat) : gEq (.str a) (.str b) = .ret (.bl (a == b)) := rfl
@[simp] theorem o_neS (a b : List Nat) : gNe (.str a) (.str b) = .ret (.bl (!(a == b))) := rfl
@[simp] theorem o_lenL (xs : List D) : gLen (.lst xs) = .ret (.int xs.length) := rfl
@[simp] theorem o_lenT (xs : List D) : gLen (.tup xs) = .ret (.int xs.length) := rfl
theorem o_lenS {s : List Nat} (h : s.length ≤ sizeMax) : gLen (.str s) = .ret (.int s.length) := if_pos h
@[simp] theorem o_tupL (xs : List D) : gTuple (.lst xs) = .ret (.tup xs) := rfl
@[simp] theorem o_tupT (xs : List D) : gTuple (.tup xs) = .ret (.tup xs) := rfl
@[simp] theorem o_isN (d : D) : gIs d .non = .ret (.bl (isNon d)) := by cases d <;> rfl
@[simp] theorem o_isNotN (d : D) : gIsNot d .non = .ret (.bl (!isNon d)) := by cases d <;> rfl
theorem o_tup {xs : List D} (h : xs.length ≤ sizeMax) : gTup xs = .ret (.tup xs) := if_pos h
theorem o_lst {xs : List D} (h : xs.length ≤ sizeMax) : gLst xs = .ret (.lst xs) := if_pos h
@[simp] theorem o_tup0 : gTup [] = .ret (.tup []) := rfl
@[simp] theorem o_tup1 (a : D) : gTup [a] = .ret (.tup [a]) := rfl
@[simp] theorem o_tup2 (a b : D) : gTup [a, b] = .ret (.tup [a, b]) := rfl
@[simp] theorem o_tup3 (a b c : D) : gTup [a, b, c] = .ret (.tup [a, b, c]) := rfl
@[simp] theorem o_tup4 (a b c d : D) : gTup [a, b, c, d] = .ret (.tup [a, b, c, d]) := rfl
@[simp] theorem o_lst0 : gLst [] = .ret (.lst []) := rfl
@[simp] theorem o_lst1 (a : D) : gLst [a] = .ret (.lst [a]) := rfl
@[simp] theorem o_lst2 (a b : D) : gLst [a, b] = .ret (.lst [a, b]) := rfl
theorem o_modI {i j : Int} (h : 0 < j) : gMod (.int i) (.int j) = .ret (.int (i % j)) := if_pos h
theorem o_divI {i j : Int} (h : 0 < j) (h2 : j < 1073741824) : gDiv (.int i) (.int j) = .ret (.int (i / j)) := if_pos ⟨h, by omega⟩
theorem o_mulI {i j : Int} (h : (small i || small j) = true) : gMul (.int i) (.int j) = .ret (.int (i * j)) := if_pos h
@[simp] theorem o_sumL (xs : List D) : gSum (.lst xs) = onO (asInts xs) fun ns => .ret (.int ns.sum) := rfl
@[simp] theorem o_allL (xs : List D) : gAll (.lst xs) = onO (asBools xs) fun ns => .ret (.bl (ns.all id)) := rfl
@[simp] theorem onO_some {α : Type} (a : α) (g : α → M D) : onO (some a) g = g a := rfl
theorem asBools_map {α : Type} (f : α → Bool) : ∀ xs : List α, asBools (xs.map fun x => D.bl (f x)) = some (xs.map f)
  | [] => rfl
  | x :: xs => by
    show (asBools (xs.map fun x => D.bl (f x))).map (f x :: ·) = _
    rw [asBools_map f xs]; rfl
theorem asInts_map {α : Type} (f : α → Int) : ∀ xs : List α, asInts (xs.map fun x => D.int (f x)) = some (xs.map f)
  | [] => rfl
  | x :: xs => by
    show (asInts (xs.map fun x => D.int (f x))).map (f x :: ·) = _
    rw [asInts_map f xs]; rfl
theorem asStrs_map {α : Type} (f : α → List Nat) : ∀ xs : List α, asStrs (xs.map fun x => D.str (f x)) = some (xs.map f)
  | [] => rfl
  | x :: xs => by
    show (asStrs (xs.map fun x => D.str (f x))).map (f x :: ·) = _
    rw [asStrs_map f xs]; rfl
theorem ix_natT {xs : List D} {i : Nat} {d : D} (h : xs[i]? = some d) : gIx (.tup xs) (.int i) = .ret d := by
  show ofO (at? xs (i : Int)) = _
  unfold at?
  rw [if_pos (by omega), Int.toNat_natCast, h]
  rfl
theorem ix_natL {xs : List D} {i : Nat} {d : D} (h : xs[i]? = some d) : gIx (.lst xs) (.int i) = .ret d := by
  show ofO (at? xs (i : Int)) = _
  unfold at?
  rw [if_pos (by omega), Int.toNat_natCast, h]
  rfl
theorem ix_natS {s : List Nat} {i c : Nat} (hz : s.length ≤ sizeMax) (h : s[i]? = some c) : gIx (.str s) (.int i) = .ret (.str [c]) := by
  show fit s.length (ofO ((at? s (i : Int)).map _)) = _
  rw [fit_ok hz]
  unfold at?
  rw [if_pos (by omega), Int.toNat_natCast, h]
  rfl
@[simp] theorem o_isT (t : Ty) (d : D) : gIsT t d = match isTy t d with
  | some b => .ret (.bl b)
  | none => .bad := rfl
theorem o_roll {n : Nat} (h0 : 0 < n) (h : n < 1073741824) : gRoll [.cup, .int n] = .draw n fun i => .ret (.int i) := by
  show (if 0 < (n : Int) ∧ (n : Int).natAbs < 1073741824 then _ else _) = _
  rw [if_pos ⟨by omega, by omega⟩]
  rfl
end WK
namespace WK
/-- a loop that goes to its end; st ys: the names behind the turns ys -/
theorem loop_pre {g : FG} {b : FS} {α : Type} {e : α → D} (st : List α → Ev → Prop) (xs : List α) (ρ : Ev) (h0 : st [] ρ) (hs : ∀ ys x zs ρ, xs = ys ++ x :: zs → st ys ρ → ∃ ρ', turn g b (e x) ρ = .ret (.nx ρ') ∧ st (ys ++ [x]) ρ') :
    ∃ ρ', loop g b (xs.map e) ρ = .ret (.nx ρ') ∧ st xs ρ' := by
  suffices h : ∀ (zs ys : List α) (ρ : Ev), xs = ys ++ zs → st ys ρ → ∃ ρ', loop g b (zs.map e) ρ = .ret (.nx ρ') ∧ st xs ρ' from h xs [] ρ rfl h0
  intro zs
  induction zs with
  | nil => intro ys ρ e h; rw [List.append_nil] at e; subst e; exact ⟨ρ, rfl, h⟩
  | cons z zs ih =>
    intro ys ρ e1 h
    obtain ⟨ρ1, e2, h1⟩ := hs ys z zs ρ e1 h
    obtain ⟨ρ2, e3, h2⟩ := ih (ys ++ [z]) ρ1 (by rw [e1, List.append_assoc]; rfl) h1
    exact ⟨ρ2, by rw [List.map_cons, loop_cons, e2]; exact e3, h2⟩
theorem turn_name {i : Nat} {b : FS} {x : D} {ρ : Ev} (h : i < ρ.length) : turn (gtName i) b x ρ = b (ρ.set i (.fz x)) := by
  unfold turn gtName
  rw [if_pos h]
theorem o_lenSetL {xs : List D} {ss : List (List Nat)} (h : asStrs xs = some ss) (hz : ss.length ≤ 4000) : gLenSet (.lst xs) = .ret (.int ((once ss).length : Nat)) := by
  unfold gLenSet
  show onO (asStrs xs) _ = _
  rw [h]
  exact if_pos hz
theorem o_lenSetT {xs : List D} {ss : List (List Nat)} (h : asStrs xs = some ss) (hz : ss.length ≤ 4000) : gLenSet (.tup xs) = .ret (.int ((once ss).length : Nat)) := by
  unfold gLenSet
  show onO (asStrs xs) _ = _
  rw [h]
  exact if_pos hz
theorem nat_beq (a b : Nat) : (((a : Nat) : Int) == ((b : Nat) : Int)) = (a == b) := by
  by_cases h : a = b
  · subst h; simp
  · have h2 : ¬ ((a : Int) = (b : Int)) := by omega
    rw [beq_eq_false_iff_ne.mpr h, beq_eq_false_iff_ne.mpr h2]
theorem o_eqNil {xs : List D} (h : xs.all (D.ok 19) = true) : gEq (.lst xs) (.lst []) = .ret (.bl xs.isEmpty) := by
  unfold gEq
  have h1 : D.ok 20 (.lst xs) = true := h
  have h2 : D.ok 20 (.lst []) = true := rfl
  rw [h1, h2]
  cases xs <;> rfl
theorem o_neNil {xs : List D} (h : xs.all (D.ok 19) = true) : gNe (.lst xs) (.lst []) = .ret (.bl (!xs.isEmpty)) := by
  unfold gNe
  have h1 : D.ok 20 (.lst xs) = true := h
  have h2 : D.ok 20 (.lst []) = true := rfl
  rw [h1, h2]
  cases xs <;> rfl
theorem ok_map {α : Type} {f : α → D} {n : Nat} {xs : List α} (h : ∀ x, D.ok n (f x) = true) : (xs.map f).all (D.ok n) = true := by
  rw [List.all_map]
  exact List.all_eq_true.mpr fun x _ => h x
@[simp] theorem map_isEmpty {α β : Type} (f : α → β) (xs : List α) : (xs.map f).isEmpty = xs.isEmpty := by cases xs <;> rfl
/-- a sign in a text -/
theorem o_inS (c : Nat) (s : List Nat) : gIn (.str [c]) (.str s) = .ret (.bl (decide (c ∈ s))) := rfl
theorem o_notInS (c : Nat) (s : List Nat) : gNotIn (.str [c]) (.str s) = .ret (.bl (!decide (c ∈ s))) := rfl
theorem o_mulT {a : List D} {k : Nat} (h1 : k ≤ 1000) (h2 : a.length ≤ 1000) (h3 : 0 < k) (h4 : 1 ≤ a.length) : gMul (.tup a) (.int k) = .ret (.tup (List.replicate k a).flatten) := by
  have e : gMul (.tup a) (.int (k : Int)) = if (k : Int).natAbs ≤ 1000 ∧ a.length ≤ 1000 ∧ 0 < (k : Int) ∧ 1 ≤ a.length then .ret (.tup (List.replicate (k : Int).toNat a).flatten) else .bad := rfl
  rw [e, if_pos ⟨by omega, h2, by omega, h4⟩, Int.toNat_natCast]
theorem o_mulS {a : List Nat} {k : Nat} (h1 : k ≤ 1000000) (h2 : a.length ≤ 15) : gMul (.str a) (.int k) = .ret (.str (List.replicate k a).flatten) := by
  have e : gMul (.str a) (.int (k : Int)) = if (k : Int).natAbs ≤ 1000000 ∧ a.length ≤ 15 ∧ 0 ≤ (k : Int) then .ret (.str (List.replicate (k : Int).toNat a).flatten) else .bad := rfl
  rw [e, if_pos ⟨by omega, h2, by omega⟩, Int.toNat_natCast]
theorem o_mulL {a : List D} {k : Nat} (h1 : k ≤ 1000000) (h2 : a.length ≤ 15) : gMul (.lst a) (.int k) = .ret (.lst (List.replicate k a).flatten) := by
  have e : gMul (.lst a) (.int (k : Int)) = if (k : Int).natAbs ≤ 1000000 ∧ a.length ≤ 15 ∧ 0 ≤ (k : Int) then .ret (.lst (List.replicate (k : Int).toNat a).flatten) else .bad := rfl
  rw [e, if_pos ⟨by omega, h2, by omega⟩, Int.toNat_natCast]
theorem rep_one {α : Type} (x : α) : ∀ k : Nat, (List.replicate k [x]).flatten = List.replicate k x
  | 0 => rfl
  | k + 1 => by rw [List.replicate_succ, List.flatten_cons, rep_one x k, List.replicate_succ]; rfl
end WK
end

section
set_option Elab.async false
set_option linter.all false
namespace WK
/-! told and due alike -/
def sameElt (rec : List D → M D) : FE := fArgs rec (fCons (fOp gIx (fVar 0) (fVar 2)) (fCons (fOp gIx (fVar 1) (fVar 2)) (fNil)))
def sameBody (rec : List D → M D) : FS := sSeq (sIf (fUn (gIsT .tuple) (fVar 1)) (sSeq (sIf (fOr (fUn gNot (fUn (gIsT .tuple) (fVar 0))) (fOp gNe (fUn gLen (fVar 0)) (fUn gLen (fVar 1)))) (sRet (fC (.bl false))) (sNil)) (sRet (fUn gAll (fLc (iRange1 (fUn gLen (fVar 1))) (gtName 2) (fC (.bl true)) (sameElt rec) [2])))) (sNil)) (sSeq (sIf (fOp gIs (fVar 1) (fC .non)) (sRet (fOp gIs (fVar 0) (fC .non))) (sNil)) (sSeq (sIf (fUn (gIsT .bool) (fVar 1)) (sRet (fIf (fVar 1) (fOp gIs (fVar 0) (fC (.bl true))) (fOp gIs (fVar 0) (fC (.bl false))))) (sNil)) (sSeq (sIf (fUn (gIsT .int) (fVar 1)) (sRet (fAnd (fUn (gIsT .int) (fVar 0)) (fAnd (fUn gNot (fUn (gIsT .bool) (fVar 0))) (fOp gEq (fUn gInt (fVar 0)) (fVar 1))))) (sNil)) (sRet (fAnd (fUn (gIsT .str) (fVar 0)) (fOp gEq (fUn gStr (fVar 0)) (fVar 1)))))))
def sameF : Nat → List D → M D
  | 0 => run 3 2 sNever
  | n + 1 => run 3 2 (sameBody (sameF n))
/-- of these kinds alone, so deep -/
def D.plain : Nat → D → Bool
  | _, .non => true
  | _, .bl _ => true
  | _, .int _ => true
  | _, .str _ => true
  | n + 1, .tup xs => decide (xs.length < 1000) && xs.all (D.plain n)
  | _, _ => false
theorem r_same (n : Nat) (a b : D) : sameF (n + 1) [a, b] = (sameBody (sameF n) [.fz a, .fz b, .no]).bind finish := run_eq rfl
theorem same_int (n : Nat) (i : Int) : sameF (n + 1) [.int i, .int i] = .ret (.bl true) := by
  rw [r_same]
  simp [sameBody, isTy, isNon, gInt]
theorem same_str (n : Nat) (i : List Nat) : sameF (n + 1) [.str i, .str i] = .ret (.bl true) := by
  rw [r_same]
  simp [sameBody, isTy, isNon, gStr]
theorem same_tup (n : Nat) (xs : List D) (hz : xs.length < 1000) (h : ∀ d, d ∈ xs → sameF n [d, d] = .ret (.bl true)) : sameF (n + 1) [.tup xs, .tup xs] = .ret (.bl true) := by
  have e : sizeMax = 16000000 := rfl
  have hl : fLc (iRange1 (fUn gLen (fVar 1))) (gtName 2) (fC (.bl true)) (sameElt (sameF n)) [2] [.fz (.tup xs), .fz (.tup xs), .no] = .ret (.lst ((List.range xs.length).map fun _ => .bl true)) := by
    refine lc_map (e := fun (i : Nat) => .int (i : Int)) ?_ (by rw [List.length_range]; omega) _ fun i hi => ?_
    · simp
      rw [rng1_nat (by omega)]
    · refine ⟨[.fz (.tup xs), .fz (.tup xs), .fz (.int i)], rfl, ?_⟩
      have hi : i < xs.length := List.mem_range.mp hi
      have hx := List.getElem?_eq_getElem hi
      show (M.bind (M.bind (gIx (.tup xs) (.int i)) _) (sameF n)) = _
      rw [ix_natT hx]
      show (M.bind (M.bind (M.bind (gIx (.tup xs) (.int i)) _) _) (sameF n)) = _
      rw [ix_natT hx]
      exact h _ (List.getElem_mem hi)
  rw [r_same]
  simp [sameBody, isTy, hl, asBools_map (fun _ => true)]
theorem same_refl : ∀ (n : Nat) (d : D), D.plain n d = true → sameF (n + 1) [d, d] = .ret (.bl true) := by
  intro n
  induction n with
  | zero =>
    intro d h
    cases d with
    | non => rfl
    | bl b => cases b <;> rfl
    | int i => exact same_int 0 i
    | str s => exact same_str 0 s
    | _ => cases h
  | succ n ih =>
    intro d h
    cases d with
    | non => rfl
    | bl b => cases b <;> rfl
    | int i => exact same_int _ i
    | str s => exact same_str _ s
    | tup xs =>
      have h : (decide (xs.length < 1000) && xs.all (D.plain n)) = true := h
      rw [Bool.and_eq_true, decide_eq_true_eq] at h
      exact same_tup _ xs h.1 fun d hd => ih d (List.all_eq_true.mp h.2 d hd)
    | _ => cases h
end WK
end

section
set_option Elab.async false
set_option linter.all false
set_option maxRecDepth 100000
/-! The typed side: the readings once more, over numbers, texts, lists and pairs of their own kinds, with no names' places. -/
namespace WK

/-! ### kinds -/
class En (α : Type) where
  e : α → D
structure Ch where
  c : Nat
  deriving DecidableEq, Inhabited
structure Tp (α : Type) where
  l : List α
  deriving DecidableEq
inductive Cup where
  | mk
  deriving DecidableEq
structure P1 (α : Type) where
  a : α
  deriving DecidableEq
structure P2 (α β : Type) where
  a : α
  b : β
  deriving DecidableEq
structure P3 (α β γ : Type) where
  a : α
  b : β
  c : γ
  deriving DecidableEq
structure P4 (α β γ δ : Type) where
  a : α
  b : β
  c : γ
  d : δ
  deriving DecidableEq
structure P5 (α β γ δ ε : Type) where
  a : α
  b : β
  c : γ
  d : δ
  f : ε
  deriving DecidableEq
structure P6 (α β γ δ ε ζ : Type) where
  a : α
  b : β
  c : γ
  d : δ
  f : ε
  g : ζ
  deriving DecidableEq
instance : En Int := ⟨.int⟩
instance : En Bool := ⟨.bl⟩
instance : En Unit := ⟨fun _ => .non⟩
instance : En Cup := ⟨fun _ => .cup⟩
instance : En D := ⟨fun d => d⟩
instance : En Ch := ⟨fun x => .str [x.c]⟩
instance iText : En (List Nat) := ⟨.str⟩
instance iList {α : Type} [En α] : En (List α) := ⟨fun xs => .lst (xs.map En.e)⟩
instance iTp {α : Type} [En α] : En (Tp α) := ⟨fun xs => .tup (xs.l.map En.e)⟩
def eOpt {α : Type} [En α] : Option α → D
  | none => .non
  | some a => En.e a
instance iOpt {α : Type} [En α] : En (Option α) := ⟨eOpt⟩
instance iP1 {α : Type} [En α] : En (P1 α) := ⟨fun x => .tup [En.e x.a]⟩
instance iP2 {α β : Type} [En α] [En β] : En (P2 α β) := ⟨fun x => .tup [En.e x.a, En.e x.b]⟩
instance iP3 {α β γ : Type} [En α] [En β] [En γ] : En (P3 α β γ) := ⟨fun x => .tup [En.e x.a, En.e x.b, En.e x.c]⟩
instance iP4 {α β γ δ : Type} [En α] [En β] [En γ] [En δ] : En (P4 α β γ δ) := ⟨fun x => .tup [En.e x.a, En.e x.b, En.e x.c, En.e x.d]⟩
instance iP5 {α β γ δ ε : Type} [En α] [En β] [En γ] [En δ] [En ε] : En (P5 α β γ δ ε) := ⟨fun x => .tup [En.e x.a, En.e x.b, En.e x.c, En.e x.d, En.e x.f]⟩
instance iP6 {α β γ δ ε ζ : Type} [En α] [En β] [En γ] [En δ] [En ε] [En ζ] : En (P6 α β γ δ ε ζ) := ⟨fun x => .tup [En.e x.a, En.e x.b, En.e x.c, En.e x.d, En.e x.f, En.e x.g]⟩

/-! equal as Python has it, no cup within -/
class EnEq (α : Type) [En α] [DecidableEq α] where
  k : Nat
  ok : ∀ (a : α) (n : Nat), k ≤ n → D.ok n (En.e a) = true
  eq : ∀ a b : α, D.eq (En.e a) (En.e b) = decide (a = b)
class EnNN (α : Type) [En α] : Prop where
  l : ∀ a : α, D.eq .non (En.e a) = false
  r : ∀ a : α, D.eq (En.e a) .non = false
theorem beq_dec {α : Type} [DecidableEq α] (a b : α) : (a == b) = decide (a = b) := by
  by_cases h : a = b <;> simp [h]
instance : EnNN Int := ⟨fun _ => rfl, fun _ => rfl⟩
instance : EnNN Bool := ⟨fun _ => rfl, fun _ => rfl⟩
instance : EnNN Ch := ⟨fun _ => rfl, fun _ => rfl⟩
instance : EnNN (List Nat) := ⟨fun _ => rfl, fun _ => rfl⟩
instance {α : Type} [En α] : EnNN (List α) := ⟨fun _ => rfl, fun _ => rfl⟩
instance {α : Type} [En α] : EnNN (Tp α) := ⟨fun _ => rfl, fun _ => rfl⟩
instance {α : Type} [En α] : EnNN (P1 α) := ⟨fun _ => rfl, fun _ => rfl⟩
instance {α β : Type} [En α] [En β] : EnNN (P2 α β) := ⟨fun _ => rfl, fun _ => rfl⟩
instance {α β γ : Type} [En α] [En β] [En γ] : EnNN (P3 α β γ) := ⟨fun _ => rfl, fun _ => rfl⟩
instance {α β γ δ : Type} [En α] [En β] [En γ] [En δ] : EnNN (P4 α β γ δ) := ⟨fun _ => rfl, fun _ => rfl⟩
theorem ok_int (n : Nat) (i : Int) : D.ok n (.int i) = true := by cases n <;> rfl
theorem ok_bl (n : Nat) (i : Bool) : D.ok n (.bl i) = true := by cases n <;> rfl
theorem ok_str (n : Nat) (i : List Nat) : D.ok n (.str i) = true := by cases n <;> rfl
theorem ok_non (n : Nat) : D.ok n .non = true := by cases n <;> rfl
theorem ok_tup (n : Nat) (xs : List D) : D.ok (n + 1) (.tup xs) = xs.all (D.ok n) := rfl
theorem ok_lst (n : Nat) (xs : List D) : D.ok (n + 1) (.lst xs) = xs.all (D.ok n) := rfl
theorem dec_iff {p q : Prop} [Decidable p] [Decidable q] (h : p ↔ q) : decide p = decide q := by
  by_cases hp : p
  · have := h.mp hp; simp [hp, this]
  · have : ¬ q := fun x => hp (h.mpr x)
    simp [hp, this]
instance : EnEq Int := ⟨0, fun a n _ => ok_int n a, fun a b => beq_dec a b⟩
instance : EnEq Bool := ⟨0, fun a n _ => ok_bl n a, fun a b => beq_dec a b⟩
instance : EnEq Unit := ⟨0, fun a n _ => ok_non n, fun a b => rfl⟩
theorem beq_txt (a b : List Nat) : (a == b) = decide (a = b) := by
  by_cases h : a = b <;> simp [h]
instance : EnEq (List Nat) := ⟨0, fun a n _ => ok_str n a, fun a b => beq_txt a b⟩
instance : EnEq Ch := ⟨0, fun a n _ => ok_str n _, fun a b => by
  show (([a.c] : List Nat) == [b.c]) = _
  rw [beq_txt]
  exact dec_iff ⟨fun h => by cases a; cases b; simp at h; simp [h], fun h => by rw [h]⟩⟩
theorem eqs_map {α : Type} [En α] [DecidableEq α] [EnEq α] : ∀ xs ys : List α, D.eqs (xs.map En.e) (ys.map En.e) = decide (xs = ys)
  | [], [] => rfl
  | [], _ :: _ => by simp; rfl
  | _ :: _, [] => by simp; rfl
  | x :: xs, y :: ys => by
    show (D.eq (En.e x) (En.e y) && D.eqs (xs.map En.e) (ys.map En.e)) = _
    rw [EnEq.eq, eqs_map xs ys, ← Bool.decide_and]
    exact dec_iff ⟨fun h => by rw [h.1, h.2], fun h => by injection h with h1 h2; exact ⟨h1, h2⟩⟩
theorem ok_maps {α : Type} [En α] [DecidableEq α] [EnEq α] {n : Nat} (h : EnEq.k α ≤ n) (xs : List α) : (xs.map En.e).all (D.ok n) = true := by
  rw [List.all_map, List.all_eq_true]
  exact fun x _ => EnEq.ok x n h
instance {α : Type} [En α] [DecidableEq α] [EnEq α] : EnEq (List α) := ⟨EnEq.k α + 1, fun a n h => by
  obtain ⟨m, rfl⟩ : ∃ m, n = m + 1 := ⟨n - 1, by omega⟩
  exact ok_maps (by omega) a, fun a b => eqs_map a b⟩
instance {α : Type} [En α] [DecidableEq α] [EnEq α] : EnEq (Tp α) := ⟨EnEq.k α + 1, fun a n h => by
  obtain ⟨m, rfl⟩ : ∃ m, n = m + 1 := ⟨n - 1, by omega⟩
  exact ok_maps (by omega) a.l, fun a b => by
    show D.eqs (a.l.map En.e) (b.l.map En.e) = _
    rw [eqs_map]
    exact dec_iff ⟨fun h => by cases a; cases b; simp at h; rw [h], fun h => by rw [h]⟩⟩
instance {α : Type} [En α] [DecidableEq α] [EnEq α] [EnNN α] : EnEq (Option α) := ⟨EnEq.k α, fun a n h => by
  cases a with
  | none => exact ok_non n
  | some a => exact EnEq.ok a n h, fun a b => by
  cases a with
  | none =>
    cases b with
    | none => rfl
    | some b => exact EnNN.l b
  | some a =>
    cases b with
    | none => exact EnNN.r a
    | some b =>
      show D.eq (En.e a) (En.e b) = _
      rw [EnEq.eq]
      exact dec_iff ⟨fun h => by rw [h], fun h => by injection h⟩⟩
instance {α : Type} [En α] [DecidableEq α] [EnEq α] : EnEq (P1 α) := ⟨EnEq.k α + 1, fun a n h => by
  obtain ⟨m, rfl⟩ : ∃ m, n = m + 1 := ⟨n - 1, by omega⟩
  show [En.e a.a].all (D.ok m) = true
  simp [EnEq.ok a.a m (by omega)], fun x y => by
  show D.eqs [En.e x.a] [En.e y.a] = _
  simp only [D.eqs, EnEq.eq, Bool.and_true]
  exact dec_iff ⟨fun h => by cases x; cases y; simp at h; rw [h], fun h => by rw [h]⟩⟩
instance {α β : Type} [En α] [DecidableEq α] [EnEq α] [En β] [DecidableEq β] [EnEq β] : EnEq (P2 α β) := ⟨max (EnEq.k α) (EnEq.k β) + 1, fun a n h => by
  obtain ⟨m, rfl⟩ : ∃ m, n = m + 1 := ⟨n - 1, by omega⟩
  show [En.e a.a, En.e a.b].all (D.ok m) = true
  simp [EnEq.ok a.a m (by omega), EnEq.ok a.b m (by omega)], fun x y => by
  show D.eqs [En.e x.a, En.e x.b] [En.e y.a, En.e y.b] = _
  simp only [D.eqs, EnEq.eq, Bool.and_true, ← Bool.decide_and]
  exact dec_iff ⟨fun h => by cases x; cases y; simp at h; simp [h], fun h => by rw [h]; exact ⟨rfl, rfl⟩⟩⟩
instance {α β γ : Type} [En α] [DecidableEq α] [EnEq α] [En β] [DecidableEq β] [EnEq β] [En γ] [DecidableEq γ] [EnEq γ] : EnEq (P3 α β γ) := ⟨max (EnEq.k α) (max (EnEq.k β) (EnEq.k γ)) + 1, fun a n h => by
  obtain ⟨m, rfl⟩ : ∃ m, n = m + 1 := ⟨n - 1, by omega⟩
  show [En.e a.a, En.e a.b, En.e a.c].all (D.ok m) = true
  simp [EnEq.ok a.a m (by omega), EnEq.ok a.b m (by omega), EnEq.ok a.c m (by omega)], fun x y => by
  show D.eqs [En.e x.a, En.e x.b, En.e x.c] [En.e y.a, En.e y.b, En.e y.c] = _
  simp only [D.eqs, EnEq.eq, Bool.and_true, ← Bool.decide_and]
  exact dec_iff ⟨fun h => by cases x; cases y; simp at h; simp [h], fun h => by rw [h]; exact ⟨rfl, rfl, rfl⟩⟩⟩

/-! ### one reading keeps to another one -/
def Rf {α β : Type} (R : α → β → Prop) : M α → M β → Prop
  | _, .bad => True
  | .ret a, .ret b => R a b
  | .draw n k, .draw n' k' => n = n' ∧ ∀ i, i < n → Rf R (k i) (k' i)
  | _, _ => False
theorem rf_bad {α β : Type} {R : α → β → Prop} {m : M α} : Rf R m .bad := by
  cases m <;> trivial
theorem rf_ret {α β : Type} {R : α → β → Prop} {a : α} {b : β} (h : R a b) : Rf R (.ret a) (.ret b) := h
theorem rf_bind {α β γ δ : Type} {R : α → β → Prop} {Q : γ → δ → Prop} {f : α → M γ} {g : β → M δ} : ∀ {m : M α} {t : M β}, Rf R m t → (∀ a b, R a b → Rf Q (f a) (g b)) → Rf Q (m.bind f) (t.bind g)
  | _, .bad, _, _ => rf_bad
  | .ret a, .ret b, h, k => k a b h
  | .draw n x, .draw n' y, h, k => ⟨h.1, fun i hi => rf_bind (h.2 i hi) k⟩
  | .bad, .ret _, h, _ => h.elim
  | .bad, .draw _ _, h, _ => h.elim
  | .ret _, .draw _ _, h, _ => h.elim
  | .draw _ _, .ret _, h, _ => h.elim
theorem rf_mono {α β : Type} {R Q : α → β → Prop} (k : ∀ a b, R a b → Q a b) : ∀ {m : M α} {t : M β}, Rf R m t → Rf Q m t
  | _, .bad, _ => rf_bad
  | .ret a, .ret b, h => k a b h
  | .draw n x, .draw n' y, h => ⟨h.1, fun i hi => rf_mono k (h.2 i hi)⟩
  | .bad, .ret _, h => h.elim
  | .bad, .draw _ _, h => h.elim
  | .ret _, .draw _ _, h => h.elim
  | .draw _ _, .ret _, h => h.elim
theorem rf_all {α β : Type} {R : α → β → Prop} {P : β → Prop} {Q : α → Prop} (k : ∀ a b, R a b → P b → Q a) : ∀ {m : M α} {t : M β}, Rf R m t → t.All P → m.All Q
  | _, .bad, _, h => h.elim
  | .ret a, .ret b, h, p => k a b h p
  | .draw n x, .draw n' y, h, p => by
    obtain ⟨rfl, h⟩ := h
    exact ⟨p.1, fun i hi => rf_all k (h i hi) (p.2 i hi)⟩
  | .bad, .ret _, h, _ => h.elim
  | .bad, .draw _ _, h, _ => h.elim
  | .ret _, .draw _ _, h, _ => h.elim
  | .draw _ _, .ret _, h, _ => h.elim
/-- what is told by a D and what by its own kind -/
def RE {α : Type} [En α] (d : D) (a : α) : Prop := d = En.e a
theorem rf_e {α : Type} [En α] {m : M D} {a : α} (h : m = .ret (En.e a)) : Rf RE m (.ret a) := by rw [h]; exact rfl
theorem rf_cases {α β : Type} {R : α → β → Prop} {m : M α} {b : β} (h : Rf R m (.ret b)) : ∃ a, m = .ret a ∧ R a b := by
  cases m with
  | ret a => exact ⟨a, rfl, h⟩
  | _ => exact h.elim

/-! ### what is known of the names -/
abbrev Pt := List (Option Sl)
structure Fits (p : Pt) (ρ : Ev) : Prop where
  len : p.length = ρ.length
  at_ : ∀ (i : Nat) (s : Sl), p[i]? = some (some s) → ρ[i]? = some s
/-- less is known -/
inductive Sub : Pt → Pt → Prop
  | n : Sub [] []
  | k {s : Option Sl} {p q : Pt} : Sub p q → Sub (s :: p) (s :: q)
  | d {s : Option Sl} {p q : Pt} : Sub p q → Sub (s :: p) (none :: q)
theorem Sub.len {p q : Pt} (h : Sub p q) : p.length = q.length := by
  induction h with
  | n => rfl
  | k _ ih => simp [ih]
  | d _ ih => simp [ih]
theorem Sub.at_ {p q : Pt} (h : Sub p q) : ∀ (i : Nat) (s : Sl), q[i]? = some (some s) → p[i]? = some (some s) := by
  induction h with
  | n => intro i s e; exact e
  | k _ ih =>
    intro i s e
    cases i with
    | zero => exact e
    | succ i => exact ih i s e
  | d _ ih =>
    intro i s e
    cases i with
    | zero => cases e
    | succ i => exact ih i s e
theorem Fits.sub {p q : Pt} {ρ : Ev} (h : Fits p ρ) (s : Sub p q) : Fits q ρ := ⟨s.len ▸ h.len, fun i x e => h.at_ i x (s.at_ i x e)⟩
theorem Fits.set {p : Pt} {ρ : Ev} (h : Fits p ρ) (i : Nat) (s : Sl) : Fits (p.set i (some s)) (ρ.set i s) := by
  refine ⟨by simpa using h.len, fun j x e => ?_⟩
  by_cases hj : i = j
  · subst hj
    have hi : i < p.length := by
      have := (List.getElem?_eq_some_iff.mp e).1
      simpa using this
    rw [List.getElem?_set_self hi] at e
    rw [List.getElem?_set_self (h.len ▸ hi)]
    cases e
    rfl
  · rw [List.getElem?_set_ne hj] at e ⊢
    exact h.at_ j x e
theorem Fits.setNo {p : Pt} {ρ : Ev} (h : Fits p ρ) (i : Nat) (s : Sl) : Fits (p.set i none) (ρ.set i s) := by
  refine ⟨by simpa using h.len, fun j x e => ?_⟩
  by_cases hj : i = j
  · subst hj
    have hi : i < p.length := by
      have := (List.getElem?_eq_some_iff.mp e).1
      simpa using this
    rw [List.getElem?_set_self hi] at e
    cases e
  · rw [List.getElem?_set_ne hj] at e ⊢
    exact h.at_ j x e
def wipeP (p : Pt) : List Nat → Pt
  | [] => p
  | i :: vs => (wipeP p vs).set i none
theorem Fits.wipe {p : Pt} {ρ : Ev} (h : Fits p ρ) : ∀ vs : List Nat, Fits (wipeP p vs) (wipe ρ vs)
  | [] => h
  | i :: vs => (Fits.wipe h vs).setNo i .no
theorem Fits.lt {p : Pt} {ρ : Ev} (h : Fits p ρ) {i : Nat} (hi : i < p.length) : i < ρ.length := h.len ▸ hi

/-! ### expressions -/
structure XE {α : Type} [En α] (p : Pt) (f : FE) (t : M α) : Prop where
  go : ∀ ρ, Fits p ρ → Rf RE (f ρ) t
/-- .. and what is done with it -/
structure XG {α : Type} [En α] (p : Pt) (h : D → M D) (f : FE) (t : M α) : Prop where
  go : ∀ ρ, Fits p ρ → Rf RE ((f ρ).bind h) t
structure XF {α : Type} [En α] (p : Pt) (h : List D → M D) (f : FL) (t : M α) : Prop where
  go : ∀ ρ, Fits p ρ → Rf RE ((f ρ).bind h) t
section
variable {α β γ : Type} [En α] [En β] [En γ] {p : Pt} {f f1 f2 f3 : FE} {fl : FL} {a : α} {b : β} {t1 : M α} {g g' : D → D → M D} {h : D → M D}
theorem XE.ret (x : XE p f (.ret a)) {ρ : Ev} (q : Fits p ρ) : f ρ = .ret (En.e a) := by
  obtain ⟨d, e, r⟩ := rf_cases (x.go ρ q)
  rw [e]; exact congrArg M.ret r
theorem x_var {i : Nat} (a : α) (e : p[i]? = some (some (.fz (En.e a)))) : XE p (fVar i) (.ret a) := ⟨fun ρ q => rf_e (by
  unfold fVar
  rw [q.at_ i _ e])⟩
theorem x_bor {i : Nat} (a : α) (e : p[i]? = some (some (.fz (En.e a)))) : XE p (fBor i) (.ret a) := ⟨fun ρ q => rf_e (by
  unfold fBor
  rw [q.at_ i _ e])⟩
theorem x_own {i : Nat} (xs : List α) (e : p[i]? = some (some (.ow (xs.map En.e)))) : XE p (fBor i) (.ret xs) := ⟨fun ρ q => rf_e (by
  unfold fBor
  rw [q.at_ i _ e]
  rfl)⟩
theorem x_c {d : D} (a : α) (e : d = En.e a) : XE p (fC d) (.ret a) := ⟨fun ρ q => rf_e (by rw [e]; rfl)⟩
theorem x_bad : XE p f (.bad : M α) := ⟨fun _ _ => rf_bad⟩
/-- a value of another kind -/
theorem x_cast {b : β} (e : En.e a = En.e b) (x : XE p f (.ret a)) : XE p f (.ret b) := ⟨fun ρ q => rf_e (by rw [x.ret q, e])⟩
theorem x_castM (c : α → β) (e : ∀ a, En.e a = En.e (c a)) (x : XE p f t1) : XE p f (t1.bind fun a => .ret (c a)) := ⟨fun ρ q => by
  have := rf_bind (f := M.ret) (g := fun a => M.ret (c a)) (Q := RE) (x.go ρ q) fun d a r => rf_ret (by unfold RE at *; rw [r, e])
  rwa [M.bind_ret] at this⟩
theorem x_castP (c : α → M β) (e : ∀ a, Rf RE (.ret (En.e a)) (c a)) (x : XE p f t1) : XE p f (t1.bind c) := ⟨fun ρ q => by
  have := rf_bind (f := M.ret) (g := c) (Q := RE) (x.go ρ q) fun d a r => by unfold RE at r; rw [r]; exact e a
  rwa [M.bind_ret] at this⟩
theorem xg_p {t : M β} (x : XE p f (.ret a)) (r : Rf RE (h (En.e a)) t) : XG p h f t := ⟨fun ρ q => by rw [x.ret q]; exact r⟩
theorem xg_m {t : α → M β} (x : XE p f t1) (r : ∀ a, Rf RE (h (En.e a)) (t a)) : XG p h f (t1.bind t) := ⟨fun ρ q => rf_bind (x.go ρ q) fun d a e => by unfold RE at e; rw [e]; exact r a⟩
theorem xu {t : M β} (x : XG p h f t) : XE p (fUn h f) t := ⟨fun ρ q => x.go ρ q⟩
theorem xo_p {t : M γ} (x : XE p f1 (.ret a)) (y : XG p (g (En.e a)) f2 t) : XE p (fOp g f1 f2) t := ⟨fun ρ q => by
  rw [e_fOp, x.ret q]
  exact y.go ρ q⟩
theorem xo_m {t : α → M γ} (x : XE p f1 t1) (y : ∀ a, XG p (g (En.e a)) f2 (t a)) : XE p (fOp g f1 f2) (t1.bind t) := ⟨fun ρ q => by
  rw [e_fOp]
  exact rf_bind (x.go ρ q) fun d a e => by unfold RE at e; rw [e]; exact (y a).go ρ q⟩
theorem xf_nil {S : List D → M D} {t : M γ} (r : Rf RE (S []) t) : XF p S fNil t := ⟨fun ρ q => r⟩
theorem xf_p {S : List D → M D} {t : M γ} (x : XE p f (.ret a)) (y : XF p (fun l => S (En.e a :: l)) fl t) : XF p S (fCons f fl) t := ⟨fun ρ q => by
  rw [e_fCons, x.ret q]
  have := y.go ρ q
  simp only [M.ret_bind, M.bind_assoc]
  exact this⟩
theorem xf_m {S : List D → M D} {t : α → M γ} (x : XE p f t1) (y : ∀ a, XF p (fun l => S (En.e a :: l)) fl (t a)) : XF p S (fCons f fl) (t1.bind t) := ⟨fun ρ q => by
  rw [e_fCons, M.bind_assoc]
  exact rf_bind (x.go ρ q) fun d a e => by
    unfold RE at e
    rw [e]
    have := (y a).go ρ q
    simp only [M.ret_bind, M.bind_assoc]
    exact this⟩
theorem xa {S : List D → M D} {t : M γ} (y : XF p S fl t) : XE p (fArgs S fl) t := ⟨fun ρ q => y.go ρ q⟩
variable {c : FE} {bb : Bool} {tb : M Bool}
theorem rf_onb {m m' : M D} {t t' : M γ} (b : Bool) (h1 : Rf RE m t) (h2 : Rf RE m' t') : Rf RE (onB (.bl b) m m') (if b = true then t else t') := by
  cases b
  · exact h2
  · exact h1
theorem xi_p {t t' : M γ} (x : XE p c (.ret bb)) (y : XE p f1 t) (z : XE p f2 t') : XE p (fIf c f1 f2) (if bb = true then t else t') := ⟨fun ρ q => by
  rw [e_fIf, x.ret q]
  exact rf_onb bb (y.go ρ q) (z.go ρ q)⟩
theorem xi_pp {a a' : γ} (x : XE p c (.ret bb)) (y : XE p f1 (.ret a)) (z : XE p f2 (.ret a')) : XE p (fIf c f1 f2) (.ret (if bb = true then a else a')) := ⟨fun ρ q => by
  have := rf_onb bb (y.go ρ q) (z.go ρ q)
  rw [e_fIf, x.ret q]
  cases bb <;> exact this⟩
theorem xi_m {t t' : M γ} (x : XE p c tb) (y : XE p f1 t) (z : XE p f2 t') : XE p (fIf c f1 f2) (tb.bind fun b => if b = true then t else t') := ⟨fun ρ q => by
  rw [e_fIf]
  exact rf_bind (x.go ρ q) fun d a e => by unfold RE at e; rw [e]; exact rf_onb a (y.go ρ q) (z.go ρ q)⟩
/-- a test that is known: the other way is none -/
theorem xi_t {t : M γ} (x : XE p c (.ret true)) (y : XE p f1 t) : XE p (fIf c f1 f2) t := ⟨fun ρ q => by
  rw [e_fIf, x.ret q]
  exact y.go ρ q⟩
theorem xi_f {t : M γ} (x : XE p c (.ret false)) (y : XE p f2 t) : XE p (fIf c f1 f2) t := ⟨fun ρ q => by
  rw [e_fIf, x.ret q]
  exact y.go ρ q⟩
variable {b1 b2 b3 : Bool} {tc : M Bool}
theorem xn_t {t : M Bool} (x : XE p f1 (.ret true)) (y : XE p f2 t) : XE p (fAnd f1 f2) t := ⟨fun ρ q => by
  rw [e_fAnd, x.ret q]
  exact y.go ρ q⟩
theorem xn_f (x : XE p f1 (.ret false)) : XE p (fAnd f1 f2) (.ret false) := ⟨fun ρ q => by
  rw [e_fAnd, x.ret q]
  exact rf_e rfl⟩
theorem xr_f {t : M Bool} (x : XE p f1 (.ret false)) (y : XE p f2 t) : XE p (fOr f1 f2) t := ⟨fun ρ q => by
  rw [e_fOr, x.ret q]
  exact y.go ρ q⟩
theorem xr_t (x : XE p f1 (.ret true)) : XE p (fOr f1 f2) (.ret true) := ⟨fun ρ q => by
  rw [e_fOr, x.ret q]
  exact rf_e rfl⟩
theorem xn_pp (x : XE p f1 (.ret b1)) (y : XE p f2 (.ret b2)) : XE p (fAnd f1 f2) (.ret (b1 && b2)) := ⟨fun ρ q => by
  have := y.go ρ q
  rw [e_fAnd, x.ret q]
  cases b1
  · exact rf_e rfl
  · exact this⟩
theorem xn_p {t : M Bool} (x : XE p f1 (.ret b1)) (y : XE p f2 t) : XE p (fAnd f1 f2) (if b1 = true then t else .ret false) := ⟨fun ρ q => by
  rw [e_fAnd, x.ret q]
  exact rf_onb b1 (y.go ρ q) (rf_e rfl)⟩
theorem xn_m {t : M Bool} (x : XE p f1 tb) (y : XE p f2 t) : XE p (fAnd f1 f2) (tb.bind fun b => if b = true then t else .ret false) := ⟨fun ρ q => by
  rw [e_fAnd]
  exact rf_bind (x.go ρ q) fun d a e => by unfold RE at e; rw [e]; exact rf_onb a (y.go ρ q) (rf_e rfl)⟩
theorem xr_pp (x : XE p f1 (.ret b1)) (y : XE p f2 (.ret b2)) : XE p (fOr f1 f2) (.ret (b1 || b2)) := ⟨fun ρ q => by
  have := y.go ρ q
  rw [e_fOr, x.ret q]
  cases b1
  · exact this
  · exact rf_e rfl⟩
theorem xr_p {t : M Bool} (x : XE p f1 (.ret b1)) (y : XE p f2 t) : XE p (fOr f1 f2) (if b1 = true then .ret true else t) := ⟨fun ρ q => by
  rw [e_fOr, x.ret q]
  exact rf_onb b1 (rf_e rfl) (y.go ρ q)⟩
theorem xr_m {t : M Bool} (x : XE p f1 tb) (y : XE p f2 t) : XE p (fOr f1 f2) (tb.bind fun b => if b = true then .ret true else t) := ⟨fun ρ q => by
  rw [e_fOr]
  exact rf_bind (x.go ρ q) fun d a e => by unfold RE at e; rw [e]; exact rf_onb a (rf_e rfl) (y.go ρ q)⟩
/-- a chain of two comparisons -/
theorem xc_ppp {c : γ} (x : XE p f1 (.ret a)) (y : XE p f2 (.ret b)) (z : XE p f3 (.ret c)) (r : Rf RE (g (En.e a) (En.e b)) (.ret b1)) (r' : Rf RE (g' (En.e b) (En.e c)) (.ret b2)) : XE p (fChain g g' f1 f2 f3) (.ret (b1 && b2)) := ⟨fun ρ q => by
  obtain ⟨d, e1, e2⟩ := rf_cases r
  obtain ⟨d', e1', e2'⟩ := rf_cases r'
  unfold RE at e2 e2'
  subst e2 e2'
  have h1 : g (En.e a) (En.e b) = .ret (.bl b1) := e1
  have h2 : g' (En.e b) (En.e c) = .ret (.bl b2) := e1'
  rw [e_fChain, x.ret q, M.ret_bind, y.ret q, M.ret_bind, h1, M.ret_bind, z.ret q, M.ret_bind, h2]
  cases b1 <;> exact rf_e rfl⟩
/-- .. the second one is done by another M -/
theorem xc_pp {t : M Bool} (x : XE p f1 (.ret a)) (y : XE p f2 (.ret b)) (r : Rf RE (g (En.e a) (En.e b)) (.ret b1)) (z : XG p (g' (En.e b)) f3 t) : XE p (fChain g g' f1 f2 f3) (if b1 = true then t else .ret false) := ⟨fun ρ q => by
  obtain ⟨d, e1, e2⟩ := rf_cases r
  unfold RE at e2
  subst e2
  have h1 : g (En.e a) (En.e b) = .ret (.bl b1) := e1
  rw [e_fChain, x.ret q, M.ret_bind, y.ret q, M.ret_bind, h1, M.ret_bind]
  exact rf_onb b1 (z.go ρ q) (rf_e rfl)⟩
theorem xc_pm {t2 : M β} {b1 : β → Bool} {t : β → M Bool} (x : XE p f1 (.ret a)) (y : XE p f2 t2) (r : ∀ b, Rf RE (g (En.e a) (En.e b)) (.ret (b1 b))) (z : ∀ b, XG p (g' (En.e b)) f3 (t b)) : XE p (fChain g g' f1 f2 f3) (t2.bind fun b => if b1 b = true then t b else .ret false) := ⟨fun ρ q => by
  rw [e_fChain, x.ret q, M.ret_bind]
  refine rf_bind (y.go ρ q) fun d b e => ?_
  unfold RE at e
  subst e
  obtain ⟨d, e1, e2⟩ := rf_cases (r b)
  unfold RE at e2
  subst e2
  have h1 : g (En.e a) (En.e b) = .ret (.bl (b1 b)) := e1
  rw [h1, M.ret_bind]
  exact rf_onb (b1 b) ((z b).go ρ q) (rf_e rfl)⟩
/-- .. where the first comparison may fail -/
theorem xc_mm {t2 : M β} {u : α → β → M Bool} {t : α → β → M Bool} (x : XE p f1 t1) (y : XE p f2 t2) (r : ∀ a b, Rf RE (g (En.e a) (En.e b)) (u a b)) (z : ∀ a b, XG p (g' (En.e b)) f3 (t a b)) : XE p (fChain g g' f1 f2 f3) (t1.bind fun a => t2.bind fun b => (u a b).bind fun c => if c = true then t a b else .ret false) := ⟨fun ρ q => by
  rw [e_fChain]
  refine rf_bind (x.go ρ q) fun d a e => ?_
  unfold RE at e
  subst e
  refine rf_bind (y.go ρ q) fun d b e => ?_
  unfold RE at e
  subst e
  refine rf_bind (r a b) fun d c e => ?_
  unfold RE at e
  subst e
  exact rf_onb c ((z a b).go ρ q) (rf_e rfl)⟩
end

/-! ### what is walked -/
def RL {α : Type} [En α] (ds : List D) (xs : List α) : Prop := ds = xs.map En.e
structure XI {α : Type} [En α] (p : Pt) (f : FL) (t : M (List α)) : Prop where
  go : ∀ ρ, Fits p ρ → Rf RL (f ρ) t
section
variable {α β γ : Type} [En α] [En β] [En γ] {p : Pt} {f f1 f2 : FE} {it : FL}
theorem XI.ret {xs : List α} (x : XI p it (.ret xs)) {ρ : Ev} (q : Fits p ρ) : it ρ = .ret (xs.map En.e) := by
  obtain ⟨d, e, r⟩ := rf_cases (x.go ρ q)
  rw [e]; exact congrArg M.ret r
theorem wi_lst {xs : List α} (x : XE p f (.ret xs)) : XI p (iSeq f) (.ret xs) := ⟨fun ρ q => by
  show Rf RL ((f ρ).bind wSeq) _
  rw [x.ret q]
  exact rfl⟩
theorem wi_lstM {t : M (List α)} (x : XE p f t) : XI p (iSeq f) t := ⟨fun ρ q => by
  have := rf_bind (f := wSeq) (g := M.ret) (Q := RL) (x.go ρ q) fun d a e => by unfold RE at e; subst e; exact rfl
  rwa [M.bind_ret] at this⟩
theorem wi_tp {xs : Tp α} (x : XE p f (.ret xs)) : XI p (iSeq f) (.ret xs.l) := ⟨fun ρ q => by
  show Rf RL ((f ρ).bind wSeq) _
  rw [x.ret q]
  exact rfl⟩
theorem wi_tpM {t : M (Tp α)} (x : XE p f t) : XI p (iSeq f) (t.bind fun x => .ret x.l) := ⟨fun ρ q => rf_bind (x.go ρ q) fun d a e => by unfold RE at e; subst e; exact rfl⟩
def chs (s : List Nat) : M (List Ch) := if s.length ≤ sizeMax then .ret (s.map Ch.mk) else .bad
theorem rf_chs (s : List Nat) : Rf RL (wSeq (.str s)) (chs s) := by
  unfold chs
  by_cases h : s.length ≤ sizeMax
  · rw [if_pos h, w_str h]
    show List.map _ _ = List.map _ _
    rw [List.map_map]
    rfl
  · rw [if_neg h]
    exact rf_bad
theorem wi_str {s : List Nat} (x : XE p f (.ret s)) : XI p (iSeq f) (chs s) := ⟨fun ρ q => by
  show Rf RL ((f ρ).bind wSeq) _
  rw [x.ret q]
  exact rf_chs s⟩
theorem wi_strM {t : M (List Nat)} (x : XE p f t) : XI p (iSeq f) (t.bind chs) := ⟨fun ρ q => rf_bind (x.go ρ q) fun d a e => by unfold RE at e; subst e; exact rf_chs a⟩
def rngI (lo : Int) (n : Nat) : List Int := (List.range n).map fun (i : Nat) => lo + (i : Int)
def rngN (n : Nat) : List Int := (List.range n).map fun (i : Nat) => (i : Int)
def rg1 (j : Int) : M (List Int) := if j.natAbs ≤ 4000000 then .ret (rngN j.toNat) else .bad
def rg2 (i j : Int) : M (List Int) := if i.natAbs ≤ 4000000 ∧ j.natAbs ≤ 4000000 then .ret (rngI i (j - i).toNat) else .bad
theorem rngL_map (lo : Int) (n : Nat) : rngL lo n = (rngI lo n).map En.e := by
  unfold rngL rngI
  rw [List.map_map]
  rfl
theorem rngN_map (n : Nat) : rngL 0 n = (rngN n).map En.e := by
  unfold rngL rngN
  rw [List.map_map]
  refine List.map_congr_left fun i _ => ?_
  rw [Int.zero_add]
  rfl
theorem rf_rg1 (j : Int) : Rf RL (asRng1 (.int j)) (rg1 j) := by
  show Rf RL (rng1 j) _
  unfold rng1 rg1
  by_cases h : j.natAbs ≤ 4000000
  · rw [if_pos h, if_pos h]
    exact rngN_map _
  · rw [if_neg h, if_neg h]
    exact rf_bad
theorem rf_rg2 (i j : Int) : Rf RL (asRng2 (.int i) (.int j)) (rg2 i j) := by
  show Rf RL (rng2 i j) _
  unfold rng2 rg2
  by_cases h : i.natAbs ≤ 4000000 ∧ j.natAbs ≤ 4000000
  · rw [if_pos h, if_pos h]
    exact rngL_map _ _
  · rw [if_neg h, if_neg h]
    exact rf_bad
theorem wi_r1 {j : Int} (x : XE p f (.ret j)) : XI p (iRange1 f) (rg1 j) := ⟨fun ρ q => by
  rw [e_iRange1, x.ret q]
  exact rf_rg1 j⟩
theorem wi_r1M {t : M Int} (x : XE p f t) : XI p (iRange1 f) (t.bind rg1) := ⟨fun ρ q => by
  rw [e_iRange1]
  exact rf_bind (x.go ρ q) fun d a e => by unfold RE at e; subst e; exact rf_rg1 a⟩
theorem wi_r2 {t t' : M Int} (x : XE p f1 t) (y : XE p f2 t') : XI p (iRange2 f1 f2) (t.bind fun i => t'.bind fun j => rg2 i j) := ⟨fun ρ q => by
  rw [e_iRange2]
  exact rf_bind (x.go ρ q) fun d a e => by
    unfold RE at e; subst e
    exact rf_bind (y.go ρ q) fun d b e => by
      unfold RE at e; subst e
      exact rf_rg2 a b⟩
theorem wi_r2p {i j : Int} (x : XE p f1 (.ret i)) (y : XE p f2 (.ret j)) : XI p (iRange2 f1 f2) (rg2 i j) := wi_r2 x y
/-- a pair, a triple walked -/
theorem wi_P2 {x : P2 α α} (h : XE p f (.ret x)) : XI p (iSeq f) (.ret [x.a, x.b]) := ⟨fun ρ q => by
  show Rf RL ((f ρ).bind wSeq) _
  rw [h.ret q]
  exact rfl⟩
/-! targets -/
structure XT (p : Pt) (vs : List Nat) (tg : FG) (p' : α → Pt) : Prop where
  go : ∀ (x : α) (ρ : Ev), Fits p ρ → ∃ ρ2, tg (En.e x) (WK.wipe ρ vs) = some ρ2 ∧ Fits (p' x) ρ2
theorem xt_name {vs : List Nat} {i : Nat} {p' : α → Pt} (h : ∀ x, (wipeP p vs).set i (some (.fz (En.e x))) = p' x) (hi : i < (wipeP p vs).length) : XT p vs (gtName i) p' := ⟨fun x ρ q => ⟨(WK.wipe ρ vs).set i (.fz (En.e x)), by
  unfold gtName
  rw [if_pos ((q.wipe vs).lt hi)], by
  rw [← h x]
  exact (q.wipe vs).set i _⟩⟩
theorem xt_two {vs : List Nat} {i j : Nat} {p' : P2 α β → Pt} (h : ∀ x, ((wipeP p vs).set i (some (.fz (En.e x.a)))).set j (some (.fz (En.e x.b))) = p' x) (hi : i < (wipeP p vs).length) (hj : j < (wipeP p vs).length) : XT p vs (gtTup [gtName i, gtName j]) p' := ⟨fun x ρ q => ⟨((WK.wipe ρ vs).set i (.fz (En.e x.a))).set j (.fz (En.e x.b)), by
  have h1 : i < (WK.wipe ρ vs).length := (q.wipe vs).lt hi
  have h2 : j < (WK.wipe ρ vs).length := (q.wipe vs).lt hj
  show gtTup [gtName i, gtName j] (.tup [En.e x.a, En.e x.b]) _ = _
  simp [h1, h2], by
  rw [← h x]
  exact ((q.wipe vs).set i _).set j _⟩⟩
/-! comprehensions -/
def lcG {α β : Type} (tt : α → M Bool) (te : α → M β) : List α → M (List β)
  | [] => .ret []
  | x :: xs => (tt x).bind fun b => (if b = true then (te x).bind fun y => .ret [y] else .ret []).bind fun ys => (lcG tt te xs).bind fun zs => .ret (ys ++ zs)
def lcM {α β : Type} (xs : List α) (tt : α → M Bool) (te : α → M β) : M (List β) := if xs.length < sizeMax then lcG tt te xs else .bad
def lcP {α β : Type} (xs : List α) (tt : α → Bool) (te : α → β) : M (List β) := if xs.length < sizeMax then .ret ((xs.filter tt).map te) else .bad
def lcA {α β : Type} (xs : List α) (te : α → β) : M (List β) := if xs.length < sizeMax then .ret (xs.map te) else .bad
theorem lcG_pure {α β : Type} {tt : α → M Bool} {te : α → M β} {t : α → Bool} {g : α → β} : ∀ {xs : List α}, (∀ x, x ∈ xs → tt x = .ret (t x)) → (∀ x, x ∈ xs → t x = true → te x = .ret (g x)) → lcG tt te xs = .ret ((xs.filter t).map g)
  | [], _, _ => rfl
  | x :: xs, h1, h2 => by
    unfold lcG
    rw [h1 x List.mem_cons_self, M.ret_bind, lcG_pure (fun y hy => h1 y (List.mem_cons_of_mem _ hy)) fun y hy => h2 y (List.mem_cons_of_mem _ hy)]
    cases hb : t x with
    | true => simp [h2 x List.mem_cons_self hb, hb]
    | false => simp [hb]
theorem lc_rf {tg : FG} {test elt : FE} {ρ0 : Ev} {tt : α → M Bool} {te : α → M β} (hx : ∀ x : α, ∃ ρ2, tg (En.e x) ρ0 = some ρ2 ∧ Rf RE (test ρ2) (tt x) ∧ Rf RE (elt ρ2) (te x)) : ∀ xs : List α,
    Rf RE ((mapM (lcOne tg test elt ρ0) (xs.map En.e)).bind lcAll) (lcG tt te xs) := by
  suffices h : ∀ xs : List α, Rf (fun (yss : List (List D)) ys => yss.flatten = ys.map En.e) (mapM (lcOne tg test elt ρ0) (xs.map En.e)) (lcG tt te xs) by
    intro xs
    have := rf_bind (f := lcAll) (g := M.ret) (Q := RE) (h xs) fun yss ys e => by
      show D.lst _ = D.lst _
      rw [e]
    rwa [M.bind_ret] at this
  intro xs
  induction xs with
  | nil => exact rf_ret rfl
  | cons x xs ih =>
    obtain ⟨ρ2, e, h1, h2⟩ := hx x
    show Rf _ ((lcOne tg test elt ρ0 (En.e x)).bind fun y => (mapM _ _).bind fun ys => .ret (y :: ys)) ((tt x).bind _)
    unfold lcOne
    rw [e]
    show Rf _ (((test ρ2).bind fun b => onB b ((elt ρ2).bind fun d => .ret [d]) (.ret [])).bind _) _
    rw [M.bind_assoc]
    refine rf_bind h1 fun d b eb => ?_
    unfold RE at eb
    subst eb
    refine rf_bind (R := fun (ds : List D) ys => ds = ys.map En.e) ?_ fun ds ys es => rf_bind ih fun yss zs ez => rf_ret ?_
    · cases b with
      | true => exact rf_bind h2 fun d y ey => rf_ret (by unfold RE at ey; rw [ey]; rfl)
      | false => exact rf_ret rfl
    · show (ds :: yss).flatten = _
      rw [List.flatten_cons, es, ez, List.map_append]
theorem x_lcG {tg : FG} {test elt : FE} {vs : List Nat} {p' : α → Pt} {ti : M (List α)} {tt : α → M Bool} {te : α → M β} (hi : XI p it ti) (ht : XT p vs tg p') (h1 : ∀ x, XE (p' x) test (tt x)) (h2 : ∀ x, XE (p' x) elt (te x)) :
    XE p (fLc it tg test elt vs) (ti.bind fun xs => lcM xs tt te) := ⟨fun ρ q => by
  show Rf RE ((it ρ).bind fun xs => if xs.length < sizeMax then _ else _) _
  refine rf_bind (hi.go ρ q) fun ds xs e => ?_
  unfold RL at e
  subst e
  unfold lcM
  rw [List.length_map]
  by_cases hz : xs.length < sizeMax
  · rw [if_pos hz, if_pos hz]
    exact lc_rf (fun x => by
      obtain ⟨ρ2, e, f⟩ := ht.go x ρ q
      exact ⟨ρ2, e, (h1 x).go ρ2 f, (h2 x).go ρ2 f⟩) xs
  · rw [if_neg hz, if_neg hz]
    exact rf_bad⟩
theorem lcM_pure (xs : List α) (t : α → Bool) (g : α → β) : lcM xs (fun x => .ret (t x)) (fun x => .ret (g x)) = lcP xs t g := by
  unfold lcM lcP
  rw [lcG_pure (t := t) (g := g) (fun _ _ => rfl) fun _ _ _ => rfl]
theorem lcM_all (xs : List α) (g : α → β) : lcM xs (fun _ => .ret true) (fun x => .ret (g x)) = lcA xs g := by
  unfold lcM lcA
  rw [lcG_pure (t := fun _ => true) (g := g) (fun _ _ => rfl) fun _ _ _ => rfl, List.filter_eq_self.mpr fun _ _ => rfl]
theorem x_lcP {tg : FG} {test elt : FE} {vs : List Nat} {p' : α → Pt} {ti : M (List α)} {t : α → Bool} {g : α → β} (hi : XI p it ti) (ht : XT p vs tg p') (h1 : ∀ x, XE (p' x) test (.ret (t x))) (h2 : ∀ x, XE (p' x) elt (.ret (g x))) :
    XE p (fLc it tg test elt vs) (ti.bind fun xs => lcP xs t g) := by
  have := x_lcG hi ht h1 h2
  simp only [lcM_pure] at this
  exact this
theorem x_lcA {tg : FG} {elt : FE} {vs : List Nat} {p' : α → Pt} {ti : M (List α)} {g : α → β} (hi : XI p it ti) (ht : XT p vs tg p') (h2 : ∀ x, XE (p' x) elt (.ret (g x))) :
    XE p (fLc it tg (fC (.bl true)) elt vs) (ti.bind fun xs => lcA xs g) := by
  have := x_lcG hi ht (tt := fun _ => .ret true) (fun x => x_c true rfl) h2
  simp only [lcM_all] at this
  exact this
end
end WK
end

section
set_option Elab.async false
set_option linter.all false
set_option maxRecDepth 100000
namespace WK
/-! ### statements: what is done, and what comes behind it -/
def sk {δ : Type} (s2 : FS) (k : Fl → M δ) : Fl → M δ := fun fl => (andThen s2 fl).bind k
structure XS {δ β : Type} (Q : δ → β → Prop) (p : Pt) (s : FS) (k : Fl → M δ) (t : M β) : Prop where
  go : ∀ ρ, Fits p ρ → Rf Q ((s ρ).bind k) t
structure XC {δ β : Type} (Q : δ → β → Prop) (p : Pt) (k : Fl → M δ) (t : M β) : Prop where
  go : ∀ ρ, Fits p ρ → Rf Q (k (.nx ρ)) t
section
variable {δ β : Type} {Q : δ → β → Prop} {p p' : Pt} {k : Fl → M δ} {t t' : M β} {s s1 s2 : FS} {α α' α2 α3 α4 : Type} [En α] [En α'] [En α2] [En α3] [En α4] {f g h : FE} {i j l : Nat} {a : α} {b : α'} {t1 : M α} {t2 : M α'} {t3 : M α2}
theorem xs_nil (c : XC Q p k t) : XS Q p sNil k t := ⟨fun ρ q => c.go ρ q⟩
theorem xs_seq (x : XS Q p s1 (sk s2 k) t) : XS Q p (sSeq s1 s2) k t := ⟨fun ρ q => by
  rw [e_sSeq, M.bind_assoc]
  exact x.go ρ q⟩
theorem xc_sk (x : XS Q p s2 k t) : XC Q p (sk s2 k) t := ⟨fun ρ q => x.go ρ q⟩
theorem xc_sub {q : Pt} (h : Sub p q) (x : XC Q q k t) : XC Q p k t := ⟨fun ρ f => x.go ρ (f.sub h)⟩
theorem xc_fin {γ : Type} [En γ] (c : γ) (e : D.non = En.e c) : XC RE p finish (.ret c) := ⟨fun ρ q => rf_e (by rw [← e]; rfl)⟩
theorem run_go {γ : Type} [En γ] {n m : Nat} {B : FS} {args : List D} {t : M γ} (x : XS RE p B finish t) (hl : args.length = m) (hp : (args.map Sl.fz ++ List.replicate (n - m) Sl.no).map some = p) : Rf RE (run n m B args) t := by
  rw [run_eq hl]
  refine x.go _ ?_
  subst hp
  refine ⟨List.length_map _, fun i s e => ?_⟩
  rw [List.getElem?_map] at e
  cases q : (args.map Sl.fz ++ List.replicate (n - m) Sl.no)[i]? with
  | none => rw [q] at e; cases e
  | some u => rw [q] at e; cases e; rfl
theorem xs_asg_p (p' : Pt) (x : XE p f (.ret a)) (e : p.set i (some (.fz (En.e a))) = p') (hi : i < p.length) (c : XC Q p' k t) : XS Q p (sAsg f (gtName i)) k t := ⟨fun ρ q => by
  rw [e_sAsg, x.ret q]
  simp only [M.ret_bind, if_pos (q.lt hi)]
  subst e
  exact c.go _ (q.set i _)⟩
theorem xs_asg (p' : α → Pt) {t : α → M β} (x : XE p f t1) (e : ∀ a, p.set i (some (.fz (En.e a))) = p' a) (hi : i < p.length) (c : ∀ a, XC Q (p' a) k (t a)) : XS Q p (sAsg f (gtName i)) k (t1.bind t) := ⟨fun ρ q => by
  rw [e_sAsg, M.bind_assoc]
  refine rf_bind (x.go ρ q) fun d a r => ?_
  unfold RE at r
  subst r
  simp only [M.ret_bind, if_pos (q.lt hi)]
  have c := c a
  rw [← e a] at c
  exact c.go _ (q.set i _)⟩
theorem seq_asg (g : FG) (x : D) (ρ ρ' : Ev) (h : g x ρ = some ρ') : (match g x ρ with
    | some ρ' => M.ret (Fl.nx ρ')
    | none => .bad).bind k = k (.nx ρ') := by rw [h]; rfl
theorem xs_asgT (p' : α → Pt) {tg : FG} {t : α → M β} (x : XE p f t1) (e : XT p [] tg p') (c : ∀ a, XC Q (p' a) k (t a)) : XS Q p (sAsg f tg) k (t1.bind t) := ⟨fun ρ q => by
  rw [e_sAsgG, M.bind_assoc]
  refine rf_bind (x.go ρ q) fun d a r => ?_
  unfold RE at r
  subst r
  obtain ⟨ρ2, e1, e2⟩ := e.go a ρ q
  have e1 : tg (En.e a) ρ = some ρ2 := e1
  rw [e1]
  exact (c a).go _ e2⟩
theorem xs_own (p' : List α → Pt) {t1 : M (List α)} {t : List α → M β} (x : XE p f t1) (e : ∀ a, p.set i (some (.ow (a.map En.e))) = p' a) (hi : i < p.length) (c : ∀ a, XC Q (p' a) k (t a)) : XS Q p (sOwn i f) k (t1.bind t) := ⟨fun ρ q => by
  rw [e_sOwn, M.bind_assoc]
  refine rf_bind (x.go ρ q) fun d a r => ?_
  unfold RE at r
  subst r
  show Rf Q ((if i < ρ.length then M.ret (Fl.nx (ρ.set i (.ow (a.map En.e)))) else .bad).bind k) _
  rw [if_pos (q.lt hi), M.ret_bind]
  have c := c a
  rw [← e a] at c
  exact c.go _ (q.set i _)⟩
theorem xs_own_p (p' : Pt) {xs : List α} (x : XE p f (.ret xs)) (e : p.set i (some (.ow (xs.map En.e))) = p') (hi : i < p.length) (c : XC Q p' k t) : XS Q p (sOwn i f) k t := ⟨fun ρ q => by
  rw [e_sOwn, x.ret q]
  show Rf Q ((if i < ρ.length then M.ret (Fl.nx (ρ.set i (.ow (xs.map En.e)))) else .bad).bind k) _
  rw [if_pos (q.lt hi), M.ret_bind]
  subst e
  exact c.go _ (q.set i _)⟩
theorem xs_par (p' : α → α' → Pt) {t : α → α' → M β} (x : XE p f t1) (y : XE p g t2) (e : ∀ a b, (p.set i (some (.fz (En.e a)))).set j (some (.fz (En.e b))) = p' a b) (hi : i < p.length) (hj : j < p.length) (c : ∀ a b, XC Q (p' a b) k (t a b)) :
    XS Q p (sPar i j f g) k (t1.bind fun a => t2.bind fun b => t a b) := ⟨fun ρ q => by
  rw [e_sPar, M.bind_assoc]
  refine rf_bind (x.go ρ q) fun d a r => ?_
  unfold RE at r
  subst r
  rw [M.bind_assoc]
  refine rf_bind (y.go ρ q) fun d b r => ?_
  unfold RE at r
  subst r
  rw [if_pos ⟨q.lt hi, q.lt hj⟩, M.ret_bind]
  have := c a b
  rw [← e a b] at this
  exact this.go _ ((q.set i _).set j _)⟩
theorem xs_parO (p' : List α → α' → Pt) {t1 : M (List α)} {t : List α → α' → M β} (x : XE p f t1) (y : XE p g t2) (e : ∀ a b, (p.set i (some (.ow (a.map En.e)))).set j (some (.fz (En.e b))) = p' a b) (hi : i < p.length) (hj : j < p.length) (c : ∀ a b, XC Q (p' a b) k (t a b)) :
    XS Q p (sParO i j f g) k (t1.bind fun a => t2.bind fun b => t a b) := ⟨fun ρ q => by
  show Rf Q (((f ρ).bind fun x => (g ρ).bind fun y => _).bind k) _
  rw [M.bind_assoc]
  refine rf_bind (x.go ρ q) fun d a r => ?_
  unfold RE at r
  subst r
  rw [M.bind_assoc]
  refine rf_bind (y.go ρ q) fun d b r => ?_
  unfold RE at r
  subst r
  show Rf Q ((if i < ρ.length ∧ j < ρ.length then M.ret (Fl.nx ((ρ.set i (.ow (a.map En.e))).set j (.fz (En.e b)))) else .bad).bind k) _
  rw [if_pos ⟨q.lt hi, q.lt hj⟩, M.ret_bind]
  have := c a b
  rw [← e a b] at this
  exact this.go _ ((q.set i _).set j _)⟩
theorem xs_parB (p' : α → List α' → Pt) {t2 : M (List α')} {t : α → List α' → M β} (x : XE p f t1) (y : XE p g t2) (e : ∀ a b, (p.set i (some (.fz (En.e a)))).set j (some (.ow (b.map En.e))) = p' a b) (hi : i < p.length) (hj : j < p.length) (c : ∀ a b, XC Q (p' a b) k (t a b)) :
    XS Q p (sParB i j f g) k (t1.bind fun a => t2.bind fun b => t a b) := ⟨fun ρ q => by
  show Rf Q (((f ρ).bind fun x => (g ρ).bind fun y => _).bind k) _
  rw [M.bind_assoc]
  refine rf_bind (x.go ρ q) fun d a r => ?_
  unfold RE at r
  subst r
  rw [M.bind_assoc]
  refine rf_bind (y.go ρ q) fun d b r => ?_
  unfold RE at r
  subst r
  show Rf Q ((if i < ρ.length ∧ j < ρ.length then M.ret (Fl.nx ((ρ.set i (.fz (En.e a))).set j (.ow (b.map En.e)))) else .bad).bind k) _
  rw [if_pos ⟨q.lt hi, q.lt hj⟩, M.ret_bind]
  have := c a b
  rw [← e a b] at this
  exact this.go _ ((q.set i _).set j _)⟩
theorem xs_par3 (p' : α → α' → α2 → Pt) {t : α → α' → α2 → M β} (x : XE p f t1) (y : XE p g t2) (z : XE p h t3) (e : ∀ a b c, ((p.set i (some (.fz (En.e a)))).set j (some (.fz (En.e b)))).set l (some (.fz (En.e c))) = p' a b c) (hi : i < p.length) (hj : j < p.length) (hl : l < p.length) (c : ∀ a b c, XC Q (p' a b c) k (t a b c)) :
    XS Q p (sPar3 i j l f g h) k (t1.bind fun a => t2.bind fun b => t3.bind fun c => t a b c) := ⟨fun ρ q => by
  rw [e_sPar3, M.bind_assoc]
  refine rf_bind (x.go ρ q) fun d a r => ?_
  unfold RE at r
  subst r
  rw [M.bind_assoc]
  refine rf_bind (y.go ρ q) fun d b r => ?_
  unfold RE at r
  subst r
  rw [M.bind_assoc]
  refine rf_bind (z.go ρ q) fun d v r => ?_
  unfold RE at r
  subst r
  rw [if_pos ⟨q.lt hi, q.lt hj, q.lt hl⟩, M.ret_bind]
  have := c a b v
  rw [← e a b v] at this
  exact this.go _ (((q.set i _).set j _).set l _)⟩
theorem xs_par3O (p' : α → α' → List α2 → Pt) {t3 : M (List α2)} {t : α → α' → List α2 → M β} (x : XE p f t1) (y : XE p g t2) (z : XE p h t3) (e : ∀ a b c, ((p.set i (some (.fz (En.e a)))).set j (some (.fz (En.e b)))).set l (some (.ow (c.map En.e))) = p' a b c) (hi : i < p.length) (hj : j < p.length) (hl : l < p.length) (c : ∀ a b c, XC Q (p' a b c) k (t a b c)) :
    XS Q p (sPar3O i j l f g h) k (t1.bind fun a => t2.bind fun b => t3.bind fun c => t a b c) := ⟨fun ρ q => by
  show Rf Q (((f ρ).bind fun x => (g ρ).bind fun y => (h ρ).bind fun z => _).bind k) _
  rw [M.bind_assoc]
  refine rf_bind (x.go ρ q) fun d a r => ?_
  unfold RE at r
  subst r
  rw [M.bind_assoc]
  refine rf_bind (y.go ρ q) fun d b r => ?_
  unfold RE at r
  subst r
  rw [M.bind_assoc]
  refine rf_bind (z.go ρ q) fun d v r => ?_
  unfold RE at r
  subst r
  show Rf Q ((if i < ρ.length ∧ j < ρ.length ∧ l < ρ.length then M.ret (Fl.nx (((ρ.set i (.fz (En.e a))).set j (.fz (En.e b))).set l (.ow (v.map En.e)))) else .bad).bind k) _
  rw [if_pos ⟨q.lt hi, q.lt hj, q.lt hl⟩, M.ret_bind]
  have := c a b v
  rw [← e a b v] at this
  exact this.go _ (((q.set i _).set j _).set l _)⟩
theorem rf_onbS {m m' : M δ} (b : Bool) (h1 : Rf Q m t) (h2 : Rf Q m' t') : Rf Q (onB (.bl b) m m') (if b = true then t else t') := by
  cases b
  · exact h2
  · exact h1
theorem onb_bind {α γ : Type} (d : D) (x y : M α) (k : α → M γ) : (onB d x y).bind k = onB d (x.bind k) (y.bind k) := by
  cases d with
  | bl b => cases b <;> rfl
  | _ => rfl
variable {c : FE} {bb : Bool} {tb : M Bool}
theorem xs_if_p (x : XE p c (.ret bb)) (y : XS Q p s1 k t) (z : XS Q p s2 k t') : XS Q p (sIf c s1 s2) k (if bb = true then t else t') := ⟨fun ρ q => by
  rw [e_sIf, x.ret q, M.ret_bind, onb_bind]
  exact rf_onbS bb (y.go ρ q) (z.go ρ q)⟩
theorem xs_if_m (x : XE p c tb) (y : XS Q p s1 k t) (z : XS Q p s2 k t') : XS Q p (sIf c s1 s2) k (tb.bind fun b => if b = true then t else t') := ⟨fun ρ q => by
  rw [e_sIf, M.bind_assoc]
  refine rf_bind (x.go ρ q) fun d a r => ?_
  unfold RE at r
  subst r
  rw [onb_bind]
  exact rf_onbS a (y.go ρ q) (z.go ρ q)⟩
theorem xs_if_t (x : XE p c (.ret true)) (y : XS Q p s1 k t) : XS Q p (sIf c s1 s2) k t := ⟨fun ρ q => by
  rw [e_sIf, x.ret q]
  exact y.go ρ q⟩
theorem xs_if_f (x : XE p c (.ret false)) (y : XS Q p s2 k t) : XS Q p (sIf c s1 s2) k t := ⟨fun ρ q => by
  rw [e_sIf, x.ret q]
  exact y.go ρ q⟩
theorem xs_ret {t : M α} {k : Fl → M D} (x : XE p f t) (e : ∀ d, k (.rt d) = .ret d) : XS RE p (sRet f) k t := ⟨fun ρ q => by
  rw [e_sRet, M.bind_assoc]
  simp only [M.ret_bind, e]
  rw [M.bind_ret]
  exact x.go ρ q⟩
theorem xs_retN (c : α) {k : Fl → M D} (e : ∀ d, k (.rt d) = .ret d) (h : D.non = En.e c) : XS RE p sRetN k (.ret c) := ⟨fun ρ q => rf_e (by
  rw [e_sRetN, M.ret_bind, e, h])⟩
theorem xs_never : XS Q p sNever k .bad := ⟨fun ρ q => rf_bad⟩
theorem xs_bad : XS Q p s k .bad := ⟨fun ρ q => rf_bad⟩
theorem xs_expr_m (x : XE p f t1) (c : XC Q p k t) : XS Q p (sExpr f) k (t1.bind fun _ => t) := ⟨fun ρ q => by
  rw [e_sExpr, M.bind_assoc]
  exact rf_bind (x.go ρ q) fun d a r => c.go ρ q⟩
theorem xs_expr_p (x : XE p f (.ret a)) (c : XC Q p k t) : XS Q p (sExpr f) k t := ⟨fun ρ q => by
  rw [e_sExpr, x.ret q]
  exact c.go ρ q⟩
def push {α : Type} (xs : List α) (a : α) : M (List α) := if xs.length < sizeMax then .ret (xs ++ [a]) else .bad
theorem xs_app {xs : List α} (p' : List α → Pt) {t : List α → M β} (h : p[i]? = some (some (.ow (xs.map En.e)))) (x : XE p f t1) (e : ∀ a, p.set i (some (.ow (a.map En.e))) = p' a) (c : ∀ a, XC Q (p' a) k (t a)) : XS Q p (sApp i f) k ((t1.bind fun a => push xs a).bind t) := ⟨fun ρ q => by
  unfold sApp
  rw [q.at_ i _ h]
  show Rf Q (((f ρ).bind fun x => if (xs.map En.e).length < sizeMax then M.ret (Fl.nx (ρ.set i (.ow (xs.map En.e ++ [x])))) else .bad).bind k) _
  rw [M.bind_assoc, M.bind_assoc]
  refine rf_bind (x.go ρ q) fun d a r => ?_
  unfold RE at r
  subst r
  unfold push
  rw [List.length_map]
  by_cases hz : xs.length < sizeMax
  · rw [if_pos hz, if_pos hz, M.ret_bind, M.ret_bind]
    have := c (xs ++ [a])
    rw [← e] at this
    have hm : xs.map En.e ++ [En.e a] = (xs ++ [a]).map En.e := by rw [List.map_append]; rfl
    rw [hm]
    exact this.go _ (q.set i _)
  · rw [if_neg hz, if_neg hz]
    exact rf_bad⟩
theorem xs_frz {xs : List α} (p' : Pt) (h : p[i]? = some (some (.ow (xs.map En.e)))) (e : p.set i (some (.fz (En.e xs))) = p') (x : XS Q p' s k t) : XS Q p (sFrz i s) k t := ⟨fun ρ q => by
  show Rf Q ((s (frz i ρ)).bind k) _
  unfold frz
  rw [q.at_ i _ h]
  subst e
  exact x.go _ (q.set i _)⟩
theorem xs_frz_fz {d : D} (h : p[i]? = some (some (.fz d))) (x : XS Q p s k t) : XS Q p (sFrz i s) k t := ⟨fun ρ q => by
  show Rf Q ((s (frz i ρ)).bind k) _
  unfold frz
  rw [q.at_ i _ h]
  exact x.go ρ q⟩

/-! loops -/
inductive Ct (σ ρ : Type) where
  | nx (s : σ)
  | rt (r : ρ)
  | bk (s : σ)
variable {σ R : Type} [En R]
def QC (q : σ → Pt) : Fl → Ct σ R → Prop
  | .nx ρ, .nx s => Fits (q s) ρ
  | .ct ρ, .nx s => Fits (q s) ρ
  | .bk ρ, .bk s => Fits (q s) ρ
  | .rt d, .rt r => d = En.e r
  | _, _ => False
def QN (q : σ → Pt) : Fl → σ → Prop
  | .nx ρ, s => Fits (q s) ρ
  | .ct ρ, s => Fits (q s) ρ
  | _, _ => False
def QJ (q : σ → Pt) : Fl → σ → Prop
  | .nx ρ, s => Fits (q s) ρ
  | _, _ => False
def Ct.on {σ ρ β : Type} (tn : σ → M β) (tr : ρ → M β) : Ct σ ρ → M β
  | .nx s => tn s
  | .rt r => tr r
  | .bk s => tn s
def forT {α σ ρ : Type} (tb : α → σ → M (Ct σ ρ)) : List α → σ → M (Ct σ ρ)
  | [], s => .ret (.nx s)
  | x :: xs, s => (tb x s).bind fun c => match c with
    | .nx s => forT tb xs s
    | .rt r => .ret (.rt r)
    | .bk s => .ret (.nx s)
def foldT {α σ : Type} (tb : α → σ → M σ) : List α → σ → M σ
  | [], s => .ret s
  | x :: xs, s => (tb x s).bind fun s => foldT tb xs s
def whileT {σ ρ : Type} (tc : σ → M Bool) (tb : σ → M (Ct σ ρ)) : Nat → σ → M (Ct σ ρ)
  | 0, _ => .bad
  | n + 1, s => (tc s).bind fun b => if b = true then (tb s).bind fun c => match c with
    | .nx s => whileT tc tb n s
    | .rt r => .ret (.rt r)
    | .bk s => .ret (.nx s)
    else .ret (.nx s)
def whileN {σ : Type} (tc : σ → M Bool) (tb : σ → M σ) : Nat → σ → M σ
  | 0, _ => .bad
  | n + 1, s => (tc s).bind fun b => if b = true then (tb s).bind fun s => whileN tc tb n s else .ret s
theorem xc_nx {q : σ → Pt} {s : σ} (h : Sub p (q s)) : XC (QC (R := R) q) p .ret (.ret (.nx s)) := ⟨fun ρ f => f.sub h⟩
theorem xc_nxN {q : σ → Pt} {s : σ} (h : Sub p (q s)) : XC (QN q) p .ret (.ret s) := ⟨fun ρ f => f.sub h⟩
theorem xc_nxJ {q : σ → Pt} {s : σ} (h : Sub p (q s)) : XC (QJ q) p .ret (.ret s) := ⟨fun ρ f => f.sub h⟩
theorem xs_brk {q : σ → Pt} {s : σ} {k : Fl → M Fl} (e : ∀ ρ, k (.bk ρ) = .ret (.bk ρ)) (h : Sub p (q s)) : XS (QC (R := R) q) p sBrk k (.ret (.bk s)) := ⟨fun ρ f => by
  show Rf _ (k (.bk ρ)) _
  rw [e]
  exact f.sub h⟩
theorem xs_ct {q : σ → Pt} {s : σ} {k : Fl → M Fl} (e : ∀ ρ, k (.ct ρ) = .ret (.ct ρ)) (h : Sub p (q s)) : XS (QC (R := R) q) p sCt k (.ret (.nx s)) := ⟨fun ρ f => by
  show Rf _ (k (.ct ρ)) _
  rw [e]
  exact f.sub h⟩
theorem xs_ctN {q : σ → Pt} {s : σ} {k : Fl → M Fl} (e : ∀ ρ, k (.ct ρ) = .ret (.ct ρ)) (h : Sub p (q s)) : XS (QN q) p sCt k (.ret s) := ⟨fun ρ f => by
  show Rf _ (k (.ct ρ)) _
  rw [e]
  exact f.sub h⟩
theorem xs_retC {q : σ → Pt} {k : Fl → M Fl} {t : M R} (x : XE p f t) (e : ∀ d, k (.rt d) = .ret (.rt d)) : XS (QC q) p (sRet f) k (t.bind fun r => .ret (.rt r)) := ⟨fun ρ f => by
  rw [e_sRet, M.bind_assoc]
  refine rf_bind (x.go ρ f) fun d a r => ?_
  rw [M.ret_bind, e]
  exact r⟩
theorem xs_retC_p {q : σ → Pt} {k : Fl → M Fl} {r : R} (x : XE p f (.ret r)) (e : ∀ d, k (.rt d) = .ret (.rt d)) : XS (QC q) p (sRet f) k (.ret (.rt r)) := xs_retC x e
theorem xs_retNC {q : σ → Pt} {k : Fl → M Fl} (c : R) (e : ∀ d, k (.rt d) = .ret (.rt d)) (h : D.non = En.e c) : XS (QC q) p sRetN k (.ret (.rt c)) := ⟨fun ρ f => by
  show Rf _ (k (.rt .non)) _
  rw [e]
  exact h⟩
theorem XS.fl {Q : Fl → β → Prop} (x : XS Q p s M.ret t) {ρ : Ev} (f : Fits p ρ) : Rf Q (s ρ) t := by
  have := x.go ρ f
  rwa [M.bind_ret] at this
theorem xs_join {q : σ → Pt} {t1 : M σ} {tk : σ → M β} (x : XS (QJ q) p s M.ret t1) (c : ∀ s, XC Q (q s) k (tk s)) : XS Q p s k (t1.bind tk) := ⟨fun ρ f => rf_bind (x.fl f) fun fl s r => by
  cases fl with
  | nx ρ => exact (c s).go ρ r
  | _ => exact r.elim⟩
theorem loop_forT {tg : FG} {b : FS} {q : σ → Pt} {q' : α → σ → Pt} {tb : α → σ → M (Ct σ R)} (ht : ∀ s, XT (q s) [] tg (fun x => q' x s)) (hb : ∀ x s, XS (QC q) (q' x s) b .ret (tb x s)) : ∀ (xs : List α) (s : σ) (ρ : Ev), Fits (q s) ρ →
    Rf (QC q) (loop tg b (xs.map En.e) ρ) (forT tb xs s)
  | [], s, ρ, f => f
  | x :: xs, s, ρ, f => by
    obtain ⟨ρ2, e1, e2⟩ := (ht s).go x ρ f
    have e1 : tg (En.e x) ρ = some ρ2 := e1
    rw [List.map_cons, loop_cons]
    unfold turn
    rw [e1]
    refine rf_bind ((hb x s).fl e2) fun fl c r => ?_
    cases fl <;> cases c <;> first | exact r.elim | skip
    · exact loop_forT ht hb xs _ _ r
    · exact r
    · exact r
    · exact loop_forT ht hb xs _ _ r
theorem xs_for {it : FL} {tg : FG} {b : FS} {ti : M (List α)} (s0 : σ) (q : σ → Pt) (q' : α → σ → Pt) {tb : α → σ → M (Ct σ R)} {tn : σ → M β} {tr : R → M β} (hi : XI p it ti) (h0 : Sub p (q s0)) (ht : ∀ s, XT (q s) [] tg (fun x => q' x s)) (hb : ∀ x s, XS (QC q) (q' x s) b .ret (tb x s)) (hn : ∀ s, XC Q (q s) k (tn s)) (hr : ∀ r, Rf Q (k (.rt (En.e r))) (tr r)) :
    XS Q p (sFor it tg b) k (ti.bind fun xs => (forT tb xs s0).bind (Ct.on tn tr)) := ⟨fun ρ f => by
  rw [e_sFor, M.bind_assoc]
  refine rf_bind (hi.go ρ f) fun ds xs e => ?_
  unfold RL at e
  subst e
  refine rf_bind (R := fun fl c => QC q fl c ∧ ∀ ρ, fl ≠ .ct ρ ∧ fl ≠ .bk ρ) ?_ fun fl c r => ?_
  · have hc : ∀ (xs : List D) (ρ : Ev), ∀ c, Rf (QC (R := R) q) (loop tg b xs ρ) c → Rf (fun fl c => QC (R := R) q fl c ∧ ∀ ρ, fl ≠ .ct ρ ∧ fl ≠ .bk ρ) (loop tg b xs ρ) c := by
      intro xs ρ c h
      have hl : ∀ (xs : List D) (ρ : Ev), Rf (fun fl (fl' : Fl) => fl = fl' ∧ ∀ ρ, fl ≠ .ct ρ ∧ fl ≠ .bk ρ) (loop tg b xs ρ) (loop tg b xs ρ) := by
        intro xs
        induction xs with
        | nil => intro ρ; exact ⟨rfl, fun ρ => ⟨by simp, by simp⟩⟩
        | cons x xs ih =>
          intro ρ
          rw [loop_cons]
          have rr : ∀ m : M Fl, Rf (fun a b => a = b) m m := by
            intro m
            induction m with
            | ret a => exact rfl
            | bad => trivial
            | draw n k ih => exact ⟨rfl, fun i _ => ih i⟩
          refine rf_bind (rr _) fun a b e => ?_
          subst e
          cases a with
          | nx ρ => exact ih ρ
          | ct ρ => exact ih ρ
          | bk ρ => exact ⟨rfl, fun ρ => ⟨by simp, by simp⟩⟩
          | rt d => exact ⟨rfl, fun ρ => ⟨by simp, by simp⟩⟩
      have tr : ∀ {m m' : M Fl} {c : M (Ct σ R)}, Rf (fun fl (fl' : Fl) => fl = fl' ∧ ∀ ρ, fl ≠ .ct ρ ∧ fl ≠ .bk ρ) m m' → Rf (QC q) m' c → Rf (fun fl c => QC q fl c ∧ ∀ ρ, fl ≠ .ct ρ ∧ fl ≠ .bk ρ) m c := by
        intro m
        induction m with
        | ret a =>
          intro m' c h1 h2
          cases m' <;> cases c <;> first | exact h1.elim | exact h2.elim | trivial | skip
          obtain ⟨e, n⟩ := h1
          subst e
          exact ⟨h2, n⟩
        | bad =>
          intro m' c h1 h2
          cases m' <;> cases c <;> first | exact h1.elim | exact h2.elim | trivial
        | draw n k ih =>
          intro m' c h1 h2
          cases m' <;> cases c <;> first | exact h1.elim | exact h2.elim | trivial | skip
          obtain ⟨e, h1⟩ := h1
          subst e
          exact ⟨h2.1, fun i hi => ih i (h1 i hi) (h2.2 i hi)⟩
      exact tr (hl xs ρ) h
    exact hc _ _ _ (loop_forT ht hb xs s0 ρ (f.sub h0))
  · obtain ⟨r, n⟩ := r
    cases fl <;> cases c <;> first | exact r.elim | skip
    · exact (hn _).go _ r
    · have r : _ = En.e _ := r
      rw [r]
      exact hr _
    · exact absurd rfl (n _).2
    · exact absurd rfl (n _).1⟩
theorem loop_foldT {tg : FG} {b : FS} {q : σ → Pt} {q' : α → σ → Pt} {tb : α → σ → M σ} (ht : ∀ s, XT (q s) [] tg (fun x => q' x s)) (hb : ∀ x s, XS (QN q) (q' x s) b .ret (tb x s)) : ∀ (xs : List α) (s : σ) (ρ : Ev), Fits (q s) ρ →
    Rf (QJ q) (loop tg b (xs.map En.e) ρ) (foldT tb xs s)
  | [], s, ρ, f => f
  | x :: xs, s, ρ, f => by
    obtain ⟨ρ2, e1, e2⟩ := (ht s).go x ρ f
    have e1 : tg (En.e x) ρ = some ρ2 := e1
    rw [List.map_cons, loop_cons]
    unfold turn
    rw [e1]
    refine rf_bind ((hb x s).fl e2) fun fl c r => ?_
    cases fl <;> first | exact r.elim | skip
    · exact loop_foldT ht hb xs _ _ r
    · exact loop_foldT ht hb xs _ _ r
theorem xs_forN {it : FL} {tg : FG} {b : FS} {ti : M (List α)} (s0 : σ) (q : σ → Pt) (q' : α → σ → Pt) {tb : α → σ → M σ} {tn : σ → M β} (hi : XI p it ti) (h0 : Sub p (q s0)) (ht : ∀ s, XT (q s) [] tg (fun x => q' x s)) (hb : ∀ x s, XS (QN q) (q' x s) b .ret (tb x s)) (hn : ∀ s, XC Q (q s) k (tn s)) :
    XS Q p (sFor it tg b) k (ti.bind fun xs => (foldT tb xs s0).bind tn) := ⟨fun ρ f => by
  rw [e_sFor, M.bind_assoc]
  refine rf_bind (hi.go ρ f) fun ds xs e => ?_
  unfold RL at e
  subst e
  refine rf_bind (loop_foldT ht hb xs s0 ρ (f.sub h0)) fun fl s r => ?_
  cases fl <;> first | exact r.elim | skip
  exact (hn _).go _ r⟩
theorem wloop_N {b : FS} {q : σ → Pt} {tc : σ → M Bool} {tb : σ → M σ} (hc : ∀ s, XE (q s) c (tc s)) (hb : ∀ s, XS (QN q) (q s) b .ret (tb s)) : ∀ (n : Nat) (s : σ) (ρ : Ev), Fits (q s) ρ →
    Rf (QJ q) (wloop c b n ρ) (whileN tc tb n s)
  | 0, s, ρ, f => rf_bad
  | n + 1, s, ρ, f => by
    unfold wloop whileN
    refine rf_bind ((hc s).go ρ f) fun d a r => ?_
    unfold RE at r
    subst r
    refine rf_onbS a ?_ f
    refine rf_bind ((hb s).fl f) fun fl c r => ?_
    cases fl <;> first | exact r.elim | skip
    · exact wloop_N hc hb n _ _ r
    · exact wloop_N hc hb n _ _ r
theorem xs_whileN {n : Nat} {b : FS} (s0 : σ) (q : σ → Pt) {tc : σ → M Bool} {tb : σ → M σ} {tn : σ → M β} (h0 : Sub p (q s0)) (hc : ∀ s, XE (q s) c (tc s)) (hb : ∀ s, XS (QN q) (q s) b .ret (tb s)) (hn : ∀ s, XC Q (q s) k (tn s)) :
    XS Q p (sWhile n c b) k ((whileN tc tb n s0).bind tn) := ⟨fun ρ f => rf_bind (wloop_N hc hb n s0 ρ (f.sub h0)) fun fl s r => by
  cases fl <;> first | exact r.elim | skip
  exact (hn _).go _ r⟩
end
end WK
end

section
set_option Elab.async false
set_option linter.all false
set_option maxRecDepth 100000
namespace WK
/-! ### what the operators and built-ins give -/
theorem rf_self : ∀ {m : M D}, Rf RE m (m : M D)
  | .ret _ => rfl
  | .bad => trivial
  | .draw _ _ => ⟨rfl, fun _ _ => rf_self⟩
section
variable {α β γ δ ε ζ : Type} [En α] [En β] [En γ] [En δ] [En ε] [En ζ]
def asB (m : M D) : M Bool := m.bind fun d => match d with
  | .bl b => .ret b
  | _ => .bad
def asI (m : M D) : M Int := m.bind fun d => match d with
  | .int b => .ret b
  | _ => .bad
theorem rf_asB {m : M D} : Rf RE m (asB m) := by
  have := rf_bind (f := M.ret) (g := fun d => match d with
    | D.bl b => M.ret b
    | _ => .bad) (Q := RE) (rf_self (m := m)) fun a b r => by
      unfold RE at r
      have r : a = b := r
      subst r
      cases a <;> first | exact rf_bad | exact rfl
  rwa [M.bind_ret] at this
theorem rf_asI {m : M D} : Rf RE m (asI m) := by
  have := rf_bind (f := M.ret) (g := fun d => match d with
    | D.int b => M.ret b
    | _ => .bad) (Q := RE) (rf_self (m := m)) fun a b r => by
      unfold RE at r
      have r : a = b := r
      subst r
      cases a <;> first | exact rf_bad | exact rfl
  rwa [M.bind_ret] at this
/-! ints -/
theorem r_addI (i j : Int) : Rf RE (gAdd (En.e i) (En.e j)) (.ret (i + j)) := rfl
theorem r_addJ (i j : Int) : Rf RE (gAddI (En.e i) (En.e j)) (.ret (i + j)) := rfl
theorem r_subI (i j : Int) : Rf RE (gSub (En.e i) (En.e j)) (.ret (i - j)) := rfl
theorem r_neg (i : Int) : Rf RE (gNeg (En.e i)) (.ret (-i)) := rfl
def mulI (i j : Int) : M Int := if (small i || small j) = true then .ret (i * j) else .bad
theorem r_mulI (i j : Int) : Rf RE (gMul (En.e i) (En.e j)) (mulI i j) := by
  show Rf RE (if (small i || small j) = true then M.ret (.int (i * j)) else .bad) _
  unfold mulI
  by_cases h : (small i || small j) = true
  · rw [if_pos h, if_pos h]; exact rfl
  · rw [if_neg h, if_neg h]; exact rf_bad
def divI (i j : Int) : M Int := if 0 < j ∧ j.natAbs < 1073741824 then .ret (i / j) else .bad
theorem r_divI (i j : Int) : Rf RE (gDiv (En.e i) (En.e j)) (divI i j) := by
  show Rf RE (if 0 < j ∧ j.natAbs < 1073741824 then M.ret (.int (i / j)) else .bad) _
  unfold divI
  by_cases h : 0 < j ∧ j.natAbs < 1073741824
  · rw [if_pos h, if_pos h]; exact rfl
  · rw [if_neg h, if_neg h]; exact rf_bad
def modI (i j : Int) : M Int := if 0 < j then .ret (i % j) else .bad
theorem r_modI (i j : Int) : Rf RE (gMod (En.e i) (En.e j)) (modI i j) := by
  show Rf RE (if 0 < j then M.ret (.int (i % j)) else .bad) _
  unfold modI
  by_cases h : 0 < j
  · rw [if_pos h, if_pos h]; exact rfl
  · rw [if_neg h, if_neg h]; exact rf_bad
/-! texts, lists -/
def fitM {α : Type} (n : Nat) (a : α) : M α := if n ≤ sizeMax then .ret a else .bad
theorem rf_fit {n n' : Nat} {d : D} {a : α} (hn : n = n') (h : d = En.e a) : Rf RE (fit n (.ret d)) (fitM n' a) := by
  subst hn
  unfold fit fitM
  by_cases z : n ≤ sizeMax
  · rw [if_pos z, if_pos z]; exact h
  · rw [if_neg z, if_neg z]; exact rf_bad
def addS (a b : List Nat) : M (List Nat) := fitM (a.length + b.length) (a ++ b)
theorem r_addS (a b : List Nat) : Rf RE (gAdd (En.e a) (En.e b)) (addS a b) := rf_fit rfl rfl
def addL {α : Type} (a b : List α) : M (List α) := fitM (a.length + b.length) (a ++ b)
theorem r_addL (a b : List α) : Rf RE (gAdd (En.e a) (En.e b)) (addL a b) := rf_fit (by simp) (by
  show D.lst (a.map En.e ++ b.map En.e) = D.lst _
  rw [List.map_append])
def addT {α : Type} (a b : Tp α) : M (Tp α) := fitM (a.l.length + b.l.length) ⟨a.l ++ b.l⟩
theorem r_addT (a b : Tp α) : Rf RE (gAdd (En.e a) (En.e b)) (addT a b) := rf_fit (by simp) (by
  show D.tup (a.l.map En.e ++ b.l.map En.e) = D.tup _
  rw [List.map_append])
theorem r_add21 (a : P2 α β) (b : P1 γ) : Rf RE (gAdd (En.e a) (En.e b)) (.ret (⟨a.a, a.b, b.a⟩ : P3 α β γ)) := rfl
theorem r_add11 (a : P1 α) (b : P1 γ) : Rf RE (gAdd (En.e a) (En.e b)) (.ret (⟨a.a, b.a⟩ : P2 α γ)) := rfl
theorem r_add31 (a : P3 α β γ) (b : P1 δ) : Rf RE (gAdd (En.e a) (En.e b)) (.ret (⟨a.a, a.b, a.c, b.a⟩ : P4 α β γ δ)) := rfl
theorem r_add23 (a : P2 α β) (b : P3 γ δ ε) : Rf RE (gAdd (En.e a) (En.e b)) (.ret (⟨a.a, a.b, b.a, b.b, b.c⟩ : P5 α β γ δ ε)) := rfl
def mulS (a : List Nat) (k : Int) : M (List Nat) := if k.natAbs ≤ 1000000 ∧ a.length ≤ 15 ∧ 0 ≤ k then .ret (List.replicate k.toNat a).flatten else .bad
theorem r_mulS (a : List Nat) (k : Int) : Rf RE (gMul (En.e a) (En.e k)) (mulS a k) := by
  show Rf RE (if k.natAbs ≤ 1000000 ∧ a.length ≤ 15 ∧ 0 ≤ k then M.ret (.str (List.replicate k.toNat a).flatten) else .bad) _
  unfold mulS
  by_cases h : k.natAbs ≤ 1000000 ∧ a.length ≤ 15 ∧ 0 ≤ k
  · rw [if_pos h, if_pos h]; exact rfl
  · rw [if_neg h, if_neg h]; exact rf_bad
theorem map_rep {α β : Type} (f : α → β) (k : Nat) (a : List α) : (List.replicate k (a.map f)).flatten = (List.replicate k a).flatten.map f := by
  rw [List.map_flatten, List.map_replicate]
def mulL {α : Type} (a : List α) (k : Int) : M (List α) := if k.natAbs ≤ 1000000 ∧ a.length ≤ 15 ∧ 0 ≤ k then .ret (List.replicate k.toNat a).flatten else .bad
theorem r_mulL (a : List α) (k : Int) : Rf RE (gMul (En.e a) (En.e k)) (mulL a k) := by
  show Rf RE (if k.natAbs ≤ 1000000 ∧ (a.map En.e).length ≤ 15 ∧ 0 ≤ k then M.ret (.lst (List.replicate k.toNat (a.map En.e)).flatten) else .bad) _
  unfold mulL
  rw [List.length_map, map_rep]
  by_cases h : k.natAbs ≤ 1000000 ∧ a.length ≤ 15 ∧ 0 ≤ k
  · rw [if_pos h, if_pos h]; exact rfl
  · rw [if_neg h, if_neg h]; exact rf_bad
def mulT {α : Type} (a : Tp α) (k : Int) : M (Tp α) := if k.natAbs ≤ 1000 ∧ a.l.length ≤ 1000 ∧ 0 < k ∧ 1 ≤ a.l.length then .ret ⟨(List.replicate k.toNat a.l).flatten⟩ else .bad
theorem r_mulT (a : Tp α) (k : Int) : Rf RE (gMul (En.e a) (En.e k)) (mulT a k) := by
  show Rf RE (if k.natAbs ≤ 1000 ∧ (a.l.map En.e).length ≤ 1000 ∧ 0 < k ∧ 1 ≤ (a.l.map En.e).length then M.ret (.tup (List.replicate k.toNat (a.l.map En.e)).flatten) else .bad) _
  unfold mulT
  rw [List.length_map, map_rep]
  by_cases h : k.natAbs ≤ 1000 ∧ a.l.length ≤ 1000 ∧ 0 < k ∧ 1 ≤ a.l.length
  · rw [if_pos h, if_pos h]; exact rfl
  · rw [if_neg h, if_neg h]; exact rf_bad
/-! comparisons -/
theorem r_eq [DecidableEq α] [EnEq α] (a b : α) (hk : EnEq.k α ≤ 20 := by decide) : Rf RE (gEq (En.e a) (En.e b)) (.ret (decide (a = b))) := rf_e (by
  unfold gEq
  rw [EnEq.ok a 20 hk, EnEq.ok b 20 hk, EnEq.eq]
  rfl)
theorem r_ne [DecidableEq α] [EnEq α] (a b : α) (hk : EnEq.k α ≤ 20 := by decide) : Rf RE (gNe (En.e a) (En.e b)) (.ret (!decide (a = b))) := rf_e (by
  unfold gNe
  rw [EnEq.ok a 20 hk, EnEq.ok b 20 hk, EnEq.eq]
  rfl)
theorem r_ltI (a b : Int) : Rf RE (gLt (En.e a) (En.e b)) (.ret (decide (a < b))) := rfl
theorem r_leI (a b : Int) : Rf RE (gLe (En.e a) (En.e b)) (.ret (decide (a ≤ b))) := rfl
theorem r_gtI (a b : Int) : Rf RE (gGt (En.e a) (En.e b)) (.ret (decide (b < a))) := rfl
theorem r_geI (a b : Int) : Rf RE (gGe (En.e a) (En.e b)) (.ret (decide (b ≤ a))) := rfl
theorem r_ltS (a b : List Nat) : Rf RE (gLt (En.e a) (En.e b)) (.ret (decide (a < b))) := rfl
theorem r_leS (a b : List Nat) : Rf RE (gLe (En.e a) (En.e b)) (.ret (!decide (b < a))) := rfl
theorem r_gtS (a b : List Nat) : Rf RE (gGt (En.e a) (En.e b)) (.ret (decide (b < a))) := rfl
theorem r_geS (a b : List Nat) : Rf RE (gGe (En.e a) (En.e b)) (.ret (!decide (a < b))) := rfl
theorem nn_isNon [EnNN α] (a : α) : isNon (En.e a) = false := by
  have := EnNN.l a
  cases h : En.e a with
  | non => rw [h] at this; cases this
  | _ => rfl
theorem r_isN (d : D) : gIs d .non = .ret (.bl (isNon d)) := by cases d <;> rfl
theorem r_isNN (d : D) : gIsNot d .non = .ret (.bl (!isNon d)) := by cases d <;> rfl
theorem r_isO [EnNN α] (a : Option α) (u : Unit) : Rf RE (gIs (En.e a) (En.e u)) (.ret a.isNone) := rf_e (by
  show gIs _ .non = _
  rw [r_isN]
  cases a with
  | none => rfl
  | some a => show _ = M.ret (D.bl false); rw [← nn_isNon a]; rfl)
theorem r_isNotO [EnNN α] (a : Option α) (u : Unit) : Rf RE (gIsNot (En.e a) (En.e u)) (.ret a.isSome) := rf_e (by
  show gIsNot _ .non = _
  rw [r_isNN]
  cases a with
  | none => rfl
  | some a => show _ = M.ret (D.bl (!false)); rw [← nn_isNon a]; rfl)
theorem r_isV [EnNN α] (a : α) (u : Unit) : Rf RE (gIs (En.e a) (En.e u)) (.ret false) := rf_e (by
  show gIs _ .non = _
  rw [r_isN, nn_isNon]
  rfl)
theorem r_isNotV [EnNN α] (a : α) (u : Unit) : Rf RE (gIsNot (En.e a) (En.e u)) (.ret true) := rf_e (by
  show gIsNot _ .non = _
  rw [r_isNN, nn_isNon]
  rfl)
theorem r_isU (a : Unit) (u : Unit) : Rf RE (gIs (En.e a) (En.e u)) (.ret true) := rf_e rfl
theorem r_isNotU (a : Unit) (u : Unit) : Rf RE (gIsNot (En.e a) (En.e u)) (.ret false) := rf_e rfl
theorem r_isD (a : D) (u : Unit) : Rf RE (gIs (En.e a) (En.e u)) (.ret (isNon a)) := rf_e (by
  show gIs _ .non = _
  rw [r_isN]
  rfl)
theorem r_isNotD (a : D) (u : Unit) : Rf RE (gIsNot (En.e a) (En.e u)) (.ret (!isNon a)) := rf_e (by
  show gIsNot _ .non = _
  rw [r_isNN]
  rfl)
theorem any_mem [DecidableEq α] [EnEq α] (x : α) (xs : List α) : ((xs.map En.e).any fun y => D.eq y (En.e x)) = decide (x ∈ xs) := by
  rw [List.any_map]
  have : ((fun y => D.eq y (En.e x)) ∘ (En.e : α → D)) = fun y => decide (y = x) := by
    funext y
    exact EnEq.eq y x
  rw [this, Bool.eq_iff_iff, List.any_eq_true, decide_eq_true_eq]
  constructor
  · rintro ⟨y, h1, h2⟩
    rw [← of_decide_eq_true h2]
    exact h1
  · exact fun h => ⟨x, h, by simp⟩
theorem in_lst (x : D) (xs : List D) : gIn x (.lst xs) = if D.ok 20 x && xs.all (D.ok 20) then .ret (.bl (xs.any fun y => D.eq y x)) else .bad := by cases x <;> rfl
theorem in_tup (x : D) (xs : List D) : gIn x (.tup xs) = if D.ok 20 x && xs.all (D.ok 20) then .ret (.bl (xs.any fun y => D.eq y x)) else .bad := by cases x <;> rfl
theorem notIn_lst (x : D) (xs : List D) : gNotIn x (.lst xs) = if D.ok 20 x && xs.all (D.ok 20) then .ret (.bl (!xs.any fun y => D.eq y x)) else .bad := by cases x <;> rfl
theorem notIn_tup (x : D) (xs : List D) : gNotIn x (.tup xs) = if D.ok 20 x && xs.all (D.ok 20) then .ret (.bl (!xs.any fun y => D.eq y x)) else .bad := by cases x <;> rfl
theorem r_inL [DecidableEq α] [EnEq α] (x : α) (xs : List α) (hk : EnEq.k α ≤ 20 := by decide) : Rf RE (gIn (En.e x) (En.e xs)) (.ret (decide (x ∈ xs))) := rf_e (by
  show gIn (En.e x) (.lst (xs.map En.e)) = _
  rw [in_lst]
  rw [EnEq.ok x 20 hk, ok_maps hk, any_mem]
  rfl)
theorem r_inT [DecidableEq α] [EnEq α] (x : α) (xs : Tp α) (hk : EnEq.k α ≤ 20 := by decide) : Rf RE (gIn (En.e x) (En.e xs)) (.ret (decide (x ∈ xs.l))) := rf_e (by
  show gIn (En.e x) (.tup (xs.l.map En.e)) = _
  rw [in_tup]
  rw [EnEq.ok x 20 hk, ok_maps hk, any_mem]
  rfl)
theorem r_notInL [DecidableEq α] [EnEq α] (x : α) (xs : List α) (hk : EnEq.k α ≤ 20 := by decide) : Rf RE (gNotIn (En.e x) (En.e xs)) (.ret (!decide (x ∈ xs))) := rf_e (by
  show gNotIn (En.e x) (.lst (xs.map En.e)) = _
  rw [notIn_lst]
  rw [EnEq.ok x 20 hk, ok_maps hk, any_mem]
  rfl)
theorem r_notInT [DecidableEq α] [EnEq α] (x : α) (xs : Tp α) (hk : EnEq.k α ≤ 20 := by decide) : Rf RE (gNotIn (En.e x) (En.e xs)) (.ret (!decide (x ∈ xs.l))) := rf_e (by
  show gNotIn (En.e x) (.tup (xs.l.map En.e)) = _
  rw [notIn_tup]
  rw [EnEq.ok x 20 hk, ok_maps hk, any_mem]
  rfl)
theorem r_inS (x : Ch) (s : List Nat) : Rf RE (gIn (En.e x) (En.e s)) (.ret (decide (x.c ∈ s))) := rfl
theorem r_notInS (x : Ch) (s : List Nat) : Rf RE (gNotIn (En.e x) (En.e s)) (.ret (!decide (x.c ∈ s))) := rfl
theorem r_not (b : Bool) : Rf RE (gNot (En.e b)) (.ret (!b)) := rf_e (by cases b <;> rfl)
theorem r_isT {t : Ty} {b : Bool} (a : α) (h : isTy t (En.e a) = some b) : Rf RE (gIsT t (En.e a)) (.ret b) := rf_e (by
  rw [o_isT, h]
  rfl)
theorem r_isTD {t : Ty} (a : D) : Rf RE (gIsT t (En.e a)) (asB (gIsT t a)) := rf_asB
/-! items, slices -/
theorem at_map {α β : Type} (f : α → β) (xs : List α) (i : Int) : at? (xs.map f) i = (at? xs i).map f := by
  unfold at?
  rw [List.length_map]
  split
  · rw [List.getElem?_map]
  · split
    · rw [List.getElem?_map]
    · rfl
def ofOp {α : Type} : Option α → M α
  | some a => .ret a
  | none => .bad
theorem rf_op (o : Option α) : Rf RE (ofO (o.map En.e)) (ofOp o) := by
  cases o with
  | none => exact rf_bad
  | some a => exact rfl
/-- a value that should not be none -/
theorem rf_some (o : Option α) : Rf RE (.ret (En.e o)) (ofOp o) := by
  cases o with
  | none => exact rf_bad
  | some a => exact rfl
def ixL {α : Type} (xs : List α) (i : Int) : M α := ofOp (at? xs i)
theorem r_ixL (xs : List α) (i : Int) : Rf RE (gIx (En.e xs) (En.e i)) (ixL xs i) := by
  show Rf RE (ofO (at? (xs.map En.e) i)) _
  rw [at_map]
  exact rf_op _
theorem r_ixT (xs : Tp α) (i : Int) : Rf RE (gIx (En.e xs) (En.e i)) (ixL xs.l i) := by
  show Rf RE (ofO (at? (xs.l.map En.e) i)) _
  rw [at_map]
  exact rf_op _
def ixS (s : List Nat) (i : Int) : M Ch := if s.length ≤ sizeMax then ofOp ((at? s i).map Ch.mk) else .bad
theorem r_ixS (s : List Nat) (i : Int) : Rf RE (gIx (En.e s) (En.e i)) (ixS s i) := by
  show Rf RE (fit s.length (ofO ((at? s i).map fun c => .str [c]))) _
  unfold fit ixS
  by_cases z : s.length ≤ sizeMax
  · rw [if_pos z, if_pos z]
    cases at? s i with
    | none => exact rf_bad
    | some c => exact rfl
  · rw [if_neg z, if_neg z]; exact rf_bad
theorem r_ixD (d e : D) : Rf RE (gIx (En.e d) (En.e e)) (gIx d e) := rf_self
theorem r_ix21 (x : P2 α β) : Rf RE (gIx (En.e x) (En.e (0 : Int))) (.ret x.a) := rfl
theorem r_ix22 (x : P2 α β) : Rf RE (gIx (En.e x) (En.e (1 : Int))) (.ret x.b) := rfl
theorem r_ix11 (x : P1 α) : Rf RE (gIx (En.e x) (En.e (0 : Int))) (.ret x.a) := rfl
theorem r_ix31 (x : P3 α β γ) : Rf RE (gIx (En.e x) (En.e (0 : Int))) (.ret x.a) := rfl
theorem r_ix32 (x : P3 α β γ) : Rf RE (gIx (En.e x) (En.e (1 : Int))) (.ret x.b) := rfl
theorem r_ix33 (x : P3 α β γ) : Rf RE (gIx (En.e x) (En.e (2 : Int))) (.ret x.c) := rfl
theorem r_ix41 (x : P4 α β γ δ) : Rf RE (gIx (En.e x) (En.e (0 : Int))) (.ret x.a) := rfl
theorem r_ix42 (x : P4 α β γ δ) : Rf RE (gIx (En.e x) (En.e (1 : Int))) (.ret x.b) := rfl
theorem r_ix43 (x : P4 α β γ δ) : Rf RE (gIx (En.e x) (En.e (2 : Int))) (.ret x.c) := rfl
theorem r_ix44 (x : P4 α β γ δ) : Rf RE (gIx (En.e x) (En.e (3 : Int))) (.ret x.d) := rfl
theorem cut_map {α β : Type} (f : α → β) (xs : List α) (lo hi : Option Int) : cut (xs.map f) lo hi = (cut xs lo hi).map f := by
  unfold cut
  rw [List.length_map, List.map_take, List.map_drop]
structure XO (p : Pt) (f : FO) (t : M (Option Int)) : Prop where
  go : ∀ ρ, Fits p ρ → Rf (fun a b => a = b) (f ρ) t
theorem xp_no {p : Pt} : XO p fNoPart (.ret none) := ⟨fun _ _ => rfl⟩
theorem xp_p {p : Pt} {f : FE} {i : Int} (x : XE p f (.ret i)) : XO p (fPart f) (.ret (some i)) := ⟨fun ρ q => by
  show Rf _ ((f ρ).bind _) _
  rw [x.ret q]
  exact rfl⟩
theorem xp_m {p : Pt} {f : FE} {t : M Int} (x : XE p f t) : XO p (fPart f) (t.bind fun i => .ret (some i)) := ⟨fun ρ q => rf_bind (x.go ρ q) fun d a e => by unfold RE at e; subst e; exact rfl⟩
def slS (s : List Nat) (lo hi : Option Int) : M (List Nat) := fitM s.length (cut s lo hi)
theorem r_slS (s : List Nat) (lo hi : Option Int) : Rf RE (gSl (En.e s) lo hi) (slS s lo hi) := rf_fit rfl rfl
theorem r_slL (s : List α) (lo hi : Option Int) : Rf RE (gSl (En.e s) lo hi) (.ret (cut s lo hi)) := rf_e (by
  show M.ret (D.lst _) = M.ret (D.lst _)
  rw [cut_map])
theorem r_slT (s : Tp α) (lo hi : Option Int) : Rf RE (gSl (En.e s) lo hi) (.ret (⟨cut s.l lo hi⟩ : Tp α)) := rf_e (by
  show M.ret (D.tup _) = M.ret (D.tup _)
  rw [cut_map])
theorem XO.ret {p : Pt} {f : FO} {o : Option Int} (x : XO p f (.ret o)) {ρ : Ev} (q : Fits p ρ) : f ρ = .ret o := by
  obtain ⟨d, e, r⟩ := rf_cases (x.go ρ q)
  rw [e, r]
theorem x_sl_p {p : Pt} {f : FE} {lo hi : FO} {a : α} {l h : Option Int} {t : M β} (x : XE p f (.ret a)) (y : XO p lo (.ret l)) (z : XO p hi (.ret h)) (r : Rf RE (gSl (En.e a) l h) t) : XE p (fSl f lo hi) t := ⟨fun ρ q => by
  show Rf RE ((f ρ).bind fun x => (lo ρ).bind fun a => (hi ρ).bind fun b => gSl x a b) _
  rw [x.ret q, M.ret_bind, y.ret q, M.ret_bind, z.ret q, M.ret_bind]
  exact r⟩
theorem x_sl_m {p : Pt} {f : FE} {lo hi : FO} {t1 : M α} {l h : M (Option Int)} {t : α → Option Int → Option Int → M β} (x : XE p f t1) (y : XO p lo l) (z : XO p hi h) (r : ∀ a l h, Rf RE (gSl (En.e a) l h) (t a l h)) :
    XE p (fSl f lo hi) (t1.bind fun a => l.bind fun l => h.bind fun h => t a l h) := ⟨fun ρ q => by
  show Rf RE ((f ρ).bind fun x => (lo ρ).bind fun a => (hi ρ).bind fun b => gSl x a b) _
  refine rf_bind (x.go ρ q) fun d a e => ?_
  unfold RE at e
  subst e
  refine rf_bind (y.go ρ q) fun d l e => ?_
  subst e
  refine rf_bind (z.go ρ q) fun d h e => ?_
  subst e
  exact r a _ _⟩
def revS (s : List Nat) : M (List Nat) := fitM s.length s.reverse
theorem r_revS (s : List Nat) : Rf RE (gRev (En.e s)) (revS s) := rf_fit rfl rfl
theorem r_revL (s : List α) : Rf RE (gRev (En.e s)) (.ret s.reverse) := rf_e (by
  show M.ret (D.lst _) = M.ret (D.lst _)
  rw [List.map_reverse])
theorem r_revT (s : Tp α) : Rf RE (gRev (En.e s)) (.ret (⟨s.l.reverse⟩ : Tp α)) := rf_e (by
  show M.ret (D.tup _) = M.ret (D.tup _)
  rw [List.map_reverse])
/-! built-ins -/
def lenS (s : List Nat) : M Int := fitM s.length (s.length : Int)
theorem r_lenS (s : List Nat) : Rf RE (gLen (En.e s)) (lenS s) := rf_fit rfl rfl
theorem r_lenL (s : List α) : Rf RE (gLen (En.e s)) (.ret (s.length : Int)) := rf_e (by
  show M.ret (D.int _) = M.ret (D.int _)
  rw [List.length_map])
theorem r_lenT (s : Tp α) : Rf RE (gLen (En.e s)) (.ret (s.l.length : Int)) := rf_e (by
  show M.ret (D.int _) = M.ret (D.int _)
  rw [List.length_map])
theorem r_lenP1 (s : P1 α) : Rf RE (gLen (En.e s)) (.ret (1 : Int)) := rfl
theorem r_lenP2 (s : P2 α β) : Rf RE (gLen (En.e s)) (.ret (2 : Int)) := rfl
theorem r_lenP3 (s : P3 α β γ) : Rf RE (gLen (En.e s)) (.ret (3 : Int)) := rfl
theorem r_lenC (s : Ch) : Rf RE (gLen (En.e s)) (.ret (1 : Int)) := rfl
theorem asBools_e : ∀ xs : List Bool, asBools (xs.map En.e) = some xs
  | [] => rfl
  | x :: xs => by
    show (asBools (xs.map En.e)).map (x :: ·) = _
    rw [asBools_e xs]; rfl
theorem asInts_e : ∀ xs : List Int, asInts (xs.map En.e) = some xs
  | [] => rfl
  | x :: xs => by
    show (asInts (xs.map En.e)).map (x :: ·) = _
    rw [asInts_e xs]; rfl
theorem asStrs_e : ∀ xs : List (List Nat), asStrs (xs.map En.e) = some xs
  | [] => rfl
  | x :: xs => by
    show (asStrs (xs.map En.e)).map (x :: ·) = _
    rw [asStrs_e xs]; rfl
theorem asStrs_c : ∀ xs : List Ch, asStrs (xs.map En.e) = some (xs.map fun c => [c.c])
  | [] => rfl
  | x :: xs => by
    show (asStrs (xs.map En.e)).map ([x.c] :: ·) = _
    rw [asStrs_c xs]; rfl
theorem r_all (xs : List Bool) : Rf RE (gAll (En.e xs)) (.ret (xs.all id)) := rf_e (by
  show onO (asBools (xs.map En.e)) _ = _
  rw [asBools_e]; rfl)
theorem r_sum (xs : List Int) : Rf RE (gSum (En.e xs)) (.ret xs.sum) := rf_e (by
  show onO (asInts (xs.map En.e)) _ = _
  rw [asInts_e]; rfl)
def maxL (xs : List Int) : M Int := match xs with
  | [] => .bad
  | x :: xs => .ret (maxI (x :: xs))
def minL (xs : List Int) : M Int := match xs with
  | [] => .bad
  | x :: xs => .ret (minI (x :: xs))
theorem r_maxL (xs : List Int) : Rf RE (gMaxL (En.e xs)) (maxL xs) := by
  cases xs with
  | nil => exact rf_bad
  | cons x xs =>
    refine rf_e ?_
    show onO (asInts ((x :: xs).map En.e)) _ = _
    rw [asInts_e]; rfl
theorem r_minL (xs : List Int) : Rf RE (gMinL (En.e xs)) (minL xs) := by
  cases xs with
  | nil => exact rf_bad
  | cons x xs =>
    refine rf_e ?_
    show onO (asInts ((x :: xs).map En.e)) _ = _
    rw [asInts_e]; rfl
theorem r_max2 (i j : Int) : Rf RE (gMax2 (En.e i) (En.e j)) (.ret (if j > i then j else i)) := rfl
theorem r_min2 (i j : Int) : Rf RE (gMin2 (En.e i) (En.e j)) (.ret (if j < i then j else i)) := rfl
theorem r_tupL (xs : List α) : Rf RE (gTuple (En.e xs)) (.ret (⟨xs⟩ : Tp α)) := rfl
theorem r_tupT (xs : Tp α) : Rf RE (gTuple (En.e xs)) (.ret xs) := rfl
theorem r_lstL (xs : List α) : Rf RE (gList (En.e xs)) (.ret xs) := rfl
theorem r_lstT (xs : Tp α) : Rf RE (gList (En.e xs)) (.ret xs.l) := rfl
theorem r_lstP2 (x : P2 α α) : Rf RE (gList (En.e x)) (.ret [x.a, x.b]) := rfl
theorem r_int (i : Int) : Rf RE (gInt (En.e i)) (.ret i) := rfl
theorem r_str (i : List Nat) : Rf RE (gStr (En.e i)) (.ret i) := rfl
theorem r_sorted (xs : List Int) : Rf RE (gSorted (En.e xs)) (.ret (isort xs)) := rf_e (by
  show onO (asInts (xs.map En.e)) _ = _
  rw [asInts_e]; rfl)
def sortSet (xs : List Int) : M (List Int) := if (dedupI xs).length < 64 ∧ xs.length < 4000 then .ret (isort (dedupI xs)) else .bad
theorem r_sortSet (xs : List Int) : Rf RE (gSortedSet (En.e xs)) (sortSet xs) := by
  show Rf RE (onO (asInts (xs.map En.e)) _) _
  rw [asInts_e]
  show Rf RE (if (dedupI xs).length < 64 ∧ xs.length < 4000 then M.ret (.lst ((isort (dedupI xs)).map .int)) else .bad) _
  unfold sortSet
  by_cases h : (dedupI xs).length < 64 ∧ xs.length < 4000
  · rw [if_pos h, if_pos h]; exact rfl
  · rw [if_neg h, if_neg h]; exact rf_bad
def joinS (xs : List (List Nat)) : M (List Nat) := fitM (xs.map List.length).sum xs.flatten
def joinC (xs : List Ch) : M (List Nat) := fitM xs.length (xs.map Ch.c)
theorem r_joinS (xs : List (List Nat)) : Rf RE (gJoin (En.e xs)) (joinS xs) := by
  show Rf RE (onO (asStrs (xs.map En.e)) _) _
  rw [asStrs_e]
  exact rf_fit rfl rfl
theorem r_joinT (xs : Tp (List Nat)) : Rf RE (gJoin (En.e xs)) (joinS xs.l) := by
  show Rf RE (onO (asStrs (xs.l.map En.e)) _) _
  rw [asStrs_e]
  exact rf_fit rfl rfl
theorem flat_c : ∀ xs : List Ch, (xs.map fun c => [c.c]).flatten = xs.map Ch.c
  | [] => rfl
  | x :: xs => by rw [List.map_cons, List.flatten_cons, flat_c xs]; rfl
theorem sum_one {α : Type} (f : α → List Nat) (h : ∀ x, (f x).length = 1) : ∀ xs : List α, ((xs.map f).map List.length).sum = xs.length
  | [] => rfl
  | x :: xs => by rw [List.map_cons, List.map_cons, List.sum_cons, sum_one f h xs, h x, List.length_cons]; omega
theorem r_joinC (xs : List Ch) : Rf RE (gJoin (En.e xs)) (joinC xs) := by
  show Rf RE (onO (asStrs (xs.map En.e)) _) _
  rw [asStrs_c]
  exact rf_fit (sum_one _ (fun _ => rfl) xs) (by rw [flat_c]; rfl)
def lenSet (xs : List (List Nat)) : M Int := if xs.length ≤ 4000 then .ret ((once xs).length : Int) else .bad
theorem r_lenSet (xs : List (List Nat)) : Rf RE (gLenSet (En.e xs)) (lenSet xs) := by
  show Rf RE (onO (asStrs (xs.map En.e)) _) _
  rw [asStrs_e]
  show Rf RE (if xs.length ≤ 4000 then M.ret (.int ((once xs).length : Nat)) else .bad) _
  unfold lenSet
  by_cases h : xs.length ≤ 4000
  · rw [if_pos h, if_pos h]; exact rfl
  · rw [if_neg h, if_neg h]; exact rf_bad
theorem r_lenSetT (xs : Tp (List Nat)) : Rf RE (gLenSet (En.e xs)) (lenSet xs.l) := r_lenSet xs.l
theorem r_lenSetC (xs : List Ch) : Rf RE (gLenSet (En.e xs)) (lenSet (xs.map fun c => [c.c])) := by
  have := r_lenSet (xs.map fun c => [c.c])
  have e : (En.e xs : D) = En.e (xs.map fun (c : Ch) => [c.c]) := by
    show D.lst _ = D.lst _
    rw [List.map_map]
    rfl
  rw [e]
  exact this
theorem r_count (s : List Nat) (c : Ch) : Rf RE (gCount (En.e s) (En.e c)) (.ret (s.count c.c : Int)) := rfl
theorem r_asStr (s : List Nat) : Rf RE (asStr (En.e s)) (.ret s) := rfl
/-! displays -/
theorem r_tup0 : Rf RE (gTup []) (.ret (⟨[]⟩ : Tp α)) := rfl
theorem r_tup1 (a : α) : Rf RE (gTup [En.e a]) (.ret (⟨a⟩ : P1 α)) := rfl
theorem r_tup2 (a : α) (b : β) : Rf RE (gTup [En.e a, En.e b]) (.ret (⟨a, b⟩ : P2 α β)) := rfl
theorem r_tup3 (a : α) (b : β) (c : γ) : Rf RE (gTup [En.e a, En.e b, En.e c]) (.ret (⟨a, b, c⟩ : P3 α β γ)) := rfl
theorem r_tup4 (a : α) (b : β) (c : γ) (d : δ) : Rf RE (gTup [En.e a, En.e b, En.e c, En.e d]) (.ret (⟨a, b, c, d⟩ : P4 α β γ δ)) := rfl
theorem r_tup5 (a : α) (b : β) (c : γ) (d : δ) (f : ε) : Rf RE (gTup [En.e a, En.e b, En.e c, En.e d, En.e f]) (.ret (⟨a, b, c, d, f⟩ : P5 α β γ δ ε)) := rfl
theorem r_tup6 (a : α) (b : β) (c : γ) (d : δ) (f : ε) (g : ζ) : Rf RE (gTup [En.e a, En.e b, En.e c, En.e d, En.e f, En.e g]) (.ret (⟨a, b, c, d, f, g⟩ : P6 α β γ δ ε ζ)) := rfl
theorem r_lst {ds : List D} (xs : List α) (h : ds = xs.map En.e) (hz : ds.length ≤ 1000 := by exact Nat.le_of_ble_eq_true rfl) : Rf RE (gLst ds) (.ret xs) := rf_e (by
  unfold gLst
  rw [fit_ok (by have e : sizeMax = 16000000 := rfl; omega), h]
  rfl)
/-! draws, told and due -/
def roll (n : Int) : M Int := if 0 < n ∧ n.natAbs < 1073741824 then .draw n.toNat fun i => .ret (i : Int) else .bad
theorem r_roll (c : Cup) (n : Int) : Rf RE (gRoll [En.e c, En.e n]) (roll n) := by
  show Rf RE (if 0 < n ∧ n.natAbs < 1073741824 then M.draw n.toNat fun i => .ret (.int i) else .bad) _
  unfold roll
  by_cases h : 0 < n ∧ n.natAbs < 1073741824
  · rw [if_pos h, if_pos h]; exact ⟨rfl, fun i _ => rfl⟩
  · rw [if_neg h, if_neg h]; exact rf_bad
/-- nothing is promised where they are not alike -/
def same {α : Type} [En α] [DecidableEq α] (a b : α) : M Bool := if a = b ∧ D.plain 5 (En.e a) = true then .ret true else .bad
theorem r_sameT [DecidableEq α] (a b : α) : Rf RE (sameF 6 [En.e a, En.e b]) (same a b) := by
  unfold same
  by_cases h : a = b ∧ D.plain 5 (En.e a) = true
  · rw [if_pos h, ← h.1, same_refl 5 _ h.2]; exact rfl
  · rw [if_neg h]; exact rf_bad
end
end WK
end

section
set_option Elab.async false
set_option linter.all false
set_option maxRecDepth 100000
namespace WK
theorem lt_ok {n m : Nat} (h : Nat.ble (n + 1) m = true) : n < m := Nat.le_of_ble_eq_true h
section
variable {α β γ δ : Type} [En α] [En β] [En γ] [En δ] {p : Pt} {f f1 f2 : FE} {it : FL}
theorem xt_three {vs : List Nat} {i j l : Nat} {p' : P3 α β γ → Pt} (h : ∀ x, (((wipeP p vs).set i (some (.fz (En.e x.a)))).set j (some (.fz (En.e x.b)))).set l (some (.fz (En.e x.c))) = p' x) (hi : i < (wipeP p vs).length) (hj : j < (wipeP p vs).length) (hl : l < (wipeP p vs).length) : XT p vs (gtTup [gtName i, gtName j, gtName l]) p' := ⟨fun x ρ q => ⟨(((WK.wipe ρ vs).set i (.fz (En.e x.a))).set j (.fz (En.e x.b))).set l (.fz (En.e x.c)), by
  have h1 : i < (WK.wipe ρ vs).length := (q.wipe vs).lt hi
  have h2 : j < (WK.wipe ρ vs).length := (q.wipe vs).lt hj
  have h3 : l < (WK.wipe ρ vs).length := (q.wipe vs).lt hl
  show gtTup [gtName i, gtName j, gtName l] (.tup [En.e x.a, En.e x.b, En.e x.c]) _ = _
  simp [h1, h2, h3], by
  rw [← h x]
  exact (((q.wipe vs).set i _).set j _).set l _⟩⟩
theorem xt_four {vs : List Nat} {i j l m : Nat} {p' : P4 α β γ δ → Pt} (h : ∀ x, ((((wipeP p vs).set i (some (.fz (En.e x.a)))).set j (some (.fz (En.e x.b)))).set l (some (.fz (En.e x.c)))).set m (some (.fz (En.e x.d))) = p' x) (hi : i < (wipeP p vs).length) (hj : j < (wipeP p vs).length) (hl : l < (wipeP p vs).length) (hm : m < (wipeP p vs).length) : XT p vs (gtTup [gtName i, gtName j, gtName l, gtName m]) p' := ⟨fun x ρ q => ⟨((((WK.wipe ρ vs).set i (.fz (En.e x.a))).set j (.fz (En.e x.b))).set l (.fz (En.e x.c))).set m (.fz (En.e x.d)), by
  have h1 : i < (WK.wipe ρ vs).length := (q.wipe vs).lt hi
  have h2 : j < (WK.wipe ρ vs).length := (q.wipe vs).lt hj
  have h3 : l < (WK.wipe ρ vs).length := (q.wipe vs).lt hl
  have h4 : m < (WK.wipe ρ vs).length := (q.wipe vs).lt hm
  show gtTup [gtName i, gtName j, gtName l, gtName m] (.tup [En.e x.a, En.e x.b, En.e x.c, En.e x.d]) _ = _
  simp [h1, h2, h3, h4], by
  rw [← h x]
  exact ((((q.wipe vs).set i _).set j _).set l _).set m _⟩⟩
theorem xt_nest {vs : List Nat} {i j l : Nat} {p' : P2 α (P2 β γ) → Pt} (h : ∀ x, (((wipeP p vs).set i (some (.fz (En.e x.a)))).set j (some (.fz (En.e x.b.a)))).set l (some (.fz (En.e x.b.b))) = p' x) (hi : i < (wipeP p vs).length) (hj : j < (wipeP p vs).length) (hl : l < (wipeP p vs).length) : XT p vs (gtTup [gtName i, gtTup [gtName j, gtName l]]) p' := ⟨fun x ρ q => ⟨(((WK.wipe ρ vs).set i (.fz (En.e x.a))).set j (.fz (En.e x.b.a))).set l (.fz (En.e x.b.b)), by
  have h1 : i < (WK.wipe ρ vs).length := (q.wipe vs).lt hi
  have h2 : j < (WK.wipe ρ vs).length := (q.wipe vs).lt hj
  have h3 : l < (WK.wipe ρ vs).length := (q.wipe vs).lt hl
  show gtTup [gtName i, gtTup [gtName j, gtName l]] (.tup [En.e x.a, .tup [En.e x.b.a, En.e x.b.b]]) _ = _
  simp [h1, h2, h3], by
  rw [← h x]
  exact (((q.wipe vs).set i _).set j _).set l _⟩⟩
theorem rl_self : ∀ {m : M (List D)}, Rf RL m m
  | .ret xs => (List.map_id' xs).symm
  | .bad => trivial
  | .draw _ _ => ⟨rfl, fun _ _ => rl_self⟩
theorem wi_D {d : D} (x : XE p f (.ret d)) : XI p (iSeq f) (wSeq d) := ⟨fun ρ q => by
  show Rf RL ((f ρ).bind wSeq) _
  rw [x.ret q]
  exact rl_self⟩
theorem wi_DM {t : M D} (x : XE p f t) : XI p (iSeq f) (t.bind wSeq) := ⟨fun ρ q => rf_bind (x.go ρ q) fun d a e => by unfold RE at e; subst e; exact rl_self⟩
theorem x_lcGP {tg : FG} {test elt : FE} {vs : List Nat} {p' : α → Pt} {xs : List α} {tt : α → M Bool} {te : α → M β} (hi : XI p it (.ret xs)) (ht : XT p vs tg p') (h1 : ∀ x, XE (p' x) test (tt x)) (h2 : ∀ x, XE (p' x) elt (te x)) :
    XE p (fLc it tg test elt vs) (lcM xs tt te) := x_lcG hi ht h1 h2
theorem x_lcPP {tg : FG} {test elt : FE} {vs : List Nat} {p' : α → Pt} {xs : List α} {t : α → Bool} {g : α → β} (hi : XI p it (.ret xs)) (ht : XT p vs tg p') (h1 : ∀ x, XE (p' x) test (.ret (t x))) (h2 : ∀ x, XE (p' x) elt (.ret (g x))) :
    XE p (fLc it tg test elt vs) (lcP xs t g) := x_lcP hi ht h1 h2
theorem x_lcAP {tg : FG} {elt : FE} {vs : List Nat} {p' : α → Pt} {xs : List α} {g : α → β} (hi : XI p it (.ret xs)) (ht : XT p vs tg p') (h2 : ∀ x, XE (p' x) elt (.ret (g x))) :
    XE p (fLc it tg (fC (.bl true)) elt vs) (lcA xs g) := x_lcA hi ht h2
def asS (m : M D) : M (List Nat) := m.bind fun d => match d with
  | .str b => .ret b
  | _ => .bad
theorem rf_asS {m : M D} : Rf RE m (asS m) := by
  have := rf_bind (f := M.ret) (g := fun d => match d with
    | D.str b => M.ret b
    | _ => .bad) (Q := RE) (rf_self (m := m)) fun a b r => by
      unfold RE at r
      have r : a = b := r
      subst r
      cases a <;> first | exact rf_bad | exact rfl
  rwa [M.bind_ret] at this
/-- a list of two -/
structure Lp2 (α : Type) where
  a : α
  b : α
instance : En (Lp2 α) := ⟨fun x => .lst [En.e x.a, En.e x.b]⟩
def un2 {α : Type} : List α → M (Lp2 α)
  | [a, b] => .ret ⟨a, b⟩
  | _ => .bad
theorem rf_un2 (o : List α) : Rf RE (.ret (En.e o)) (un2 o) := by
  match o with
  | [] => exact rf_bad
  | [a] => exact rf_bad
  | [a, b] => exact rfl
  | _ :: _ :: _ :: _ => exact rf_bad
theorem xt_twoL {vs : List Nat} {i j : Nat} {p' : Lp2 α → Pt} (h : ∀ x, ((wipeP p vs).set i (some (.fz (En.e x.a)))).set j (some (.fz (En.e x.b))) = p' x) (hi : i < (wipeP p vs).length) (hj : j < (wipeP p vs).length) : XT p vs (gtTup [gtName i, gtName j]) p' := ⟨fun x ρ q => ⟨((WK.wipe ρ vs).set i (.fz (En.e x.a))).set j (.fz (En.e x.b)), by
  have h1 : i < (WK.wipe ρ vs).length := (q.wipe vs).lt hi
  have h2 : j < (WK.wipe ρ vs).length := (q.wipe vs).lt hj
  show gtTup [gtName i, gtName j] (.lst [En.e x.a, En.e x.b]) _ = _
  simp [h1, h2], by
  rw [← h x]
  exact ((q.wipe vs).set i _).set j _⟩⟩
end
/-- a law by its typed reading -/
theorem law_goT {n : Nat} {b : FS} {t : M Bool} (x : XS RE ((lawEnv n).map some) b finish t) (h : t.All fun b => b = true) : (lawM n b).All isTrue1 := by
  have q : Fits ((lawEnv n).map some) (lawEnv n) := ⟨List.length_map _, fun i s e => by
    rw [List.getElem?_map] at e
    cases q : (lawEnv n)[i]? with
    | none => rw [q] at e; cases e
    | some u => rw [q] at e; cases e; rfl⟩
  have g : ((b (lawEnv n)).bind finish).All isTrue1 := rf_all (fun d b r e => by unfold RE at r; subst r e; trivial) (x.go _ q) h
  unfold lawM
  rw [M.all_bind] at g ⊢
  refine g.mono fun fl z => ?_
  cases fl with
  | rt d => exact z
  | nx ρ => exact z.elim
  | bk ρ => exact z
  | ct ρ => exact z
end WK
end

section
set_option Elab.async false
set_option linter.all false
set_option maxRecDepth 100000
/-! Typed: zip, enumerate, two fors, order. -/
namespace WK
section
variable {α β γ δ : Type} [En α] [En β] [En γ] [En δ] {p : Pt} {f f1 f2 : FE} {it it1 : FL}
def enT {α : Type} (xs : List α) : M (List (P2 Int α)) := if xs.length ≤ sizeMax then .ret (xs.mapIdx fun i x => ⟨(i : Int), x⟩) else .bad
def zpT {α β : Type} (xs : List α) (ys : List β) : M (List (P2 α β)) := if (List.zipWith P2.mk xs ys).length ≤ sizeMax then .ret (List.zipWith P2.mk xs ys) else .bad
theorem rf_enT (xs : List α) : Rf RL (fitL (enumL (xs.map En.e))) (enT xs) := by
  unfold fitL enT
  have e : enumL (xs.map En.e) = (xs.mapIdx fun i x => (⟨(i : Int), x⟩ : P2 Int α)).map En.e := by
    unfold enumL
    apply List.ext_getElem?
    intro i
    simp only [List.getElem?_mapIdx, List.getElem?_map, Option.map_map]
    rfl
  rw [e, List.length_map, List.length_mapIdx]
  by_cases h : xs.length ≤ sizeMax
  · rw [if_pos h, if_pos h]; exact rfl
  · rw [if_neg h, if_neg h]; exact rf_bad
theorem rf_zpT (xs : List α) (ys : List β) : Rf RL (fitL (zipL (xs.map En.e) (ys.map En.e))) (zpT xs ys) := by
  unfold fitL zpT
  have e : zipL (xs.map En.e) (ys.map En.e) = (List.zipWith P2.mk xs ys).map En.e := by
    unfold zipL
    rw [List.zipWith_map, List.map_zipWith]
    rfl
  rw [e, List.length_map]
  by_cases h : (List.zipWith P2.mk xs ys).length ≤ sizeMax
  · rw [if_pos h, if_pos h]; exact rfl
  · rw [if_neg h, if_neg h]; exact rf_bad
theorem wi_enum {t : M (List α)} (x : XI p (iSeq f) t) : XI p (iEnumF f) (t.bind enT) := ⟨fun ρ q => by
  show Rf RL ((f ρ).bind fun d => (wSeq d).bind fun xs => fitL (enumL xs)) _
  have := rf_bind (f := fun xs => fitL (enumL xs)) (g := enT) (Q := RL) (x.go ρ q) fun ds xs e => by
    unfold RL at e; subst e; exact rf_enT xs
  have e : ((f ρ).bind fun d => (wSeq d).bind fun xs => fitL (enumL xs)) = (iSeq f ρ).bind fun xs => fitL (enumL xs) := by
    unfold iSeq
    rw [M.bind_assoc]
  rw [e]
  exact this⟩
def sqL {α : Type} (xs : List α) : M (List α) := .ret xs
def sqT {α : Type} (xs : Tp α) : M (List α) := .ret xs.l
theorem rf_sqL (xs : List α) : Rf RL (wSeq (En.e xs)) (sqL xs) := rfl
theorem rf_sqT (xs : Tp α) : Rf RL (wSeq (En.e xs)) (sqT xs) := rfl
theorem wi_zip {t1 : M α} {t2 : M β} {s1 : α → M (List γ)} {s2 : β → M (List δ)} (x : XE p f1 t1) (y : XE p f2 t2) (h1 : ∀ a, Rf RL (wSeq (En.e a)) (s1 a)) (h2 : ∀ b, Rf RL (wSeq (En.e b)) (s2 b)) :
    XI p (iZipF f1 f2) (t1.bind fun a => t2.bind fun b => (s1 a).bind fun xs => (s2 b).bind fun ys => zpT xs ys) := ⟨fun ρ q =>
  rf_bind (x.go ρ q) fun d a e => by
    unfold RE at e; subst e
    exact rf_bind (y.go ρ q) fun d b e => by
      unfold RE at e; subst e
      exact rf_bind (h1 a) fun ds xs e => by
        unfold RL at e; subst e
        exact rf_bind (h2 b) fun ds ys e => by
          unfold RL at e; subst e
          exact rf_zpT xs ys⟩
/-! two fors -/
def lc2I {β γ : Type} (ys : List β) (tt : β → M Bool) (te : β → M γ) : M (List γ) := lcG tt te ys
def lc2G {α γ : Type} (tt : α → M Bool) (inn : α → M (List γ)) : List α → M (List γ)
  | [] => .ret []
  | x :: xs => (tt x).bind fun b => (if b = true then inn x else .ret []).bind fun ys => (lc2G tt inn xs).bind fun zs => .ret (ys ++ zs)
def lc2M {α γ : Type} (xs : List α) (tt : α → M Bool) (inn : α → M (List γ)) : M (List γ) := if xs.length < sizeMax then
    (lc2G tt inn xs).bind fun zs => if zs.length < sizeMax then .ret zs else .bad
  else .bad
theorem lcG_rf {tg : FG} {test elt : FE} {ρ0 : Ev} {tt : α → M Bool} {te : α → M β} (hx : ∀ x : α, ∃ ρ2, tg (En.e x) ρ0 = some ρ2 ∧ Rf RE (test ρ2) (tt x) ∧ Rf RE (elt ρ2) (te x)) : ∀ xs : List α,
    Rf (fun (yss : List (List D)) ys => yss.flatten = ys.map En.e) (mapM (lcOne tg test elt ρ0) (xs.map En.e)) (lcG tt te xs) := by
  intro xs
  induction xs with
  | nil => exact rf_ret rfl
  | cons x xs ih =>
    obtain ⟨ρ2, e, h1, h2⟩ := hx x
    show Rf _ ((lcOne tg test elt ρ0 (En.e x)).bind fun y => (mapM _ _).bind fun ys => .ret (y :: ys)) ((tt x).bind _)
    unfold lcOne
    rw [e]
    show Rf _ (((test ρ2).bind fun b => onB b ((elt ρ2).bind fun d => .ret [d]) (.ret [])).bind _) _
    rw [M.bind_assoc]
    refine rf_bind h1 fun d b eb => ?_
    unfold RE at eb
    subst eb
    refine rf_bind (R := fun (ds : List D) ys => ds = ys.map En.e) ?_ fun ds ys es => rf_bind ih fun yss zs ez => rf_ret ?_
    · cases b with
      | true => exact rf_bind h2 fun d y ey => rf_ret (by unfold RE at ey; rw [ey]; rfl)
      | false => exact rf_ret rfl
    · show (ds :: yss).flatten = _
      rw [List.flatten_cons, es, ez, List.map_append]
theorem lc2_rf {tg : FG} {test : FE} {inn : Ev → M (List D)} {ρ0 : Ev} {tt : α → M Bool} {ti : α → M (List γ)} (hx : ∀ x : α, ∃ ρ2, tg (En.e x) ρ0 = some ρ2 ∧ Rf RE (test ρ2) (tt x) ∧ Rf RL (inn ρ2) (ti x)) : ∀ xs : List α,
    Rf (fun (yss : List (List D)) ys => yss.flatten = ys.map En.e) (mapM (lc2Out tg test inn ρ0) (xs.map En.e)) (lc2G tt ti xs) := by
  intro xs
  induction xs with
  | nil => exact rf_ret rfl
  | cons x xs ih =>
    obtain ⟨ρ2, e, h1, h2⟩ := hx x
    show Rf _ ((lc2Out tg test inn ρ0 (En.e x)).bind fun y => (mapM _ _).bind fun ys => .ret (y :: ys)) ((tt x).bind _)
    unfold lc2Out
    rw [e]
    show Rf _ (((test ρ2).bind fun b => onB b (inn ρ2) (.ret [])).bind _) _
    rw [M.bind_assoc]
    refine rf_bind h1 fun d b eb => ?_
    unfold RE at eb
    subst eb
    refine rf_bind (R := fun (ds : List D) ys => ds = ys.map En.e) ?_ fun ds ys es => rf_bind ih fun yss zs ez => rf_ret ?_
    · cases b with
      | true => exact h2
      | false => exact rf_ret rfl
    · show (ds :: yss).flatten = _
      rw [List.flatten_cons, es, ez, List.map_append]
theorem x_lc2 {tg tg1 : FG} {test test1 elt : FE} {vs vs1 : List Nat} {p' : α → Pt} {p1 : α → β → Pt} {ti : M (List α)} {tt : α → M Bool} {ti1 : α → M (List β)} {tt1 : α → β → M Bool} {te : α → β → M γ}
    (hi : XI p it ti) (ht : XT p vs tg p') (h1 : ∀ x, XE (p' x) test (tt x)) (hi1 : ∀ x, XI (p' x) it1 (ti1 x)) (ht1 : ∀ x, XT (p' x) vs1 tg1 (p1 x)) (h2 : ∀ x y, XE (p1 x y) test1 (tt1 x y)) (h3 : ∀ x y, XE (p1 x y) elt (te x y)) :
    XE p (fLc2 it tg test it1 tg1 test1 elt vs vs1) (ti.bind fun xs => lc2M xs tt fun x => (ti1 x).bind fun ys => lc2I ys (tt1 x) (te x)) := ⟨fun ρ q => by
  show Rf RE ((it ρ).bind fun xs => if xs.length < sizeMax then _ else _) _
  refine rf_bind (hi.go ρ q) fun ds xs e => ?_
  unfold RL at e
  subst e
  unfold lc2M
  rw [List.length_map]
  by_cases hz : xs.length < sizeMax
  · rw [if_pos hz, if_pos hz]
    refine rf_bind (lc2_rf (tt := tt) (ti := fun x => (ti1 x).bind fun ys => lc2I ys (tt1 x) (te x)) (fun x => ?_) xs) fun yss zs e => ?_
    · obtain ⟨ρ2, e, g⟩ := ht.go x ρ q
      refine ⟨ρ2, e, (h1 x).go ρ2 g, ?_⟩
      refine rf_bind ((hi1 x).go ρ2 g) fun ds ys e => ?_
      unfold RL at e
      subst e
      have := rf_bind (f := fun yss => M.ret yss.flatten) (g := M.ret) (Q := RL) (lcG_rf (tg := tg1) (test := test1) (elt := elt) (ρ0 := WK.wipe ρ2 vs1) (tt := tt1 x) (te := te x) (fun y => by
        obtain ⟨ρ3, e, k⟩ := (ht1 x).go y ρ2 g
        exact ⟨ρ3, e, (h2 x y).go ρ3 k, (h3 x y).go ρ3 k⟩) ys) fun yss zs e => by
          show RL _ _
          exact e
      rw [M.bind_ret] at this
      exact this
    · have e : yss.flatten = zs.map En.e := e
      rw [e, List.length_map]
      by_cases hw : zs.length < sizeMax
      · rw [if_pos hw, if_pos hw]; exact rfl
      · rw [if_neg hw, if_neg hw]; exact rf_bad
  · rw [if_neg hz, if_neg hz]
    exact rf_bad⟩
end
/-! ### order -/
/-- data of this kind can be compared -/
class Od (α : Type) [En α] where
  lt : α → α → Bool
  sk : α → Bool
  e_lt : ∀ a b : α, dLt (En.e a) (En.e b) = lt a b
  e_alk : ∀ a b : α, dAlk (En.e a) (En.e b) = true
  e_so : ∀ xs : List α, xs.all sk = true → ((xs.map En.e).all nonE || (xs.map En.e).all noT) = true
  irr : ∀ a : α, lt a a = false
  trans : ∀ a b c : α, lt a b = true → lt b c = true → lt a c = true
  tri : ∀ a b : α, a ≠ b → lt a b = true ∨ lt b a = true
theorem so_all {α : Type} [En α] (h : ∀ a : α, noT (En.e a) = true) (xs : List α) : ((xs.map En.e).all nonE || (xs.map En.e).all noT) = true := by
  rw [Bool.or_eq_true]
  exact .inr (List.all_eq_true.mpr fun d hd => by
    obtain ⟨a, _, rfl⟩ := List.mem_map.mp hd
    exact h a)
instance : Od Int where
  lt a b := decide (a < b)
  sk _ := true
  e_lt _ _ := rfl
  e_alk _ _ := rfl
  e_so xs _ := so_all (fun _ => rfl) xs
  irr a := by simp
  trans a b c h k := by simp at *; omega
  tri a b h := by simp; omega
theorem txt_tri (a b : List Nat) (h : a ≠ b) : a < b ∨ b < a := by
  by_cases h1 : a < b
  · exact .inl h1
  · by_cases h2 : b < a
    · exact .inr h2
    · exact absurd (List.le_antisymm (List.not_lt.mp h2) (List.not_lt.mp h1)) h
instance : Od (List Nat) where
  lt a b := decide (a < b)
  sk _ := true
  e_lt _ _ := rfl
  e_alk _ _ := rfl
  e_so xs _ := so_all (fun _ => rfl) xs
  irr a := by simp [List.lt_irrefl]
  trans a b c h k := by
    simp at *
    exact List.lt_trans h k
  tri a b h := by
    simp
    exact txt_tri a b h
theorem lt1 (a b : Nat) : decide ([a] < [b]) = decide (a < b) := by
  have : ([a] < [b]) ↔ a < b := by
    constructor
    · intro h
      cases h with
      | rel h => exact h
      | cons h => cases h
    · exact fun h => .rel h
  simp [this]
instance : Od Ch where
  lt a b := decide (a.c < b.c)
  sk _ := true
  e_lt a b := lt1 a.c b.c
  e_alk _ _ := rfl
  e_so xs _ := so_all (fun _ => rfl) xs
  irr a := by simp
  trans a b c h k := by simp at *; omega
  tri a b h := by
    have : a.c ≠ b.c := fun e => h (by cases a; cases b; simp_all)
    simp; omega
def lexO {α : Type} [DecidableEq α] (lt : α → α → Bool) : List α → List α → Bool
  | x :: xs, y :: ys => if x = y then lexO lt xs ys else lt x y
  | [], _ :: _ => true
  | _, _ => false
theorem alks_e {α : Type} [En α] [Od α] : ∀ xs ys : List α, dAlks (xs.map En.e) (ys.map En.e) = true
  | [], _ => by simp [dAlks]
  | _ :: _, [] => by simp [dAlks]
  | x :: xs, y :: ys => by
    simp only [List.map_cons, dAlks, Bool.and_eq_true]
    exact ⟨Od.e_alk x y, alks_e xs ys⟩
theorem lts_e {α : Type} [En α] [DecidableEq α] [EnEq α] [Od α] : ∀ xs ys : List α, dLts (xs.map En.e) (ys.map En.e) = lexO Od.lt xs ys
  | [], [] => rfl
  | [], _ :: _ => rfl
  | _ :: _, [] => rfl
  | x :: xs, y :: ys => by
    simp only [List.map_cons, dLts, lexO]
    rw [EnEq.eq, Od.e_lt, lts_e xs ys]
    by_cases h : x = y <;> simp [h]
section
variable {α : Type} [DecidableEq α] {lt : α → α → Bool}
theorem lexO_irr (h : ∀ a, lt a a = false) : ∀ xs : List α, lexO lt xs xs = false
  | [] => rfl
  | x :: xs => by simp [lexO, lexO_irr h xs]
theorem lexO_trans (h : ∀ a, lt a a = false) (t : ∀ a b c, lt a b = true → lt b c = true → lt a c = true) : ∀ xs ys zs : List α, lexO lt xs ys = true → lexO lt ys zs = true → lexO lt xs zs = true
  | [], _, [], a, b => by cases ‹List α› <;> simp [lexO] at *
  | [], _, _ :: _, _, _ => by simp [lexO]
  | x :: xs, [], _, a, _ => by simp [lexO] at a
  | x :: xs, y :: ys, [], _, b => by simp [lexO] at b
  | x :: xs, y :: ys, z :: zs, a, b => by
    simp only [lexO] at *
    by_cases e1 : x = y
    · subst e1
      rw [if_pos rfl] at a
      by_cases e2 : x = z
      · subst e2
        rw [if_pos rfl] at *
        exact lexO_trans h t xs ys zs a b
      · rw [if_neg e2] at *
        exact b
    · rw [if_neg e1] at a
      by_cases e2 : y = z
      · subst e2
        rw [if_neg e1]
        exact a
      · rw [if_neg e2] at b
        have := t _ _ _ a b
        have e3 : x ≠ z := fun e => by subst e; rw [h] at this; cases this
        rw [if_neg e3]
        exact this
theorem lexO_tri (t : ∀ a b, a ≠ b → lt a b = true ∨ lt b a = true) : ∀ xs ys : List α, xs ≠ ys → lexO lt xs ys = true ∨ lexO lt ys xs = true
  | [], [], e => absurd rfl e
  | [], _ :: _, _ => .inl rfl
  | _ :: _, [], _ => .inr rfl
  | x :: xs, y :: ys, e => by
    simp only [lexO]
    by_cases e1 : x = y
    · subst e1
      rw [if_pos rfl, if_pos rfl]
      exact lexO_tri t xs ys fun e2 => e (by rw [e2])
    · rw [if_neg e1, if_neg fun e2 => e1 e2.symm]
      exact t x y e1
end
instance {α : Type} [En α] [DecidableEq α] [EnEq α] [Od α] : Od (Tp α) where
  lt a b := lexO Od.lt a.l b.l
  sk a := !a.l.isEmpty
  e_lt a b := by
    show dLt (.tup _) (.tup _) = _
    rw [dLt]
    exact lts_e a.l b.l
  e_alk a b := by
    show dAlk (.tup _) (.tup _) = _
    rw [dAlk]
    exact alks_e a.l b.l
  e_so xs h := by
    rw [Bool.or_eq_true]
    refine .inl (List.all_eq_true.mpr fun d hd => ?_)
    obtain ⟨a, ha, rfl⟩ := List.mem_map.mp hd
    have := List.all_eq_true.mp h a ha
    obtain ⟨l⟩ := a
    cases l with
    | nil => cases this
    | cons => rfl
  irr a := lexO_irr Od.irr a.l
  trans a b c := lexO_trans Od.irr Od.trans a.l b.l c.l
  tri a b h := lexO_tri Od.tri a.l b.l fun e => h (by cases a; cases b; simp_all)
instance {α β : Type} [En α] [DecidableEq α] [EnEq α] [Od α] [En β] [DecidableEq β] [EnEq β] [Od β] : Od (P2 α β) where
  lt x y := if x.a = y.a then Od.lt x.b y.b else Od.lt x.a y.a
  sk _ := true
  e_lt x y := by
    show dLt (.tup [En.e x.a, En.e x.b]) (.tup [En.e y.a, En.e y.b]) = _
    simp only [dLt, dLts]
    rw [EnEq.eq, EnEq.eq, Od.e_lt, Od.e_lt]
    by_cases h : x.a = y.a
    · simp only [h, decide_true, if_true]
      by_cases k : x.b = y.b
      · simp [k, Od.irr]
      · simp [k]
    · simp [h]
  e_alk x y := by
    show dAlk (.tup [En.e x.a, En.e x.b]) (.tup [En.e y.a, En.e y.b]) = _
    simp only [dAlk, dAlks, Od.e_alk]
    rfl
  e_so xs _ := by
    rw [Bool.or_eq_true]
    refine .inl (List.all_eq_true.mpr fun d hd => ?_)
    obtain ⟨a, ha, rfl⟩ := List.mem_map.mp hd
    rfl
  irr x := by simp [Od.irr]
  trans x y z h k := by
    by_cases e1 : x.a = y.a
    · rw [if_pos e1] at h
      by_cases e2 : y.a = z.a
      · rw [if_pos e2] at k
        rw [if_pos (e1.trans e2)]
        exact Od.trans _ _ _ h k
      · rw [if_neg e2] at k
        rw [if_neg (e1 ▸ e2), e1]
        exact k
    · rw [if_neg e1] at h
      by_cases e2 : y.a = z.a
      · rw [← e2, if_neg e1]
        exact h
      · rw [if_neg e2] at k
        have := Od.trans _ _ _ h k
        rw [if_neg fun e => by rw [e, Od.irr] at this; cases this]
        exact this
  tri x y h := by
    by_cases e1 : x.a = y.a
    · rw [if_pos e1, if_pos e1.symm]
      exact Od.tri _ _ fun e => h (by cases x; cases y; simp_all)
    · rw [if_neg e1, if_neg fun e => e1 e.symm]
      exact Od.tri _ _ e1
/-! comparisons -/
section
variable {α : Type} [En α] [DecidableEq α] [EnEq α] [Od α]
theorem cmp_e (a b : α) (hk : EnEq.k α ≤ 20) : cmpOk (En.e a) (En.e b) = true := by
  unfold cmpOk
  rw [EnEq.ok a 20 hk, EnEq.ok b 20 hk, Od.e_alk]
  rfl
theorem r_ltX (a b : α) (hk : EnEq.k α ≤ 20 := by decide) : Rf RE (gLtX (En.e a) (En.e b)) (.ret (Od.lt a b)) := rf_e (by
  unfold gLtX; rw [if_pos (cmp_e a b hk), Od.e_lt]; rfl)
theorem r_leX (a b : α) (hk : EnEq.k α ≤ 20 := by decide) : Rf RE (gLeX (En.e a) (En.e b)) (.ret (!Od.lt b a)) := rf_e (by
  unfold gLeX; rw [if_pos (cmp_e a b hk), Od.e_lt]; rfl)
theorem r_gtX (a b : α) (hk : EnEq.k α ≤ 20 := by decide) : Rf RE (gGtX (En.e a) (En.e b)) (.ret (Od.lt b a)) := rf_e (by
  unfold gGtX; rw [if_pos (cmp_e a b hk), Od.e_lt]; rfl)
theorem r_geX (a b : α) (hk : EnEq.k α ≤ 20 := by decide) : Rf RE (gGeX (En.e a) (En.e b)) (.ret (!Od.lt a b)) := rf_e (by
  unfold gGeX; rw [if_pos (cmp_e a b hk), Od.e_lt]; rfl)
theorem r_ltXI (a b : Int) : Rf RE (gLtX (En.e a) (En.e b)) (.ret (decide (a < b))) := r_ltX a b
theorem r_gtXI (a b : Int) : Rf RE (gGtX (En.e a) (En.e b)) (.ret (decide (b < a))) := r_gtX a b
theorem r_leXI (a b : Int) : Rf RE (gLeX (En.e a) (En.e b)) (.ret (decide (a ≤ b))) := by
  have := r_leX a b
  have e : (!(Od.lt b a)) = decide (a ≤ b) := by
    show (!decide (b < a)) = _
    by_cases h : a ≤ b <;> simp [h] <;> omega
  rw [e] at this
  exact this
theorem r_geXI (a b : Int) : Rf RE (gGeX (En.e a) (En.e b)) (.ret (decide (b ≤ a))) := by
  have := r_geX a b
  have e : (!(Od.lt a b)) = decide (b ≤ a) := by
    show (!decide (a < b)) = _
    by_cases h : b ≤ a <;> simp [h] <;> omega
  rw [e] at this
  exact this
theorem r_ltXS (a b : List Nat) : Rf RE (gLtX (En.e a) (En.e b)) (.ret (decide (a < b))) := r_ltX a b
theorem r_gtXS (a b : List Nat) : Rf RE (gGtX (En.e a) (En.e b)) (.ret (decide (b < a))) := r_gtX a b
theorem r_leXS (a b : List Nat) : Rf RE (gLeX (En.e a) (En.e b)) (.ret (!decide (b < a))) := r_leX a b
theorem r_geXS (a b : List Nat) : Rf RE (gGeX (En.e a) (En.e b)) (.ret (!decide (a < b))) := r_geX a b
/-! sorted -/
def insO {α : Type} (lt : α → α → Bool) (x : α) : List α → List α
  | [] => [x]
  | y :: ys => if lt y x then y :: insO lt x ys else x :: y :: ys
def srt {α : Type} (lt : α → α → Bool) : List α → List α
  | [] => []
  | x :: xs => insO lt x (srt lt xs)
theorem ins_perm {α : Type} {lt : α → α → Bool} (x : α) : ∀ l : List α, (insO lt x l).Perm (x :: l)
  | [] => .refl _
  | y :: ys => by
    unfold insO
    split
    · exact ((ins_perm x ys).cons y).trans (List.Perm.swap x y ys)
    · exact .refl _
theorem srt_perm {α : Type} {lt : α → α → Bool} : ∀ l : List α, (srt lt l).Perm l
  | [] => .nil
  | x :: xs => (ins_perm x _).trans ((srt_perm xs).cons x)
theorem not_trans (x y z : α) (h : Od.lt y x = false) (k : Od.lt z y = false) : Od.lt z x = false := by
  cases e : Od.lt z x with
  | false => rfl
  | true =>
    by_cases e1 : x = y
    · subst e1; rw [k] at e; cases e
    · rcases Od.tri x y e1 with q | q
      · have := Od.trans _ _ _ e q
        rw [k] at this
        cases this
      · rw [h] at q; cases q
theorem asym (x y : α) (h : Od.lt x y = true) : Od.lt y x = false := by
  cases e : Od.lt y x with
  | false => rfl
  | true =>
    have := Od.trans _ _ _ h e
    rw [Od.irr] at this
    cases this
theorem ins_sorted (x : α) : ∀ l : List α, (l.Pairwise fun a b => Od.lt b a = false) → (insO Od.lt x l).Pairwise fun a b => Od.lt b a = false
  | [], _ => List.pairwise_singleton _ _
  | y :: ys, h => by
    obtain ⟨h1, h2⟩ := List.pairwise_cons.mp h
    unfold insO
    split
    · rename_i q
      refine List.pairwise_cons.mpr ⟨fun z hz => ?_, ins_sorted x ys h2⟩
      rcases List.mem_cons.mp ((ins_perm x ys).mem_iff.mp hz) with e | hz
      · subst e; exact asym _ _ q
      · exact h1 z hz
    · rename_i q
      have q : Od.lt y x = false := by simpa using q
      refine List.pairwise_cons.mpr ⟨fun z hz => ?_, h⟩
      rcases List.mem_cons.mp hz with e | hz
      · subst e; exact q
      · exact not_trans x y z q (h1 z hz)
theorem srt_sorted : ∀ l : List α, (srt Od.lt l).Pairwise fun a b => Od.lt b a = false
  | [] => .nil
  | x :: xs => ins_sorted x _ (srt_sorted xs)
theorem sort_uniq : ∀ {a b : List α}, a.Perm b → (a.Pairwise fun a b => Od.lt b a = false) → (b.Pairwise fun a b => Od.lt b a = false) → a = b := fun p h k =>
  p.eq_of_pairwise (fun x y _ _ h k => by
    by_cases e : x = y
    · exact e
    · rcases Od.tri x y e with q | q
      · rw [q] at k; cases k
      · rw [q] at h; cases h) h k
theorem merge_srt (l : List α) : l.mergeSort (fun a b => !Od.lt b a) = srt Od.lt l := by
  refine sort_uniq ((List.mergeSort_perm _ _).trans (srt_perm l).symm) ?_ (srt_sorted l)
  have := List.pairwise_mergeSort (le := fun a b : α => !Od.lt b a) (fun a b c h k => by
    simp only [Bool.not_eq_true'] at *
    exact not_trans a b c h k) (fun a b => by
    by_cases e : a = b
    · subst e; simp [Od.irr]
    · rcases Od.tri a b e with q | q
      · simp [asym _ _ q]
      · simp [asym _ _ q]) l
  exact this.imp fun h => by simpa using h
def sortX {α : Type} [En α] [Od α] (xs : List α) : M (List α) := if xs.all Od.sk = true ∧ xs.length ≤ sizeMax then .ret (srt Od.lt xs) else .bad
theorem allAlk_e (xs : List α) (hk : EnEq.k α ≤ 20) : allAlk (xs.map En.e) = true := by
  unfold allAlk
  rw [Bool.and_eq_true]
  refine ⟨ok_maps hk xs, List.all_eq_true.mpr fun x hx => List.all_eq_true.mpr fun y hy => ?_⟩
  obtain ⟨a, _, rfl⟩ := List.mem_map.mp hx
  obtain ⟨b, _, rfl⟩ := List.mem_map.mp hy
  exact Od.e_alk a b
theorem r_sortX (xs : List α) (hk : EnEq.k α ≤ 20 := by decide) : Rf RE (gSortedX (En.e xs)) (sortX xs) := by
  unfold sortX
  by_cases h : xs.all Od.sk = true ∧ xs.length ≤ sizeMax
  · rw [if_pos h]
    refine rf_e ?_
    show (if sortOk (xs.map En.e) then M.ret (D.lst ((xs.map En.e).mergeSort dLe)) else .bad) = _
    have e1 : sortOk (xs.map En.e) = true := by
      unfold sortOk
      rw [allAlk_e xs hk, Od.e_so xs h.1, List.length_map]
      simpa using h.2
    rw [if_pos e1, ← merge_srt, ← List.map_mergeSort (r := fun a b => !Od.lt b a) fun a _ b _ => by
      unfold dLe
      rw [Od.e_lt]]
    rfl
  · rw [if_neg h]; exact rf_bad
def sortC (s : List Nat) : M (List Ch) := if s.length ≤ sizeMax then .ret ((sortN s).map Ch.mk) else .bad
theorem r_sortC (s : List Nat) : Rf RE (gSortedX (En.e s)) (sortC s) := by
  unfold sortC
  by_cases h : s.length ≤ sizeMax
  · rw [if_pos h]
    refine rf_e ?_
    show (if s.length ≤ sizeMax then M.ret (D.lst ((sortN s).map fun c => D.str [c])) else .bad) = _
    rw [if_pos h]
    show _ = M.ret (D.lst (((sortN s).map Ch.mk).map En.e))
    rw [List.map_map]
    rfl
  · rw [if_neg h]; exact rf_bad
/-! min, max -/
def minO {α : Type} [En α] [Od α] (x : α) (xs : List α) : α := xs.foldl (fun a y => if Od.lt y a then y else a) x
def maxO {α : Type} [En α] [Od α] (x : α) (xs : List α) : α := xs.foldl (fun a y => if Od.lt a y then y else a) x
def minT {α : Type} [En α] [Od α] : List α → M α
  | [] => .bad
  | x :: xs => .ret (minO x xs)
def maxT {α : Type} [En α] [Od α] : List α → M α
  | [] => .bad
  | x :: xs => .ret (maxO x xs)
theorem minX_e (x : α) (xs : List α) : minX (En.e x) (xs.map En.e) = En.e (minO x xs) := by
  unfold minX minO
  induction xs generalizing x with
  | nil => rfl
  | cons y ys ih =>
    rw [List.map_cons, List.foldl_cons, List.foldl_cons, Od.e_lt, ← ih]
    split <;> rfl
theorem maxX_e (x : α) (xs : List α) : maxX (En.e x) (xs.map En.e) = En.e (maxO x xs) := by
  unfold maxX maxO
  induction xs generalizing x with
  | nil => rfl
  | cons y ys ih =>
    rw [List.map_cons, List.foldl_cons, List.foldl_cons, Od.e_lt, ← ih]
    split <;> rfl
theorem r_minX (xs : List α) (hk : EnEq.k α ≤ 20 := by decide) : Rf RE (gMinX (En.e xs)) (minT xs) := by
  cases xs with
  | nil => exact rf_bad
  | cons x xs =>
    refine rf_e ?_
    show (if allAlk (En.e x :: xs.map En.e) then M.ret (minX (En.e x) (xs.map En.e)) else .bad) = _
    rw [if_pos (show allAlk (En.e x :: xs.map En.e) = true from allAlk_e (x :: xs) hk), minX_e]
theorem r_maxX (xs : List α) (hk : EnEq.k α ≤ 20 := by decide) : Rf RE (gMaxX (En.e xs)) (maxT xs) := by
  cases xs with
  | nil => exact rf_bad
  | cons x xs =>
    refine rf_e ?_
    show (if allAlk (En.e x :: xs.map En.e) then M.ret (maxX (En.e x) (xs.map En.e)) else .bad) = _
    rw [if_pos (show allAlk (En.e x :: xs.map En.e) = true from allAlk_e (x :: xs) hk), maxX_e]
theorem r_minXT (xs : Tp α) (hk : EnEq.k α ≤ 20 := by decide) : Rf RE (gMinX (En.e xs)) (minT xs.l) := r_minX xs.l hk
theorem r_maxXT (xs : Tp α) (hk : EnEq.k α ≤ 20 := by decide) : Rf RE (gMaxX (En.e xs)) (maxT xs.l) := r_maxX xs.l hk
end
theorem minI_fold (x : Int) (xs : List Int) : minO x xs = minI (x :: xs) := by
  unfold minO
  induction xs generalizing x with
  | nil => rfl
  | cons y ys ih =>
    rw [List.foldl_cons, ih]
    show minI ((if decide (y < x) = true then y else x) :: ys) = min x (minI (y :: ys))
    cases ys with
    | nil =>
      show (if decide (y < x) = true then y else x) = min x y
      simp only [decide_eq_true_eq]
      split <;> omega
    | cons z zs =>
      show min (if decide (y < x) = true then y else x) (minI (z :: zs)) = min x (min y (minI (z :: zs)))
      simp only [decide_eq_true_eq]
      split <;> omega
theorem maxI_fold (x : Int) (xs : List Int) : maxO x xs = maxI (x :: xs) := by
  unfold maxO
  induction xs generalizing x with
  | nil => rfl
  | cons y ys ih =>
    rw [List.foldl_cons, ih]
    show maxI ((if decide (x < y) = true then y else x) :: ys) = max x (maxI (y :: ys))
    cases ys with
    | nil =>
      show (if decide (x < y) = true then y else x) = max x y
      simp only [decide_eq_true_eq]
      split <;> omega
    | cons z zs =>
      show max (if decide (x < y) = true then y else x) (maxI (z :: zs)) = max x (max y (maxI (z :: zs)))
      simp only [decide_eq_true_eq]
      split <;> omega
theorem minT_int (xs : List Int) : minT xs = minL xs := by
  cases xs with
  | nil => rfl
  | cons x xs => show M.ret _ = M.ret _; rw [minI_fold]
theorem maxT_int (xs : List Int) : maxT xs = maxL xs := by
  cases xs with
  | nil => rfl
  | cons x xs => show M.ret _ = M.ret _; rw [maxI_fold]
theorem r_minXI (xs : List Int) : Rf RE (gMinX (En.e xs)) (minL xs) := minT_int xs ▸ r_minX xs
theorem r_maxXI (xs : List Int) : Rf RE (gMaxX (En.e xs)) (maxL xs) := maxT_int xs ▸ r_maxX xs
theorem r_minXIT (xs : Tp Int) : Rf RE (gMinX (En.e xs)) (minL xs.l) := r_minXI xs.l
theorem r_maxXIT (xs : Tp Int) : Rf RE (gMaxX (En.e xs)) (maxL xs.l) := r_maxXI xs.l
theorem r_minX2 (i j : Int) : Rf RE (gMinX2 (En.e i) (En.e j)) (.ret (if j < i then j else i)) := rfl
theorem r_maxX2 (i j : Int) : Rf RE (gMaxX2 (En.e i) (En.e j)) (.ret (if j > i then j else i)) := rfl
theorem r_minX2S (i j : List Nat) : Rf RE (gMinX2 (En.e i) (En.e j)) (.ret (if j < i then j else i)) := rfl
theorem r_maxX2S (i j : List Nat) : Rf RE (gMaxX2 (En.e i) (En.e j)) (.ret (if j > i then j else i)) := rfl
end WK
end

section
set_option Elab.async false
set_option linter.all false
set_option maxRecDepth 100000
/-! Typed: items stored. -/
namespace WK
def setL {α : Type} (xs : List α) (k : Int) (a : α) : M (List α) := match ixD xs.length k with
  | some j => .ret (xs.set j a)
  | none => .bad
def getL {α : Type} (xs : List α) (k : Int) : M α := match ixD xs.length k with
  | some j => ofOp xs[j]?
  | none => .bad
section
variable {δ β : Type} {Q : δ → β → Prop} {p : Pt} {k : Fl → M δ} {α : Type} [En α] {f g : FE} {i : Nat} {t1 : M α} {t2 : M Int}
theorem map_set {xs : List α} {j : Nat} {a : α} : (xs.map En.e).set j (En.e a) = (xs.set j a).map En.e := by rw [List.map_set]
theorem xs_setI {xs : List α} (p' : List α → Pt) {t : List α → M β} (h : p[i]? = some (some (.ow (xs.map En.e)))) (x : XE p f t1) (y : XE p g t2) (e : ∀ a, p.set i (some (.ow (a.map En.e))) = p' a) (c : ∀ a, XC Q (p' a) k (t a)) :
    XS Q p (sSetI i f g) k ((t1.bind fun a => t2.bind fun j => setL xs j a).bind t) := ⟨fun ρ q => by
  unfold sSetI
  rw [q.at_ i _ h]
  show Rf Q (((f ρ).bind fun x => (g ρ).bind fun k => match k with
    | .int k => match ixD (xs.map En.e).length k with
      | some j => M.ret (Fl.nx (ρ.set i (.ow ((xs.map En.e).set j x))))
      | none => .bad
    | _ => .bad).bind k) _
  rw [M.bind_assoc, M.bind_assoc]
  refine rf_bind (x.go ρ q) fun d a r => ?_
  unfold RE at r
  subst r
  rw [M.bind_assoc, M.bind_assoc]
  refine rf_bind (y.go ρ q) fun d j r => ?_
  unfold RE at r
  subst r
  unfold setL
  show Rf Q ((match ixD (xs.map En.e).length j with
      | some j => M.ret (Fl.nx (ρ.set i (.ow ((xs.map En.e).set j (En.e a)))))
      | none => .bad).bind k) _
  rw [List.length_map]
  cases ixD xs.length j with
  | none => exact rf_bad
  | some j =>
    show Rf Q (k (.nx _)) (t _)
    have := c (xs.set j a)
    rw [← e] at this
    rw [map_set]
    exact this.go _ (q.set i _)⟩
theorem xs_augI {gg : D → D → M D} {op : Int → Int → Int} (hg : ∀ a b : Int, gg (.int a) (.int b) = .ret (.int (op a b))) {t1 : M Int} {xs : List Int} (p' : List Int → Pt) {t : List Int → M β} (h : p[i]? = some (some (.ow (xs.map En.e)))) (y : XE p g t2) (x : XE p f t1) (e : ∀ a, p.set i (some (.ow (a.map En.e))) = p' a) (c : ∀ a, XC Q (p' a) k (t a)) :
    XS Q p (sAugI gg i g f) k ((t2.bind fun j => (getL xs j).bind fun a => t1.bind fun b => setL xs j (op a b)).bind t) := ⟨fun ρ q => by
  unfold sAugI
  rw [q.at_ i _ h]
  show Rf Q (((g ρ).bind fun k => match k with
    | .int k => match ixD (xs.map En.e).length k with
      | some j => match (xs.map En.e)[j]? with
        | some x => (f ρ).bind fun y => (gg x y).bind fun z => M.ret (Fl.nx (ρ.set i (.ow ((xs.map En.e).set j z))))
        | none => .bad
      | none => .bad
    | _ => .bad).bind k) _
  rw [M.bind_assoc, M.bind_assoc]
  refine rf_bind (y.go ρ q) fun d j r => ?_
  unfold RE at r
  subst r
  unfold setL getL
  show Rf Q ((match ixD (xs.map En.e).length j with
      | some j => match (xs.map En.e)[j]? with
        | some x => (f ρ).bind fun y => (gg x y).bind fun z => M.ret (Fl.nx (ρ.set i (.ow ((xs.map En.e).set j z))))
        | none => .bad
      | none => .bad).bind k) _
  rw [List.length_map]
  cases ixD xs.length j with
  | none => exact rf_bad
  | some j =>
    show Rf Q ((match (xs.map En.e)[j]? with
        | some x => (f ρ).bind fun y => (gg x y).bind fun z => M.ret (Fl.nx (ρ.set i (.ow ((xs.map En.e).set j z))))
        | none => .bad).bind k) (((ofOp xs[j]?).bind _).bind t)
    rw [List.getElem?_map]
    cases xs[j]? with
    | none => exact rf_bad
    | some a =>
      show Rf Q (((f ρ).bind fun y => (gg (En.e a) y).bind fun z => M.ret (Fl.nx (ρ.set i (.ow ((xs.map En.e).set j z))))).bind k) ((t1.bind _).bind t)
      rw [M.bind_assoc, M.bind_assoc]
      refine rf_bind (x.go ρ q) fun d b r => ?_
      unfold RE at r
      subst r
      show Rf Q (((gg (.int a) (.int b)).bind _).bind k) _
      rw [hg]
      show Rf Q (k (.nx _)) (t _)
      have := c (xs.set j (op a b))
      rw [← e] at this
      rw [show (D.int (op a b)) = En.e (op a b) from rfl, map_set]
      exact this.go _ (q.set i _)⟩
end
theorem r_asLst {α : Type} [En α] (xs : List α) : Rf RE (asLst (En.e xs)) (.ret xs) := rfl
theorem r_cntL (xs : List Int) (k : Int) : Rf RE (gCntL (En.e xs) (En.e k)) (.ret (xs.count k : Int)) := rf_e (by
  show onO (asInts (xs.map En.e)) _ = _
  rw [asInts_e]; rfl)
section
variable {α : Type} [En α] [DecidableEq α] [EnEq α]
theorem r_inL' (x : α) (xs : List α) {i : Decidable (x ∈ xs)} (hk : EnEq.k α ≤ 20 := by decide) : Rf RE (gIn (En.e x) (En.e xs)) (.ret (@decide _ i)) := by
  have e : i = List.instDecidableMemOfLawfulBEq x xs := Subsingleton.elim _ _
  subst e
  exact r_inL x xs hk
theorem r_inT' (x : α) (xs : Tp α) {i : Decidable (x ∈ xs.l)} (hk : EnEq.k α ≤ 20 := by decide) : Rf RE (gIn (En.e x) (En.e xs)) (.ret (@decide _ i)) := by
  have e : i = List.instDecidableMemOfLawfulBEq x xs.l := Subsingleton.elim _ _
  subst e
  exact r_inT x xs hk
theorem r_notInL' (x : α) (xs : List α) {i : Decidable (x ∈ xs)} (hk : EnEq.k α ≤ 20 := by decide) : Rf RE (gNotIn (En.e x) (En.e xs)) (.ret (!@decide _ i)) := by
  have e : i = List.instDecidableMemOfLawfulBEq x xs := Subsingleton.elim _ _
  subst e
  exact r_notInL x xs hk
theorem r_notInT' (x : α) (xs : Tp α) {i : Decidable (x ∈ xs.l)} (hk : EnEq.k α ≤ 20 := by decide) : Rf RE (gNotIn (En.e x) (En.e xs)) (.ret (!@decide _ i)) := by
  have e : i = List.instDecidableMemOfLawfulBEq x xs.l := Subsingleton.elim _ _
  subst e
  exact r_notInT x xs hk
end
theorem r_repL {α : Type} [En α] (a : List α) (k : Int) : Rf RE (gRepL (En.e a) (En.e k)) (mulL a k) := r_mulL a k
end WK
end

section
set_option Elab.async false
set_option linter.all false
set_option maxRecDepth 100000
/-! Typed: dicts. -/
namespace WK
/-- keys -/
class Kc (α : Type) [En α] [DecidableEq α] : Prop where
  k : ∀ a : α, isKey (En.e a) = true
  eq : ∀ a b : α, dkEq (En.e a) (En.e b) = decide (a = b)
instance : Kc Int := ⟨fun _ => rfl, fun a b => beq_dec a b⟩
instance : Kc (List Nat) := ⟨fun _ => rfl, fun a b => beq_txt a b⟩
instance : Kc Ch := ⟨fun _ => rfl, fun a b => by
  show ([a.c] == [b.c]) = _
  rw [beq_txt]
  exact dec_iff ⟨fun h => by cases a; cases b; simp at h; rw [h], fun h => by rw [h]⟩⟩
def getM {α β : Type} [DecidableEq α] (m : List (P2 α β)) (k : α) : M β := match m.find? fun q => decide (q.a = k) with
  | some q => .ret q.b
  | none => .bad
def hasM {α β : Type} [DecidableEq α] (m : List (P2 α β)) (k : α) : Bool := m.any fun q => decide (q.a = k)
def putM {α β : Type} [DecidableEq α] (m : List (P2 α β)) (k : α) (v : β) : List (P2 α β) := if hasM m k then m.map (fun q => if q.a = k then ⟨q.a, v⟩ else q) else m ++ [⟨k, v⟩]
def dictT {α β : Type} [DecidableEq α] (xs : List (P2 α β)) : List (P2 α β) := xs.foldl (fun m q => putM m q.a q.b) []
section
variable {α β γ : Type} [En α] [En β] [En γ] [DecidableEq α] [Kc α]
abbrev mk (m : List (P2 α β)) : List D := m.map fun q => En.e q.a
abbrev mv (m : List (P2 α β)) : List D := m.map fun q => En.e q.b
def RDc (d : D) (m : List (P2 α β)) : Prop := d = .dct (mk m) (mv m)
theorem find_e (k : α) : ∀ m : List (P2 α β), dFind (En.e k) (mk m) (mv m) = (m.find? fun q => decide (q.a = k)).map fun q => En.e q.b
  | [] => rfl
  | q :: m => by
    show (if dkEq (En.e q.a) (En.e k) then some (En.e q.b) else dFind (En.e k) (mk m) (mv m)) = _
    rw [Kc.eq, find_e k m, List.find?_cons]
    cases decide (q.a = k) <;> rfl
theorem has_find (k : α) (m : List (P2 α β)) : (dFind (En.e k) (mk m) (mv m)).isSome = hasM m k := by
  rw [find_e, Option.isSome_map]
  unfold hasM
  rw [Bool.eq_iff_iff, List.find?_isSome, List.any_eq_true]
theorem repl_e (k : α) (v : β) : ∀ m : List (P2 α β), dRepl (En.e k) (En.e v) (mk m) (mv m) = mv (m.map fun q => if q.a = k then (⟨q.a, v⟩ : P2 α β) else q)
  | [] => rfl
  | q :: m => by
    show (if dkEq (En.e q.a) (En.e k) then En.e v else En.e q.b) :: dRepl (En.e k) (En.e v) (mk m) (mv m) = _
    rw [Kc.eq, repl_e k v m]
    by_cases h : q.a = k <;> simp [h, mv]
theorem keys_same (k : α) (v : β) : ∀ m : List (P2 α β), mk (m.map fun q => if q.a = k then (⟨q.a, v⟩ : P2 α β) else q) = mk m
  | [] => rfl
  | q :: m => by
    have := keys_same k v m
    by_cases h : q.a = k <;> simp_all [mk]
theorem put_e (k : α) (v : β) (m : List (P2 α β)) : dKeys (En.e k) (mk m) (mv m) = mk (putM m k v) ∧ dVals (En.e k) (En.e v) (mk m) (mv m) = mv (putM m k v) := by
  unfold dKeys dVals putM
  rw [has_find]
  cases hasM m k with
  | true => exact ⟨(keys_same k v m).symm, repl_e k v m⟩
  | false => simp [mk, mv]
structure XD (p : Pt) (f : FE) (t : M (List (P2 α β))) : Prop where
  go : ∀ ρ, Fits p ρ → Rf RDc (f ρ) t
variable {p : Pt} {f g : FE} {i : Nat} {m : List (P2 α β)} {t : M (List (P2 α β))} {tk : M α}
theorem xd_bor (e : p[i]? = some (some (.od (mk m) (mv m)))) : XD p (fBor i) (.ret m) := ⟨fun ρ q => by
  unfold fBor
  rw [q.at_ i _ e]
  exact rfl⟩
theorem xd_borL (e : p[i]? = some (some (.ol (mk m) (mv m)))) : XD p (fBor i) (.ret m) := ⟨fun ρ q => by
  unfold fBor
  rw [q.at_ i _ e]
  exact rfl⟩
theorem xd_new : XD p (fC (.dct [] [])) (.ret ([] : List (P2 α β))) := ⟨fun _ _ => rfl⟩
theorem pairs_e : ∀ (xs m : List (P2 α β)), dPairs (xs.map En.e) (mk m) (mv m) = some (mk (xs.foldl (fun m q => putM m q.a q.b) m), mv (xs.foldl (fun m q => putM m q.a q.b) m))
  | [], m => rfl
  | x :: xs, m => by
    show (if isKey (En.e x.a) then dPairs (xs.map En.e) (dKeys (En.e x.a) (mk m) (mv m)) (dVals (En.e x.a) (En.e x.b) (mk m) (mv m)) else none) = _
    rw [if_pos (Kc.k x.a), (put_e x.a x.b m).1, (put_e x.a x.b m).2, pairs_e xs]
    rfl
theorem xd_dict (x : XE p f t) : XD p (fUn gDict f) (t.bind fun xs => .ret (dictT xs)) := ⟨fun ρ q => rf_bind (x.go ρ q) fun d xs e => by
  unfold RE at e
  subst e
  show Rf RDc (match dPairs (xs.map En.e) [] [] with
    | some (ks, ds) => M.ret (D.dct ks ds)
    | none => .bad) _
  rw [show dPairs (xs.map En.e) [] [] = _ from pairs_e xs []]
  exact rfl⟩
theorem x_lenD (x : XD p f t) : XE p (fUn gLenD f) (t.bind fun m => .ret (m.length : Int)) := ⟨fun ρ q => rf_bind (x.go ρ q) fun d m e => by
  unfold RDc at e
  subst e
  show Rf RE (M.ret (.int _)) _
  rw [List.length_map]
  exact rfl⟩
theorem x_dget (x : XD p f t) (y : XE p g tk) : XE p (fOp gDGet f g) (t.bind fun m => tk.bind fun k => getM m k) := ⟨fun ρ q => rf_bind (x.go ρ q) fun d m e => by
  unfold RDc at e
  subst e
  refine rf_bind (y.go ρ q) fun d k e => ?_
  unfold RE at e
  subst e
  show Rf RE (if isKey (En.e k) then (match dFind (En.e k) (mk m) (mv m) with
    | some d => M.ret d
    | none => .bad) else .bad) _
  rw [if_pos (Kc.k k), find_e]
  unfold getM
  cases m.find? fun q => decide (q.a = k) with
  | none => exact rf_bad
  | some q => exact rfl⟩
theorem x_din (y : XE p g tk) (x : XD p f t) : XE p (fOp gDIn g f) (tk.bind fun k => t.bind fun m => .ret (hasM m k)) := ⟨fun ρ q => rf_bind (y.go ρ q) fun d k e => by
  unfold RE at e
  subst e
  refine rf_bind (x.go ρ q) fun d m e => ?_
  unfold RDc at e
  subst e
  have : gDIn (En.e k) (.dct (mk m) (mv m)) = if isKey (En.e k) then .ret (.bl (dFind (En.e k) (mk m) (mv m)).isSome) else .bad := by
    have := Kc.k k
    cases h : En.e k <;> rfl
  show Rf RE (gDIn (En.e k) (.dct (mk m) (mv m))) _
  rw [this, if_pos (Kc.k k), has_find]
  exact rfl⟩
theorem x_dnotin (y : XE p g tk) (x : XD p f t) : XE p (fOp gDNotIn g f) (tk.bind fun k => t.bind fun m => .ret (!hasM m k)) := ⟨fun ρ q => rf_bind (y.go ρ q) fun d k e => by
  unfold RE at e
  subst e
  refine rf_bind (x.go ρ q) fun d m e => ?_
  unfold RDc at e
  subst e
  have : gDNotIn (En.e k) (.dct (mk m) (mv m)) = if isKey (En.e k) then .ret (.bl (!(dFind (En.e k) (mk m) (mv m)).isSome)) else .bad := by
    have := Kc.k k
    cases h : En.e k <;> rfl
  show Rf RE (gDNotIn (En.e k) (.dct (mk m) (mv m))) _
  rw [this, if_pos (Kc.k k), has_find]
  exact rfl⟩
end
section
variable {β : Type} [En β] {p : Pt} {f : FE}
theorem sortS_srt (ss : List (List Nat)) : sortS ss = srt Od.lt ss := by
  rw [← merge_srt]
  unfold sortS
  congr 1
  funext a b
  show decide (a ≤ b) = !decide (b < a)
  by_cases h : b < a
  · simp [h]
  · simp [h, List.not_lt.mp h]
def sortDS (m : List (List Nat)) : M (List (List Nat)) := if m.length < 64 then .ret (srt Od.lt m) else .bad
def sortDI (m : List Int) : M (List Int) := if m.length < 64 then .ret (isort m) else .bad
theorem x_sortDS {t : M (List (P2 (List Nat) β))} (x : XD p f t) : XE p (fUn gSortedD f) (t.bind fun m => sortDS (m.map P2.a)) := ⟨fun ρ q => rf_bind (x.go ρ q) fun d m e => by
  unfold RDc at e
  subst e
  unfold sortDS
  rw [← sortS_srt]
  have e1 : mk m = (m.map P2.a).map En.e := by rw [List.map_map]; rfl
  show Rf RE (if (mk m).length < 64 then (match asStrs (mk m) with
    | some ss => M.ret (D.lst ((sortS ss).map .str))
    | none => match asInts (mk m) with
      | some ns => M.ret (D.lst ((isort ns).map .int))
      | none => .bad) else .bad) _
  rw [e1, List.length_map, asStrs_e]
  by_cases h : (m.map P2.a).length < 64
  · rw [if_pos h, if_pos h]; exact rfl
  · rw [if_neg h, if_neg h]; exact rf_bad⟩
end
/-! statements -/
section
variable {δ ε : Type} {Q : δ → ε → Prop} {p : Pt} {k : Fl → M δ} {α β α2 β2 : Type} [En α] [En β] [DecidableEq α] [Kc α] [En α2] [En β2] [DecidableEq α2] [Kc α2] {f g : FE} {i j : Nat}
theorem xs_ownD (p' : List (P2 α β) → Pt) {t1 : M (List (P2 α β))} {t : List (P2 α β) → M ε} (x : XD p f t1) (e : ∀ a, p.set i (some (.od (mk a) (mv a))) = p' a) (hi : i < p.length) (c : ∀ a, XC Q (p' a) k (t a)) : XS Q p (sOwnD i f) k (t1.bind t) := ⟨fun ρ q => by
  unfold sOwnD
  rw [M.bind_assoc]
  refine rf_bind (x.go ρ q) fun d a r => ?_
  unfold RDc at r
  subst r
  show Rf Q ((if i < ρ.length then M.ret (Fl.nx (ρ.set i (.od (mk a) (mv a)))) else .bad).bind k) _
  rw [if_pos (q.lt hi)]
  have := c a
  rw [← e] at this
  exact this.go _ (q.set i _)⟩
theorem xs_parD (p' : List (P2 α β) → List (P2 α2 β2) → Pt) {t1 : M (List (P2 α β))} {t2 : M (List (P2 α2 β2))} {t : List (P2 α β) → List (P2 α2 β2) → M ε} (x : XD p f t1) (y : XD p g t2) (e : ∀ a b, (p.set i (some (.od (mk a) (mv a)))).set j (some (.od (mk b) (mv b))) = p' a b) (hi : i < p.length) (hj : j < p.length) (c : ∀ a b, XC Q (p' a b) k (t a b)) :
    XS Q p (sParD i j f g) k (t1.bind fun a => t2.bind fun b => t a b) := ⟨fun ρ q => by
  unfold sParD
  rw [M.bind_assoc]
  refine rf_bind (x.go ρ q) fun d a r => ?_
  unfold RDc at r
  subst r
  rw [M.bind_assoc]
  refine rf_bind (y.go ρ q) fun d b r => ?_
  unfold RDc at r
  subst r
  show Rf Q ((if i < ρ.length ∧ j < ρ.length then M.ret (Fl.nx ((ρ.set i (.od (mk a) (mv a))).set j (.od (mk b) (mv b)))) else .bad).bind k) _
  rw [if_pos ⟨q.lt hi, q.lt hj⟩]
  have := c a b
  rw [← e] at this
  exact this.go _ ((q.set i _).set j _)⟩
def dputT {α β : Type} [DecidableEq α] (m : List (P2 α β)) (k : α) (v : β) : M (List (P2 α β)) := if m.length < sizeMax then .ret (putM m k v) else .bad
theorem xs_dput {m : List (P2 α β)} (p' : List (P2 α β) → Pt) {t1 : M β} {t2 : M α} {t : List (P2 α β) → M ε} (h : p[i]? = some (some (.od (mk m) (mv m)))) (x : XE p f t1) (y : XE p g t2) (e : ∀ a, p.set i (some (.od (mk a) (mv a))) = p' a) (c : ∀ a, XC Q (p' a) k (t a)) :
    XS Q p (sDPut i f g) k ((t1.bind fun v => t2.bind fun k => dputT m k v).bind t) := ⟨fun ρ q => by
  unfold sDPut
  rw [q.at_ i _ h]
  show Rf Q (((f ρ).bind fun x => (g ρ).bind fun k => if isKey k ∧ (mk m).length < sizeMax then M.ret (Fl.nx (ρ.set i (.od (dKeys k (mk m) (mv m)) (dVals k x (mk m) (mv m))))) else .bad).bind k) _
  rw [M.bind_assoc, M.bind_assoc]
  refine rf_bind (x.go ρ q) fun d v r => ?_
  unfold RE at r
  subst r
  rw [M.bind_assoc, M.bind_assoc]
  refine rf_bind (y.go ρ q) fun d kk r => ?_
  unfold RE at r
  subst r
  unfold dputT
  rw [List.length_map]
  by_cases hz : m.length < sizeMax
  · rw [if_pos ⟨Kc.k kk, hz⟩, if_pos hz, (put_e kk v m).1, (put_e kk v m).2, M.ret_bind, M.ret_bind]
    have := c (putM m kk v)
    rw [← e] at this
    exact this.go _ (q.set i _)
  · rw [if_neg (fun z => hz z.2), if_neg hz]
    exact rf_bad⟩
theorem x_lock {γ : Type} [En γ] {m : List (P2 α β)} {t : M γ} (p' : Pt) (h : p[i]? = some (some (.od (mk m) (mv m)))) (e : p.set i (some (.ol (mk m) (mv m))) = p') (x : XE p' f t) : XE p (fLock i f) t := ⟨fun ρ q => by
  unfold fLock
  rw [q.at_ i _ h]
  subst e
  exact x.go _ (q.set i _)⟩
def keyT {α : Type} (m : List α) : M (List α) := if m.length ≤ sizeMax then .ret m else .bad
theorem wi_dict {m : List (P2 α β)} (h : p[i]? = some (some (.ol (mk m) (mv m)))) : XI p (iDict i) (keyT (m.map P2.a)) := ⟨fun ρ q => by
  unfold iDict keyT
  rw [q.at_ i _ h]
  show Rf RL (if (mk m).length ≤ sizeMax then M.ret (mk m) else .bad) _
  rw [List.length_map, List.length_map]
  by_cases hz : m.length ≤ sizeMax
  · rw [if_pos hz, if_pos hz]
    show mk m = (m.map P2.a).map En.e
    rw [List.map_map]
    rfl
  · rw [if_neg hz, if_neg hz]
    exact rf_bad⟩
def iCst (ks : List D) : FL := fun _ => .ret ks
theorem wi_cst {α : Type} [En α] {p : Pt} (xs : List α) : XI p (iCst (xs.map En.e)) (.ret xs) := ⟨fun _ _ => rfl⟩
theorem xs_forD {m : List (P2 α β)} {tg : FG} {b : FS} {t : M ε} (p' : Pt) (h : p[i]? = some (some (.od (mk m) (mv m)))) (e : p.set i (some .no) = p') (x : XS Q p' (sFor (iCst ((m.map P2.a).map En.e)) tg b) k t) : XS Q p (sForD i tg b) k (if m.length ≤ sizeMax then t else .bad) := ⟨fun ρ q => by
  unfold sForD
  rw [q.at_ i _ h]
  show Rf Q ((if (mk m).length ≤ sizeMax then loop tg b (mk m) (ρ.set i .no) else .bad).bind k) _
  rw [List.length_map]
  by_cases hz : m.length ≤ sizeMax
  · rw [if_pos hz, if_pos hz]
    subst e
    have := x.go _ (q.set i .no)
    have e2 : (m.map P2.a).map En.e = mk m := by rw [List.map_map]; rfl
    rw [e2] at this
    exact this
  · rw [if_neg hz, if_neg hz]
    exact rf_bad⟩
end
section
variable {δ β : Type} {Q : δ → β → Prop} {p : Pt} {k : Fl → M δ} {α α' α2 : Type} [En α] [En α'] [En α2] {f g h : FE} {i j l : Nat}
theorem xs_par3N (p' : List α → List α' → List α2 → Pt) {t1 : M (List α)} {t2 : M (List α')} {t3 : M (List α2)} {t : List α → List α' → List α2 → M β} (x : XE p f t1) (y : XE p g t2) (z : XE p h t3) (e : ∀ a b c, ((p.set i (some (.ow (a.map En.e)))).set j (some (.ow (b.map En.e)))).set l (some (.ow (c.map En.e))) = p' a b c) (hi : i < p.length) (hj : j < p.length) (hl : l < p.length) (c : ∀ a b d, XC Q (p' a b d) k (t a b d)) :
    XS Q p (sPar3N i j l f g h) k (t1.bind fun a => t2.bind fun b => t3.bind fun d => t a b d) := ⟨fun ρ q => by
  unfold sPar3N
  rw [M.bind_assoc]
  refine rf_bind (x.go ρ q) fun d a r => ?_
  unfold RE at r
  subst r
  rw [M.bind_assoc]
  refine rf_bind (y.go ρ q) fun d b r => ?_
  unfold RE at r
  subst r
  rw [M.bind_assoc]
  refine rf_bind (z.go ρ q) fun d w r => ?_
  unfold RE at r
  subst r
  show Rf Q ((if i < ρ.length ∧ j < ρ.length ∧ l < ρ.length then M.ret (Fl.nx (((ρ.set i (.ow (a.map En.e))).set j (.ow (b.map En.e))).set l (.ow (w.map En.e)))) else .bad).bind k) _
  rw [if_pos ⟨q.lt hi, q.lt hj, q.lt hl⟩]
  have := c a b w
  rw [← e] at this
  exact this.go _ (((q.set i _).set j _).set l _)⟩
end
/-! displays -/
section
variable {α β : Type} [En α] [En β] [DecidableEq α] [Kc α] {p : Pt} {f g : FE}
structure XFd (p : Pt) (S : List D → M D) (fl : FL) (t : M (List (P2 α β))) : Prop where
  go : ∀ ρ, Fits p ρ → Rf RDc ((fl ρ).bind S) t
theorem xfd_nil {S : List D → M D} {t : M (List (P2 α β))} (r : Rf RDc (S []) t) : XFd p S fNil t := ⟨fun _ _ => r⟩
theorem xfd_p {γ : Type} [En γ] {a : γ} {S : List D → M D} {fl : FL} {t : M (List (P2 α β))} (x : XE p f (.ret a)) (y : XFd p (fun l => S (En.e a :: l)) fl t) : XFd p S (fCons f fl) t := ⟨fun ρ q => by
  show Rf RDc (((f ρ).bind fun x => (fl ρ).bind fun xs => .ret (x :: xs)).bind S) _
  rw [x.ret q, M.ret_bind, M.bind_assoc]
  exact y.go ρ q⟩
theorem xd_disp {fl : FL} {t : M (List (P2 α β))} (y : XFd p gDispB fl t) : XD p (fArgs gDispB fl) t := ⟨fun ρ q => y.go ρ q⟩
theorem disp_e : ∀ (xs m : List (P2 α β)), dDisp (xs.map fun q => [En.e q.a, En.e q.b]).flatten (mk m) (mv m) = some (mk (xs.foldl (fun m q => putM m q.a q.b) m), mv (xs.foldl (fun m q => putM m q.a q.b) m))
  | [], m => rfl
  | x :: xs, m => by
    show (if isKey (En.e x.a) then dDisp (xs.map fun q => [En.e q.a, En.e q.b]).flatten (dKeys (En.e x.a) (mk m) (mv m)) (dVals (En.e x.a) (En.e x.b) (mk m) (mv m)) else none) = _
    rw [if_pos (Kc.k x.a), (put_e x.a x.b m).1, (put_e x.a x.b m).2, disp_e xs]
    rfl
theorem r_disp (xs : List (P2 α β)) {ds : List D} (h : ds = (xs.map fun q => [En.e q.a, En.e q.b]).flatten) (hz : ds.length ≤ 30 := by exact Nat.le_of_ble_eq_true rfl) : Rf RDc (gDispB ds) (.ret (dictT xs)) := by
  unfold gDispB gDisp
  rw [if_pos hz, h, show dDisp (xs.map fun q => [En.e q.a, En.e q.b]).flatten [] [] = _ from disp_e xs []]
  exact rfl
end
end WK
end

section
set_option Elab.async false
set_option linter.all false
set_option maxRecDepth 100000
/-! Typed: the one text within the other. -/
namespace WK
theorem subIn_one (c : Nat) (s : List Nat) : subIn [c] s = decide (c ∈ s) := by
  unfold subIn
  rw [Bool.eq_iff_iff, List.any_eq_true, decide_eq_true_eq]
  constructor
  · rintro ⟨i, _, h⟩
    rw [Bool.and_eq_true, beq_iff_eq] at h
    have h2 : (s.drop i).take 1 = [c] := h.2
    have : c ∈ (s.drop i).take 1 := by rw [h2]; simp
    exact List.mem_of_mem_drop (List.mem_of_mem_take this)
  · intro h
    obtain ⟨i, hi, e⟩ := List.mem_iff_getElem.mp h
    refine ⟨i, List.mem_range.mpr (by omega), ?_⟩
    rw [Bool.and_eq_true, beq_iff_eq]
    refine ⟨decide_eq_true (by show i + 1 ≤ _; omega), ?_⟩
    show (s.drop i).take 1 = [c]
    rw [List.drop_eq_getElem_cons hi, e]
    rfl
theorem r_inSS (a s : List Nat) : Rf RE (gIn (En.e a) (En.e s)) (.ret (subIn a s)) := rf_e (by
  cases a with
  | nil => rfl
  | cons c r =>
    cases r with
    | nil => rw [subIn_one]; rfl
    | cons d r => rfl)
theorem r_notInSS (a s : List Nat) : Rf RE (gNotIn (En.e a) (En.e s)) (.ret (!subIn a s)) := rf_e (by
  cases a with
  | nil => rfl
  | cons c r =>
    cases r with
    | nil => rw [subIn_one]; rfl
    | cons d r => rfl)
theorem tpD_e {α : Type} [En α] (x : Tp α) : En.e x = En.e (⟨x.l.map En.e⟩ : Tp D) := congrArg D.tup (by
  show x.l.map En.e = (x.l.map En.e).map id
  rw [List.map_id])
theorem tpM_e {α β : Type} [En α] [En β] (c : α → β) (h : ∀ a, En.e a = En.e (c a)) (x : Tp α) : En.e x = En.e (⟨x.l.map c⟩ : Tp β) := congrArg D.tup (by
  show x.l.map En.e = (x.l.map c).map En.e
  rw [List.map_map]
  exact List.map_congr_left fun a _ => h a)
theorem lsD_e {α : Type} [En α] (x : List α) : En.e x = En.e (x.map En.e : List D) := congrArg D.lst (by
  show x.map En.e = (x.map En.e).map id
  rw [List.map_id])
end WK
end

section
set_option Elab.async false
set_option linter.all false
set_option maxRecDepth 100000
/-! Typed: lists that grow by lists, list(range(..)) -/
namespace WK
section
variable {δ β : Type} {Q : δ → β → Prop} {p : Pt} {k : Fl → M δ} {α : Type} [En α] {f g : FE} {i : Nat} {t1 : M (List α)}
theorem xs_ext {xs : List α} (p' : List α → Pt) {t : List α → M β} (h : p[i]? = some (some (.ow (xs.map En.e)))) (x : XE p f t1) (e : ∀ a, p.set i (some (.ow (a.map En.e))) = p' a) (c : ∀ a, XC Q (p' a) k (t a)) : XS Q p (sExt i f) k ((t1.bind fun a => addL xs a).bind t) := ⟨fun ρ q => by
  unfold sExt
  rw [q.at_ i _ h]
  show Rf Q (((f ρ).bind fun d => match d with
    | .lst ys => if (xs.map En.e).length + ys.length ≤ sizeMax then M.ret (Fl.nx (ρ.set i (.ow (xs.map En.e ++ ys)))) else .bad
    | _ => .bad).bind k) _
  rw [M.bind_assoc, M.bind_assoc]
  refine rf_bind (x.go ρ q) fun d a r => ?_
  unfold RE at r
  subst r
  show Rf Q ((if (xs.map En.e).length + (a.map En.e).length ≤ sizeMax then M.ret (Fl.nx (ρ.set i (.ow (xs.map En.e ++ a.map En.e)))) else .bad).bind k) _
  unfold addL fitM
  rw [List.length_map, List.length_map]
  by_cases hz : xs.length + a.length ≤ sizeMax
  · rw [if_pos hz, if_pos hz, M.ret_bind, M.ret_bind]
    have := c (xs ++ a)
    rw [← e] at this
    rw [← List.map_append]
    exact this.go _ (q.set i _)
  · rw [if_neg hz, if_neg hz]
    exact rf_bad⟩
end
theorem rngL_e (i : Int) (n : Nat) : D.lst (rngL i n) = En.e (rngI i n) := by
  show _ = D.lst ((rngI i n).map D.int)
  unfold rngL rngI
  rw [List.map_map]
  rfl
theorem rngL0_e (n : Nat) : D.lst (rngL 0 n) = En.e (rngN n) := by
  show _ = D.lst ((rngN n).map D.int)
  unfold rngL rngN
  rw [List.map_map]
  congr 1
  apply List.map_congr_left
  intro a _
  show D.int (0 + (a : Int)) = D.int (a : Int)
  rw [Int.zero_add]
theorem r_lrng1 (j : Int) : Rf RE (gLRng1 (En.e j)) (rg1 j) := by
  show Rf RE (if j.natAbs ≤ 4000000 then .ret (.lst (rngL 0 j.toNat)) else .bad) _
  unfold rg1
  by_cases h : j.natAbs ≤ 4000000
  · rw [if_pos h, if_pos h]
    exact rf_e (congrArg M.ret (rngL0_e _))
  · rw [if_neg h, if_neg h]
    exact rf_bad
theorem r_lrng2 (i j : Int) : Rf RE (gLRng2 (En.e i) (En.e j)) (rg2 i j) := by
  show Rf RE (if i.natAbs ≤ 4000000 ∧ j.natAbs ≤ 4000000 then .ret (.lst (rngL i (j - i).toNat)) else .bad) _
  unfold rg2
  by_cases h : i.natAbs ≤ 4000000 ∧ j.natAbs ≤ 4000000
  · rw [if_pos h, if_pos h]
    exact rf_e (congrArg M.ret (rngL_e _ _))
  · rw [if_neg h, if_neg h]
    exact rf_bad
end WK
end

section
set_option Elab.async false
set_option linter.all false
set_option maxRecDepth 100000
/-! Typed: lists of lists of one's own; pop; pairs of a dict and a list -/
namespace WK
@[simp] theorem ofOp_some' {α : Type} (a : α) : ofOp (some a) = .ret a := rfl
def nestT {α β : Type} (xs : List β) : M (List (List α)) := if xs.length < sizeMax then .ret (List.replicate xs.length []) else .bad
def getNN {α : Type} (xss : List (List α)) (k : Int) : M (List α) := if 0 ≤ k then ofOp xss[k.toNat]? else .bad
def putN {α : Type} (xss : List (List α)) (k : Int) (xs : List α) (x : α) : M (List (List α)) := if xs.length < sizeMax then .ret (xss.set k.toNat (xs ++ [x])) else .bad
def popT {α : Type} (xs : List α) : M α := ofOp xs.getLast?
section
variable {δ β γ : Type} {Q : δ → β → Prop} {p : Pt} {k : Fl → M δ} {α : Type} [En α] [En γ] {f g : FE} {it : FL} {i j : Nat} {t1 : M α} {t2 : M Int} {t3 : M (List γ)}
abbrev eN (xss : List (List α)) : List (List D) := xss.map (List.map En.e)
theorem eN_rep (n : Nat) : eN (α := α) (List.replicate n []) = List.replicate n [] := by
  unfold eN
  rw [List.map_replicate]
  rfl
theorem xs_ownN (p' : List (List α) → Pt) {t : List (List α) → M β} (x : XI p it t3) (e : ∀ a, p.set i (some (.on (eN a))) = p' a) (hi : i < p.length) (hj : j < p.length) (c : ∀ a, XC Q (p' a) k (t a)) : XS Q p (sOwnN i j it) k ((t3.bind fun xs => nestT xs).bind t) := ⟨fun ρ q => by
  unfold sOwnN
  rw [M.bind_assoc, M.bind_assoc]
  refine rf_bind (x.go ρ q) fun ds a r => ?_
  unfold RL at r
  subst r
  unfold nestT
  rw [List.length_map]
  by_cases hz : a.length < sizeMax
  · rw [if_pos ⟨hz, q.lt hj, q.lt hi⟩, if_pos hz, M.ret_bind, M.ret_bind]
    have := c (List.replicate a.length [])
    rw [← e, eN_rep] at this
    exact this.go _ (q.set i _)
  · rw [if_neg (fun h => hz h.1), if_neg hz]
    exact rf_bad⟩
theorem xs_appN {xss : List (List α)} (p' : List (List α) → Pt) {t : List (List α) → M β} (h : p[i]? = some (some (.on (eN xss)))) (y : XE p g t2) (x : XE p f t1) (e : ∀ a, p.set i (some (.on (eN a))) = p' a) (c : ∀ a, XC Q (p' a) k (t a)) :
    XS Q p (sAppN i g f) k ((t2.bind fun n => (getNN xss n).bind fun xs => t1.bind fun a => putN xss n xs a).bind t) := ⟨fun ρ q => by
  unfold sAppN
  rw [q.at_ i _ h]
  show Rf Q (((g ρ).bind fun d => match d with
    | .int k => if 0 ≤ k then (match (eN xss)[k.toNat]? with
        | some xs => (f ρ).bind fun x => if xs.length < sizeMax then .ret (.nx (ρ.set i (.on ((eN xss).set k.toNat (xs ++ [x]))))) else .bad
        | none => .bad) else .bad
    | _ => .bad).bind k) _
  rw [M.bind_assoc, M.bind_assoc]
  refine rf_bind (y.go ρ q) fun d n r => ?_
  unfold RE at r
  subst r
  show Rf Q ((if 0 ≤ n then (match (eN xss)[n.toNat]? with
        | some xs => (f ρ).bind fun x => if xs.length < sizeMax then M.ret (Fl.nx (ρ.set i (.on ((eN xss).set n.toNat (xs ++ [x]))))) else .bad
        | none => .bad) else .bad).bind k) _
  rw [List.getElem?_map]
  unfold getNN
  by_cases hn : 0 ≤ n
  · rw [if_pos hn, if_pos hn]
    cases ex : xss[n.toNat]? with
    | none => exact rf_bad
    | some xs =>
      show Rf Q (((f ρ).bind fun x => if (xs.map En.e).length < sizeMax then M.ret (Fl.nx (ρ.set i (.on ((eN xss).set n.toNat (xs.map En.e ++ [x]))))) else .bad).bind k) _
      rw [ofOp_some', M.ret_bind, M.bind_assoc, M.bind_assoc]
      refine rf_bind (x.go ρ q) fun d a r => ?_
      unfold RE at r
      subst r
      unfold putN
      rw [List.length_map]
      by_cases hz : xs.length < sizeMax
      · rw [if_pos hz, if_pos hz, M.ret_bind, M.ret_bind]
        have := c (xss.set n.toNat (xs ++ [a]))
        rw [← e] at this
        have em : (eN xss).set n.toNat (xs.map En.e ++ [En.e a]) = eN (xss.set n.toNat (xs ++ [a])) := by
          unfold eN
          rw [List.map_set, List.map_append]
          rfl
        rw [em]
        exact this.go _ (q.set i _)
      · rw [if_neg hz, if_neg hz]
        exact rf_bad
  · rw [if_neg hn, if_neg hn]
    exact rf_bad⟩
theorem xs_frzN {xss : List (List α)} (p' : Pt) {s : FS} {t : M β} (h : p[i]? = some (some (.on (eN xss)))) (e : p.set i (some (.fz (En.e xss))) = p') (x : XS Q p' s k t) : XS Q p (sFrz i s) k t := ⟨fun ρ q => by
  show Rf Q ((s (frz i ρ)).bind k) _
  unfold frz
  rw [q.at_ i _ h]
  subst e
  have em : (D.lst ((eN xss).map .lst)) = En.e xss := by
    show D.lst _ = D.lst (xss.map fun xs => D.lst (xs.map En.e))
    unfold eN
    rw [List.map_map]
    rfl
  show Rf Q ((s (ρ.set i (.fz (D.lst ((eN xss).map .lst))))).bind k) _
  rw [em]
  exact x.go _ (q.set i _)⟩
theorem xs_pop {xs : List α} (p' : α → Pt) {t : α → M β} (h : p[i]? = some (some (.ow (xs.map En.e)))) (e : ∀ a, (p.set i (some (.ow (xs.dropLast.map En.e)))).set j (some (.fz (En.e a))) = p' a) (hj : j < p.length) (hij : i ≠ j) (c : ∀ a, XC Q (p' a) k (t a)) :
    XS Q p (sPop j i) k ((popT xs).bind t) := ⟨fun ρ q => by
  unfold sPop
  rw [q.at_ i _ h]
  show Rf Q ((match (xs.map En.e).getLast? with
    | some x => if j < ρ.length ∧ i ≠ j then M.ret (Fl.nx ((ρ.set i (.ow (xs.map En.e).dropLast)).set j (.fz x))) else .bad
    | none => .bad).bind k) _
  unfold popT
  rw [List.getLast?_map]
  cases xs.getLast? with
  | none => exact rf_bad
  | some a =>
    show Rf Q ((if j < ρ.length ∧ i ≠ j then M.ret (Fl.nx ((ρ.set i (.ow (xs.map En.e).dropLast)).set j (.fz (En.e a)))) else .bad).bind k) (t a)
    rw [if_pos ⟨q.lt hj, hij⟩, M.ret_bind, List.dropLast_eq_take, List.length_map, ← List.map_take, ← List.dropLast_eq_take]
    have := c a
    rw [← e] at this
    exact this.go _ ((q.set i _).set j _)⟩
end
section
variable {δ ε : Type} {Q : δ → ε → Prop} {p : Pt} {k : Fl → M δ} {α β γ : Type} [En α] [En β] [DecidableEq α] [Kc α] [En γ] {f g : FE} {i j : Nat}
theorem xs_parDO (p' : List (P2 α β) → List γ → Pt) {t1 : M (List (P2 α β))} {t2 : M (List γ)} {t : List (P2 α β) → List γ → M ε} (x : XD p f t1) (y : XE p g t2) (e : ∀ a b, (p.set i (some (.od (mk a) (mv a)))).set j (some (.ow (b.map En.e))) = p' a b) (hi : i < p.length) (hj : j < p.length) (c : ∀ a b, XC Q (p' a b) k (t a b)) :
    XS Q p (sParDO i j f g) k (t1.bind fun a => t2.bind fun b => t a b) := ⟨fun ρ q => by
  unfold sParDO
  rw [M.bind_assoc]
  refine rf_bind (x.go ρ q) fun d a r => ?_
  unfold RDc at r
  subst r
  rw [M.bind_assoc]
  refine rf_bind (y.go ρ q) fun d b r => ?_
  unfold RE at r
  subst r
  show Rf Q ((if i < ρ.length ∧ j < ρ.length then M.ret (Fl.nx ((ρ.set i (.od (mk a) (mv a))).set j (.ow (b.map En.e)))) else .bad).bind k) _
  rw [if_pos ⟨q.lt hi, q.lt hj⟩]
  have := c a b
  rw [← e] at this
  exact this.go _ ((q.set i _).set j _)⟩
end
theorem r_truO (o : Option Bool) : Rf RE (gTru (En.e o)) (.ret (o == some true)) := by
  cases o with
  | none => exact rf_e rfl
  | some b => cases b <;> exact rf_e rfl
theorem r_truB (b : Bool) : Rf RE (gTru (En.e b)) (.ret b) := rf_e rfl
end WK
end

section
set_option Elab.async false
set_option linter.all false
set_option maxRecDepth 100000
/-! Typed: list(zip(text, text)), text.split(sign) -/
namespace WK
def zipS (a b : List Nat) : M (List (P2 Ch Ch)) := if a.length ≤ sizeMax ∧ b.length ≤ sizeMax then .ret (List.zipWith (fun x y => ⟨⟨x⟩, ⟨y⟩⟩) a b) else .bad
def splitT (a : List Nat) (c : Nat) : M (List (List Nat)) := if c < 256 ∧ a.length + 2 ≤ sizeMax then .ret (splitN c a) else .bad
theorem zipE : ∀ a b : List Nat, List.zipWith (fun x y => D.tup [.str [x], .str [y]]) a b = (List.zipWith (fun x y => (⟨⟨x⟩, ⟨y⟩⟩ : P2 Ch Ch)) a b).map En.e
  | [], _ => rfl
  | _ :: _, [] => rfl
  | x :: a, y :: b => congrArg (D.tup [.str [x], .str [y]] :: ·) (zipE a b)
theorem r_zipL (a b : List Nat) : Rf RE (gZipL (En.e a) (En.e b)) (zipS a b) := by
  show Rf RE (if a.length ≤ sizeMax ∧ b.length ≤ sizeMax then M.ret (.lst (List.zipWith (fun x y => D.tup [.str [x], .str [y]]) a b)) else .bad) _
  unfold zipS
  by_cases h : a.length ≤ sizeMax ∧ b.length ≤ sizeMax
  · rw [if_pos h, if_pos h]
    exact rf_e (congrArg (fun x => M.ret (D.lst x)) (zipE a b))
  · rw [if_neg h, if_neg h]
    exact rf_bad
theorem r_split (a : List Nat) (c : Ch) : Rf RE (gSplit (En.e a) (En.e c)) (splitT a c.c) := by
  show Rf RE (if c.c < 256 ∧ a.length + 2 ≤ sizeMax then M.ret (.lst ((splitN c.c a).map .str)) else .bad) _
  unfold splitT
  by_cases h : c.c < 256 ∧ a.length + 2 ≤ sizeMax
  · rw [if_pos h, if_pos h]
    exact rf_e rfl
  · rw [if_neg h, if_neg h]
    exact rf_bad
end WK
end

section
set_option Elab.async false
set_option linter.all false
set_option maxRecDepth 100000
/-! rules for the typed readings -/
namespace WK
theorem zM : sizeMax = 16000000 := rfl
theorem modI_ok {i j : Int} (h : 0 < j) : modI i j = .ret (i % j) := if_pos h
theorem divI_ok {i j : Int} (h : 0 < j) (h2 : j < 1073741824) : divI i j = .ret (i / j) := if_pos ⟨h, by omega⟩
theorem mulI_l {i j : Int} (h : i.natAbs < 18446744073709551616) : mulI i j = .ret (i * j) := if_pos (by rw [Bool.or_eq_true]; exact .inl (decide_eq_true h))
theorem mulI_r {i j : Int} (h : j.natAbs < 18446744073709551616) : mulI i j = .ret (i * j) := if_pos (by rw [Bool.or_eq_true]; exact .inr (decide_eq_true h))
theorem rg1_ok {j : Int} (h : j.natAbs ≤ 4000000) : rg1 j = .ret (rngN j.toNat) := if_pos h
theorem rg1_nat {j : Nat} (h : j ≤ 4000000) : rg1 (j : Int) = .ret (rngN j) := by rw [rg1_ok (by omega)]; rfl
theorem rg2_ok {i j : Int} (h : i.natAbs ≤ 4000000) (h2 : j.natAbs ≤ 4000000) : rg2 i j = .ret (rngI i (j - i).toNat) := if_pos ⟨h, h2⟩
theorem fitM_ok {α : Type} {n : Nat} {a : α} (h : n ≤ 16000000) : fitM n a = .ret a := if_pos h
theorem addS_ok {a b : List Nat} (h : a.length + b.length ≤ 16000000) : addS a b = .ret (a ++ b) := if_pos h
theorem addL_ok {α : Type} {a b : List α} (h : a.length + b.length ≤ 16000000) : addL a b = .ret (a ++ b) := if_pos h
theorem addT_ok {α : Type} {a b : Tp α} (h : a.l.length + b.l.length ≤ 16000000) : addT a b = .ret ⟨a.l ++ b.l⟩ := if_pos h
theorem lenS_ok {s : List Nat} (h : s.length ≤ 16000000) : lenS s = .ret (s.length : Int) := if_pos h
theorem slS_ok {s : List Nat} {l h : Option Int} (z : s.length ≤ 16000000) : slS s l h = .ret (cut s l h) := if_pos z
theorem revS_ok {s : List Nat} (z : s.length ≤ 16000000) : revS s = .ret s.reverse := if_pos z
theorem chs_ok {s : List Nat} (z : s.length ≤ 16000000) : chs s = .ret (s.map Ch.mk) := if_pos z
theorem push_ok {α : Type} {xs : List α} {a : α} (z : xs.length < 16000000) : push xs a = .ret (xs ++ [a]) := if_pos z
theorem lcP_ok {α β : Type} {xs : List α} {t : α → Bool} {g : α → β} (z : xs.length < 16000000) : lcP xs t g = .ret ((xs.filter t).map g) := if_pos z
theorem lcA_ok {α β : Type} {xs : List α} {g : α → β} (z : xs.length < 16000000) : lcA xs g = .ret (xs.map g) := if_pos z
theorem lcM_ok {α β : Type} {xs : List α} {tt : α → M Bool} {te : α → M β} (t : α → Bool) (g : α → β) (z : xs.length < 16000000) (h1 : ∀ x, x ∈ xs → tt x = .ret (t x)) (h2 : ∀ x, x ∈ xs → t x = true → te x = .ret (g x)) : lcM xs tt te = .ret ((xs.filter t).map g) := by
  unfold lcM
  rw [if_pos (by exact z), lcG_pure h1 h2]
theorem lcM_okA {α β : Type} {xs : List α} {te : α → M β} (g : α → β) (z : xs.length < 16000000) (h2 : ∀ x, x ∈ xs → te x = .ret (g x)) : lcM xs (fun _ => .ret true) te = .ret (xs.map g) := by
  rw [lcM_ok (fun _ => true) g z (fun _ _ => rfl) fun x hx _ => h2 x hx, List.filter_eq_self.mpr fun _ _ => rfl]
@[simp] theorem rngN_len (n : Nat) : (rngN n).length = n := by unfold rngN; simp
@[simp] theorem rngI_len (i : Int) (n : Nat) : (rngI i n).length = n := by unfold rngI; simp
theorem mem_rngN {x : Int} {n : Nat} : x ∈ rngN n ↔ 0 ≤ x ∧ x < (n : Int) := by
  unfold rngN
  rw [List.mem_map]
  constructor
  · rintro ⟨i, hi, rfl⟩
    have := List.mem_range.mp hi
    omega
  · intro h
    exact ⟨x.toNat, List.mem_range.mpr (by omega), by omega⟩
theorem rngN_filter (n : Nat) (t : Int → Bool) : (rngN n).filter t = ((List.range n).filter fun (i : Nat) => t (i : Int)).map fun (i : Nat) => (i : Int) := by
  unfold rngN
  rw [List.filter_map]
  rfl
theorem rngN_map' {β : Type} (n : Nat) (g : Int → β) : (rngN n).map g = (List.range n).map fun (i : Nat) => g (i : Int) := by
  unfold rngN
  rw [List.map_map]
  rfl
theorem rngN_lc {β : Type} (n : Nat) (t : Int → Bool) (g : Int → β) : ((rngN n).filter t).map g = ((List.range n).filter fun (i : Nat) => t (i : Int)).map fun (i : Nat) => g (i : Int) := by
  rw [rngN_filter, List.map_map]
  rfl
/-- over a range -/
theorem lcM_rng {β : Type} {n : Nat} {tt : Int → M Bool} {te : Int → M β} (t : Nat → Bool) (g : Nat → β) (z : n < 16000000) (h1 : ∀ i : Nat, i < n → tt (i : Int) = .ret (t i)) (h2 : ∀ i : Nat, i < n → t i = true → te (i : Int) = .ret (g i)) : lcM (rngN n) tt te = .ret (((List.range n).filter t).map g) := by
  rw [lcM_ok (fun x => t x.toNat) (fun x => g x.toNat) (by rw [rngN_len]; exact z) (fun x hx => ?_) (fun x hx ht => ?_), rngN_lc]
  · rfl
  · have hx := mem_rngN.mp hx
    have := h1 x.toNat (by omega)
    rwa [show ((x.toNat : Nat) : Int) = x by omega] at this
  · have hx := mem_rngN.mp hx
    have := h2 x.toNat (by omega) ht
    rwa [show ((x.toNat : Nat) : Int) = x by omega] at this
theorem lcM_rngA {β : Type} {n : Nat} {te : Int → M β} (g : Nat → β) (z : n < 16000000) (h2 : ∀ i : Nat, i < n → te (i : Int) = .ret (g i)) : lcM (rngN n) (fun _ => .ret true) te = .ret ((List.range n).map g) := by
  rw [lcM_rng (fun _ => true) g z (fun _ _ => rfl) fun i hi _ => h2 i hi, List.filter_eq_self.mpr fun _ _ => rfl]
/-! items -/
theorem at_nat {α : Type} {xs : List α} {i : Nat} : at? xs (i : Int) = xs[i]? := by
  unfold at?
  rw [if_pos (by omega), Int.toNat_natCast]
theorem at_zero {α : Type} {xs : List α} : at? xs 0 = xs[0]? := at_nat (i := 0)
theorem at_one {α : Type} {xs : List α} : at? xs 1 = xs[1]? := at_nat (i := 1)
theorem at_neg1 {α : Type} {xs : List α} : at? xs (-1) = xs.getLast? := by
  cases xs with
  | nil => rfl
  | cons x xs =>
    unfold at?
    rw [if_neg (by omega), if_pos (by simp; omega), List.getLast?_eq_getElem?]
    congr 1
    simp
    omega
theorem ixL_nat {α : Type} {xs : List α} {i : Nat} {a : α} (h : xs[i]? = some a) : ixL xs (i : Int) = .ret a := by
  unfold ixL
  rw [at_nat, h]
  rfl
theorem ixL_zero {α : Type} {x : α} {xs : List α} : ixL (x :: xs) 0 = .ret x := rfl
theorem ixL_one {α : Type} {x y : α} {xs : List α} : ixL (x :: y :: xs) 1 = .ret y := rfl
theorem ixL_last {α : Type} {xs : List α} {a : α} (h : xs.getLast? = some a) : ixL xs (-1) = .ret a := by
  unfold ixL
  rw [at_neg1, h]
  rfl
theorem ixS_nat {xs : List Nat} {i : Nat} {a : Nat} (z : xs.length ≤ 16000000) (h : xs[i]? = some a) : ixS xs (i : Int) = .ret ⟨a⟩ := by
  unfold ixS
  rw [if_pos (by exact z), at_nat, h]
  rfl
theorem neg_one : (-(1 : Int)) = -1 := rfl
@[simp] theorem ofOp_some {α : Type} (a : α) : ofOp (some a) = .ret a := rfl
@[simp] theorem ofOp_none {α : Type} : ofOp (none : Option α) = .bad := rfl
@[simp] theorem asB_ret (b : Bool) : asB (.ret (.bl b)) = .ret b := rfl
@[simp] theorem asI_ret (b : Int) : asI (.ret (.int b)) = .ret b := rfl
@[simp] theorem asS_ret (b : List Nat) : asS (.ret (.str b)) = .ret b := rfl
@[simp] theorem un2_two {α : Type} (a b : α) : un2 [a, b] = .ret ⟨a, b⟩ := rfl
theorem same_ok {α : Type} [En α] [DecidableEq α] {a b : α} (h : a = b) (hp : D.plain 5 (En.e a) = true) : same a b = .ret true := if_pos ⟨h, hp⟩
/-! loops -/
@[simp] theorem foldT_nil {α σ : Type} (tb : α → σ → M σ) (s : σ) : foldT tb [] s = .ret s := rfl
theorem foldT_cons {α σ : Type} (tb : α → σ → M σ) (x : α) (xs : List α) (s : σ) : foldT tb (x :: xs) s = (tb x s).bind fun s => foldT tb xs s := rfl
/-- a loop that always goes on -/
theorem foldT_ok {α σ : Type} {tb : α → σ → M σ} {f : α → σ → σ} (st : List α → σ → Prop) (xs : List α) (s : σ) (h0 : st [] s) (hs : ∀ ys x zs s, xs = ys ++ x :: zs → st ys s → tb x s = .ret (f x s) ∧ st (ys ++ [x]) (f x s)) : ∃ s', foldT tb xs s = .ret s' ∧ st xs s' := by
  suffices h : ∀ (zs ys : List α) (s : σ), xs = ys ++ zs → st ys s → ∃ s', foldT tb zs s = .ret s' ∧ st xs s' from h xs [] s rfl h0
  intro zs
  induction zs with
  | nil => intro ys s e h; rw [List.append_nil] at e; subst e; exact ⟨s, rfl, h⟩
  | cons z zs ih =>
    intro ys s e h
    obtain ⟨h1, h2⟩ := hs ys z zs s e h
    obtain ⟨s', h3, h4⟩ := ih (ys ++ [z]) (f z s) (by rw [e, List.append_assoc]; rfl) h2
    exact ⟨s', by rw [foldT_cons, h1]; exact h3, h4⟩
/-- the state behind the first turns -/
theorem foldT_eq {α σ : Type} {tb : α → σ → M σ} (F : List α → σ) (xs : List α) {s : σ} (h0 : s = F []) (hs : ∀ ys x zs, xs = ys ++ x :: zs → tb x (F ys) = .ret (F (ys ++ [x]))) : foldT tb xs s = .ret (F xs) := by
  subst h0
  suffices h : ∀ (zs ys : List α), xs = ys ++ zs → foldT tb zs (F ys) = .ret (F xs) from h xs [] rfl
  intro zs
  induction zs with
  | nil => intro ys e; rw [List.append_nil] at e; subst e; rfl
  | cons z zs ih =>
    intro ys e
    rw [foldT_cons, hs ys z zs e]
    exact ih (ys ++ [z]) (by rw [e, List.append_assoc]; rfl)
theorem split_range {n : Nat} {ys zs : List Int} {i : Int} (h : rngN n = ys ++ i :: zs) : i = (ys.length : Int) ∧ ys.length < n ∧ ys = rngN ys.length := by
  have hl : ys.length < n := by
    have := congrArg List.length h
    simp at this
    omega
  have h1 : (rngN n)[ys.length]? = some i := by rw [h]; simp
  have h2 : (rngN n)[ys.length]? = some (ys.length : Int) := by
    unfold rngN
    rw [List.getElem?_map, List.getElem?_range hl]
    rfl
  rw [h1] at h2
  refine ⟨Option.some.inj h2, hl, ?_⟩
  have h3 : (rngN n).take ys.length = ys := by rw [h]; simp
  rw [← h3]
  unfold rngN
  rw [← List.map_take, List.take_range]
  congr 2
  simp
/-- over a range: the state behind n turns -/
theorem foldT_rng {σ : Type} {tb : Int → σ → M σ} (F : Nat → σ) (n : Nat) {s : σ} (h0 : s = F 0) (hs : ∀ k, k < n → tb (k : Int) (F k) = .ret (F (k + 1))) : foldT tb (rngN n) s = .ret (F n) := by
  have := foldT_eq (tb := tb) (fun ys => F ys.length) (rngN n) h0 fun ys x zs e => by
    obtain ⟨h1, h2, _⟩ := split_range e
    subst h1
    rw [hs _ h2]
    simp
  rwa [rngN_len] at this
theorem foldT_rngI {σ : Type} {tb : Int → σ → M σ} (lo : Int) (F : Nat → σ) (n : Nat) {s : σ} (h0 : s = F 0) (hs : ∀ k : Nat, k < n → tb (lo + (k : Int)) (F k) = .ret (F (k + 1))) : foldT tb (rngI lo n) s = .ret (F n) := by
  have e : foldT tb (rngI lo n) s = foldT (fun (k : Int) s => tb (lo + k) s) (rngN n) s := by
    unfold rngI rngN
    generalize List.range n = l
    clear h0 hs
    induction l generalizing s with
    | nil => rfl
    | cons x l ih =>
      show (tb (lo + (x : Int)) s).bind _ = (tb (lo + (x : Int)) s).bind _
      exact congrArg _ (funext fun s => ih)
  rw [e]
  exact foldT_rng F n h0 hs
@[simp] theorem forT_nil {α σ ρ : Type} (tb : α → σ → M (Ct σ ρ)) (s : σ) : forT tb [] s = .ret (.nx s) := rfl
def Ct.go {σ ρ : Type} (f : σ → M (Ct σ ρ)) : Ct σ ρ → M (Ct σ ρ)
  | .nx s => f s
  | .rt r => .ret (.rt r)
  | .bk s => .ret (.nx s)
theorem forT_cons {α σ ρ : Type} (tb : α → σ → M (Ct σ ρ)) (x : α) (xs : List α) (s : σ) : forT tb (x :: xs) s = (tb x s).bind (Ct.go (forT tb xs)) := by
  show (tb x s).bind _ = _
  refine congrArg _ (funext fun c => ?_)
  cases c <;> rfl
/-- a loop with returns that goes to its end -/
theorem forT_eq {α σ ρ : Type} {tb : α → σ → M (Ct σ ρ)} (F : List α → σ) (xs : List α) {s : σ} (h0 : s = F []) (hs : ∀ ys x zs, xs = ys ++ x :: zs → tb x (F ys) = .ret (.nx (F (ys ++ [x])))) : forT tb xs s = .ret (.nx (F xs)) := by
  subst h0
  suffices h : ∀ (zs ys : List α), xs = ys ++ zs → forT tb zs (F ys) = .ret (.nx (F xs)) from h xs [] rfl
  intro zs
  induction zs with
  | nil => intro ys e; rw [List.append_nil] at e; subst e; rfl
  | cons z zs ih =>
    intro ys e
    rw [forT_cons, hs ys z zs e]
    exact ih (ys ++ [z]) (by rw [e, List.append_assoc]; rfl)
@[simp] theorem on_nx {σ ρ β : Type} (tn : σ → M β) (tr : ρ → M β) (s : σ) : Ct.on tn tr (.nx s) = tn s := rfl
@[simp] theorem on_rt {σ ρ β : Type} (tn : σ → M β) (tr : ρ → M β) (s : ρ) : Ct.on tn tr (.rt s) = tr s := rfl
/-! whatever is drawn -/
structure Al {β : Type} (Q : β → Prop) (m : M β) : Prop where
  go : m.All Q
section
variable {α β γ : Type} {Q : β → Prop} {f : α → M β} {m : M α} {a : α}
theorem a_ret (h : Al Q (f a)) : Al Q ((M.ret a).bind f) := h
theorem a_ret' {a a' : α} (e : a = a') (h : Al Q (f a')) : Al Q ((M.ret a).bind f) := by rw [e]; exact h
theorem a_eq (e : m = .ret a) (h : Al Q (f a)) : Al Q (m.bind f) := by rw [e]; exact h
theorem a_fin {b : β} (h : Q b) : Al Q (M.ret b) := ⟨h⟩
theorem a_tail {m : M β} {b : β} (e : m = .ret b) (h : Q b) : Al Q m := by rw [e]; exact ⟨h⟩
theorem a_assoc {g : γ → M α} {m : M γ} (h : Al Q (m.bind fun a => (g a).bind f)) : Al Q ((m.bind g).bind f) := by rw [M.bind_assoc]; exact h
theorem a_all {P : α → Prop} (e : Al P m) (h : ∀ a, P a → Al Q (f a)) : Al Q (m.bind f) := ⟨M.All.bind e.go fun a p => (h a p).go⟩
theorem a_mono {P : β → Prop} {m : M β} (e : Al P m) (h : ∀ a, P a → Q a) : Al Q m := ⟨e.go.mono h⟩
theorem roll_ok {n : Nat} (h0 : 0 < n) (h : n < 1073741824) : roll (n : Int) = .draw n fun i => .ret (i : Int) := by
  unfold roll
  rw [if_pos ⟨by omega, by omega⟩]
  rfl
theorem a_roll (n : Nat) {z : Int} {f : Int → M β} (e : z = (n : Int)) (h0 : 0 < n) (h1 : n < 1073741824) (h : ∀ i : Nat, i < n → Al Q (f (i : Int))) : Al Q ((roll z).bind f) := by
  subst e
  rw [roll_ok h0 h1]
  exact ⟨h0, fun i hi => (h i hi).go⟩
theorem roll_all (n : Nat) {z : Int} {P : Int → Prop} (e : z = (n : Int)) (h0 : 0 < n) (h1 : n < 1073741824) (h : ∀ i : Nat, i < n → P (i : Int)) : Al P (roll z) := by
  subst e
  rw [roll_ok h0 h1]
  exact ⟨h0, h⟩
theorem a_ift {c : Prop} [Decidable c] {x y : M β} (hc : c) (h : Al Q x) : Al Q (if c then x else y) := by rw [if_pos hc]; exact h
theorem a_iff {c : Prop} [Decidable c] {x y : M β} (hc : ¬ c) (h : Al Q y) : Al Q (if c then x else y) := by rw [if_neg hc]; exact h
/-- what is told is what is due -/
theorem a_same [En α] [DecidableEq α] {x y : α} {f : Bool → M β} (e : x = y) (hp : D.plain 5 (En.e x) = true) (h : Al Q (f true)) : Al Q ((same x y).bind f) := by
  rw [same_ok e hp]
  exact h
theorem lcG_all {P : β → Prop} {te : α → M β} : ∀ {xs : List α}, (∀ x, x ∈ xs → Al P (te x)) → Al (fun ys => ys.length = xs.length ∧ ∀ y, y ∈ ys → P y) (lcG (fun _ => .ret true) te xs)
  | [], _ => ⟨rfl, fun y h => by cases h⟩
  | x :: xs, h => by
    unfold lcG
    rw [M.ret_bind, if_pos rfl, M.bind_assoc]
    refine a_all (h x List.mem_cons_self) fun y hy => ?_
    rw [M.ret_bind]
    refine a_all (lcG_all fun z hz => h z (List.mem_cons_of_mem _ hz)) fun ys ⟨hl, hp⟩ => ?_
    refine ⟨by simp [hl], fun w hw => ?_⟩
    rcases List.mem_cons.mp hw with e | e
    · rw [e]; exact hy
    · exact hp w e
theorem lcM_all' {P : β → Prop} {te : α → M β} {xs : List α} (hz : xs.length < 16000000) (h : ∀ x, x ∈ xs → Al P (te x)) : Al (fun ys => ys.length = xs.length ∧ ∀ y, y ∈ ys → P y) (lcM xs (fun _ => .ret true) te) := by
  unfold lcM
  rw [if_pos (by exact hz)]
  exact lcG_all h
/-- a loop in which a check returns where it fails, else goes on -/
theorem forT_all {α σ ρ : Type} {tb : α → σ → M (Ct σ ρ)} (st : σ → Prop) : ∀ (xs : List α) (s : σ), st s → (∀ x s, x ∈ xs → st s → Al (fun c => ∃ s', c = .nx s' ∧ st s') (tb x s)) → Al (fun c => ∃ s', c = .nx s' ∧ st s') (forT tb xs s)
  | [], s, h, _ => ⟨s, rfl, h⟩
  | x :: xs, s, h, hs => by
    rw [forT_cons]
    refine a_all (hs x s List.mem_cons_self h) fun c ⟨s', e, h'⟩ => ?_
    subst e
    exact forT_all st xs s' h' fun y s hy => hs y s (List.mem_cons_of_mem _ hy)
theorem foldT_all {α σ : Type} {tb : α → σ → M σ} (st : List α → σ → Prop) (xs : List α) (s : σ) (h0 : st [] s) (hs : ∀ ys x zs s, xs = ys ++ x :: zs → st ys s → Al (st (ys ++ [x])) (tb x s)) : Al (st xs) (foldT tb xs s) := by
  suffices h : ∀ (zs ys : List α) (s : σ), xs = ys ++ zs → st ys s → Al (st xs) (foldT tb zs s) from h xs [] s rfl h0
  intro zs
  induction zs with
  | nil => intro ys s e h; rw [List.append_nil] at e; subst e; exact ⟨h⟩
  | cons z zs ih =>
    intro ys s e h
    rw [foldT_cons]
    exact a_all (hs ys z zs s e h) fun s' h' => ih (ys ++ [z]) s' (by rw [e, List.append_assoc]; rfl) h'
end
end WK
namespace WK
/-! plain values -/
class EnPl (α : Type) [En α] : Prop where
  l : ∀ (a : α) (n : Nat), D.plain n (En.e a) = true
instance : EnPl Int := ⟨fun a n => by cases n <;> rfl⟩
instance : EnPl Bool := ⟨fun a n => by cases n <;> rfl⟩
instance : EnPl Unit := ⟨fun a n => by cases n <;> rfl⟩
instance : EnPl (List Nat) := ⟨fun a n => by cases n <;> rfl⟩
instance : EnPl Ch := ⟨fun a n => by cases n <;> rfl⟩
instance {α : Type} [En α] [EnPl α] : EnPl (Option α) := ⟨fun a n => by
  cases a with
  | none => cases n <;> rfl
  | some a => exact EnPl.l a n⟩
theorem plain_tup {n : Nat} {xs : List D} (hz : xs.length < 1000) (h : ∀ x, x ∈ xs → D.plain n x = true) : D.plain (n + 1) (.tup xs) = true := by
  show (decide (xs.length < 1000) && xs.all (D.plain n)) = true
  rw [Bool.and_eq_true, List.all_eq_true]
  exact ⟨decide_eq_true hz, h⟩
theorem plain_tp {α : Type} [En α] {n : Nat} {x : Tp α} (hz : x.l.length < 1000) (h : ∀ a, a ∈ x.l → D.plain n (En.e a) = true) : D.plain (n + 1) (En.e x) = true := by
  refine plain_tup (by rw [List.length_map]; exact hz) fun d hd => ?_
  obtain ⟨a, ha, rfl⟩ := List.mem_map.mp hd
  exact h a ha
theorem plain_tpE {α : Type} [En α] [EnPl α] {n : Nat} {x : Tp α} (hz : x.l.length < 1000) : D.plain (n + 1) (En.e x) = true := plain_tp hz fun a _ => EnPl.l a n
theorem plain_p1 {α : Type} [En α] {n : Nat} {x : P1 α} (h1 : D.plain n (En.e x.a) = true) : D.plain (n + 1) (En.e x) = true := by
  refine plain_tup (by simp) fun d hd => ?_
  simp at hd
  rcases hd with rfl
  assumption
theorem plain_p2 {α β : Type} [En α] [En β] {n : Nat} {x : P2 α β} (h1 : D.plain n (En.e x.a) = true) (h2 : D.plain n (En.e x.b) = true) : D.plain (n + 1) (En.e x) = true := by
  refine plain_tup (by simp) fun d hd => ?_
  simp at hd
  rcases hd with rfl | rfl <;> assumption
theorem plain_p3 {α β γ : Type} [En α] [En β] [En γ] {n : Nat} {x : P3 α β γ} (h1 : D.plain n (En.e x.a) = true) (h2 : D.plain n (En.e x.b) = true) (h3 : D.plain n (En.e x.c) = true) : D.plain (n + 1) (En.e x) = true := by
  refine plain_tup (by simp) fun d hd => ?_
  simp at hd
  rcases hd with rfl | rfl | rfl <;> assumption
theorem plain_p4 {α β γ δ : Type} [En α] [En β] [En γ] [En δ] {n : Nat} {x : P4 α β γ δ} (h1 : D.plain n (En.e x.a) = true) (h2 : D.plain n (En.e x.b) = true) (h3 : D.plain n (En.e x.c) = true) (h4 : D.plain n (En.e x.d) = true) : D.plain (n + 1) (En.e x) = true := by
  refine plain_tup (by simp) fun d hd => ?_
  simp at hd
  rcases hd with rfl | rfl | rfl | rfl <;> assumption
end WK
end

section
set_option Elab.async false
set_option linter.all false
set_option maxRecDepth 100000
namespace K93
open WK
def B_law_some : FS := sRet (fOp gIx (fVar 1) (fArgs gRoll (fCons (fVar 0) (fCons (fUn gLen (fVar 1)) (fNil)))))
def S_law_some : List D → M D := run 2 2 B_law_some
def b_law_signs_0 : FE := fArgs S_law_some (fCons (fVar 0) (fCons (fC (.str [105, 111])) (fNil)))
def B_law_signs : FS := sRet (fUn gJoin (fLc (iRange1 (fVar 1)) (gtName 2) (fC (.bl true)) (b_law_signs_0) [2]))
def S_law_signs : List D → M D := run 3 2 B_law_signs
def p_law_two_0 : FS := sAsg (fArgs S_law_signs (fCons (fVar 0) (fCons (fOp gAdd (fC (.int (1))) (fArgs gRoll (fCons (fVar 0) (fCons (fC (.int (12))) (fNil))))) (fNil)))) (gtName 1)
def p_law_two_1 : FS := sOwnD 2 (fArgs gDispB (fCons (fC (.str [111])) (fCons (fC (.str [105])) (fCons (fC (.str [105])) (fCons (fC (.str [111])) (fNil))))))
def p_law_two_2 : FS := sAsg (fArgs gRoll (fCons (fVar 0) (fCons (fUn gLen (fVar 1)) (fNil)))) (gtName 3)
def p_law_two_3 : FS := sAsg (fArgs gLst (fCons (fArgs S_law_signs (fCons (fVar 0) (fCons (fOp gAdd (fC (.int (1))) (fArgs gRoll (fCons (fVar 0) (fCons (fC (.int (12))) (fNil))))) (fNil)))) (fCons (fOp gAdd (fSl (fVar 1) (fPart (fVar 3)) (fNoPart)) (fSl (fVar 1) (fNoPart) (fPart (fVar 3)))) (fCons (fUn gJoin (fLc (iSeq (fVar 1)) (gtName 5) (fC (.bl true)) (fOp gDGet (fBor 2) (fVar 5)) [5])) (fCons (fOp gMul (fSl (fVar 1) (fNoPart) (fPart (fC (.int (6))))) (fC (.int (2)))) (fNil)))))) (gtName 4)
def p_law_two_4 : FS := sRet (fArgs gTup (fCons (fVar 1) (fCons (fArgs S_law_some (fCons (fVar 0) (fCons (fVar 4) (fNil)))) (fNil))))
def B_law_two : FS := sSeq (p_law_two_0) (sSeq (p_law_two_1) (sSeq (p_law_two_2) (sSeq (p_law_two_3) (p_law_two_4))))
def S_law_two : List D → M D := run 6 1 B_law_two
def b_law_period_0 : FE := fOr (fOp gNe (fOp gMod (fVar 2) (fUn gLen (fVar 0))) (fC (.int (0)))) (fOp gNe (fOp gMod (fVar 2) (fUn gLen (fVar 1))) (fC (.int (0))))
def b_law_period_1 : FS := sAsg (fOp gAdd (fVar 2) (fC (.int (1)))) (gtName 2)
def B_law_period : FS := sSeq (sAsg (fC (.int (1))) (gtName 2)) (sSeq (sWhile 400 b_law_period_0 b_law_period_1) (sRet (fVar 2)))
def S_law_period : List D → M D := run 3 2 B_law_period
def p_law_gone_0 : FS := sAsg (fArgs gTup (fCons (fC (.str [])) (fCons (fC (.int (0))) (fNil)))) (gtTup [gtName 2, gtName 3])
def b_law_gone_0 : FS := sPar 2 3 (fOp gAdd (fVar 2) (fOp gIx (fVar 0) (fVar 3))) (fIf (fOp gLtX (fOp gAdd (fVar 3) (fC (.int (1)))) (fUn gLen (fVar 0))) (fOp gAdd (fVar 3) (fC (.int (1)))) (fC (.int (0))))
def B_law_gone : FS := sSeq (p_law_gone_0) (sSeq (sFor (iRange1 (fVar 1)) (gtName 4) b_law_gone_0) (sRet (fVar 2)))
def S_law_gone : List D → M D := run 5 2 B_law_gone
def B_fits_signs : FS := sRet (fAnd (fUn (gIsT .str) (fVar 0)) (fAnd (fChain gLeX gLeX (fVar 1) (fUn gLen (fVar 0)) (fVar 2)) (fUn gAll (fLc (iSeq (fVar 0)) (gtName 3) (fC (.bl true)) (fOp gIn (fVar 3) (fC (.str [105, 111]))) [3]))))
def S_fits_signs : List D → M D := run 4 3 B_fits_signs
def B_fits_word : FS := sRet (fArgs S_fits_signs (fCons (fVar 0) (fCons (fC (.int (1))) (fCons (fC (.int (12))) (fNil)))))
def S_fits_word : List D → M D := run 1 1 B_fits_word
def B_need_word : FS := sIf (fUn gNot (fArgs S_fits_word (fCons (fVar 0) (fNil)))) (sNever) (sNil)
def S_need_word : List D → M D := run 1 1 B_need_word
def B_need_words : FS := sSeq (sExpr (fArgs S_need_word (fCons (fVar 0) (fNil)))) (sExpr (fArgs S_need_word (fCons (fVar 1) (fNil))))
def S_need_words : List D → M D := run 2 2 B_need_words
def B_is_whole : FS := sRet (fAnd (fUn (gIsT .int) (fVar 0)) (fUn gNot (fUn (gIsT .bool) (fVar 0))))
def S_is_whole : List D → M D := run 1 1 B_is_whole
def B_fits_whole : FS := sRet (fAnd (fArgs S_is_whole (fCons (fVar 0) (fNil))) (fChain gLeX gLeX (fVar 1) (fVar 0) (fVar 2)))
def S_fits_whole : List D → M D := run 3 3 B_fits_whole
def B_need_stakes : FS := sIf (fUn gNot (fArgs S_fits_whole (fCons (fVar 0) (fCons (fC (.int (3))) (fCons (fC (.int (24))) (fNil)))))) (sNever) (sNil)
def S_need_stakes : List D → M D := run 1 1 B_need_stakes
def b_divisor_0 : FE := fOp gNe (fVar 1) (fC (.int (0)))
def b_divisor_1 : FS := sPar 0 1 (fVar 1) (fOp gMod (fVar 0) (fVar 1))
def B_divisor : FS := sSeq (sWhile 400 b_divisor_0 b_divisor_1) (sRet (fVar 0))
def S_divisor : List D → M D := run 2 2 B_divisor
def B_together : FS := sRet (fOp gMul (fOp gDiv (fVar 0) (fArgs S_divisor (fCons (fVar 0) (fCons (fVar 1) (fNil))))) (fVar 1))
def S_together : List D → M D := run 2 2 B_together
def b_period_in_0 : FE := fOp gDiv (fUn gLen (fVar 5)) (fArgs S_divisor (fCons (fVar 2) (fCons (fUn gLen (fVar 5)) (fNil))))
def B_period_in : FS := sSeq (sAsg (fLc (iSeq (fArgs gTup (fCons (fVar 0) (fCons (fVar 1) (fNil))))) (gtName 5) (fC (.bl true)) (b_period_in_0) [5]) (gtTup [gtName 3, gtName 4])) (sRet (fArgs S_together (fCons (fVar 3) (fCons (fVar 4) (fNil)))))
def S_period_in : List D → M D := run 6 3 B_period_in
def p_period_of_0 : FS := sExpr (fArgs S_need_words (fCons (fVar 0) (fCons (fVar 1) (fNil))))
def p_period_of_1 : FS := sExpr (fArgs S_need_stakes (fCons (fVar 2) (fNil)))
def p_period_of_2 : FS := sRet (fArgs S_period_in (fCons (fVar 0) (fCons (fVar 1) (fCons (fVar 2) (fNil)))))
def B_period_of : FS := sSeq (p_period_of_0) (sSeq (p_period_of_1) (p_period_of_2))
def S_period_of : List D → M D := run 3 3 B_period_of
def B_need_rounds : FS := sIf (fUn gNot (fArgs S_fits_whole (fCons (fVar 0) (fCons (fC (.int (1))) (fCons (fC (.int (40))) (fNil)))))) (sNever) (sNil)
def S_need_rounds : List D → M D := run 1 1 B_need_rounds
def b_wound_in_0 : FE := fOp gIx (fVar 0) (fOp gMod (fOp gAdd (fVar 2) (fVar 3)) (fUn gLen (fVar 0)))
def B_wound_in : FS := sRet (fUn gJoin (fLc (iRange1 (fVar 1)) (gtName 3) (fC (.bl true)) (b_wound_in_0) [3]))
def S_wound_in : List D → M D := run 4 3 B_wound_in
def B_round_in : FS := sRet (fArgs S_wound_in (fCons (fVar 0) (fCons (fVar 1) (fCons (fOp gMod (fOp gMul (fVar 2) (fVar 1)) (fUn gLen (fVar 0))) (fNil)))))
def S_round_in : List D → M D := run 3 3 B_round_in
def p_rounds_of_0 : FS := sExpr (fArgs S_need_words (fCons (fVar 0) (fCons (fVar 1) (fNil))))
def p_rounds_of_1 : FS := sExpr (fArgs S_need_stakes (fCons (fVar 2) (fNil)))
def p_rounds_of_2 : FS := sExpr (fArgs S_need_rounds (fCons (fVar 3) (fNil)))
def b_rounds_of_0 : FE := fArgs gTup (fCons (fArgs S_round_in (fCons (fVar 0) (fCons (fVar 2) (fCons (fVar 4) (fNil))))) (fCons (fArgs S_round_in (fCons (fVar 1) (fCons (fVar 2) (fCons (fVar 4) (fNil))))) (fNil)))
def p_rounds_of_3 : FS := sRet (fUn gTuple (fLc (iRange1 (fVar 3)) (gtName 4) (fC (.bl true)) (b_rounds_of_0) [4]))
def B_rounds_of : FS := sSeq (p_rounds_of_0) (sSeq (p_rounds_of_1) (sSeq (p_rounds_of_2) (p_rounds_of_3)))
def S_rounds_of : List D → M D := run 5 4 B_rounds_of
def B_need_ticks : FS := sIf (fUn gNot (fArgs S_fits_whole (fCons (fVar 0) (fCons (fC (.int (0))) (fCons (fVar 1) (fNil)))))) (sNever) (sNil)
def S_need_ticks : List D → M D := run 2 2 B_need_ticks
def p_alike_stakes_0 : FS := sExpr (fArgs S_need_words (fCons (fVar 0) (fCons (fVar 1) (fNil))))
def p_alike_stakes_1 : FS := sExpr (fArgs S_need_stakes (fCons (fVar 2) (fNil)))
def p_alike_stakes_2 : FS := sExpr (fArgs S_need_ticks (fCons (fVar 3) (fCons (fC (.int (1000000000))) (fNil))))
def p_alike_stakes_3 : FS := sAsg (fOp gZipL (fArgs S_round_in (fCons (fVar 0) (fCons (fVar 2) (fCons (fVar 3) (fNil))))) (fArgs S_round_in (fCons (fVar 1) (fCons (fVar 2) (fCons (fVar 3) (fNil)))))) (gtName 4)
def b_alike_stakes_0 : FE := fOp gEq (fOp gIx (fVar 6) (fC (.int (0)))) (fOp gIx (fVar 6) (fC (.int (1))))
def p_alike_stakes_4 : FS := sRet (fUn gTuple (fLc (iEnumF (fVar 4)) (gtTup [gtName 5, gtName 6]) (b_alike_stakes_0) (fVar 5) [5, 6]))
def B_alike_stakes : FS := sSeq (p_alike_stakes_0) (sSeq (p_alike_stakes_1) (sSeq (p_alike_stakes_2) (sSeq (p_alike_stakes_3) (p_alike_stakes_4))))
def S_alike_stakes : List D → M D := run 7 4 B_alike_stakes
def B_signs_in : FS := sRet (fSl (fOp gMul (fVar 0) (fOp gAdd (fOp gDiv (fVar 1) (fUn gLen (fVar 0))) (fC (.int (1))))) (fNoPart) (fPart (fVar 1)))
def S_signs_in : List D → M D := run 2 2 B_signs_in
def p_alike_in_0 : FS := sAsg (fArgs S_together (fCons (fUn gLen (fVar 0)) (fCons (fUn gLen (fVar 1)) (fNil)))) (gtName 2)
def p_alike_in_1 : FS := sAsg (fOp gZipL (fArgs S_signs_in (fCons (fVar 0) (fCons (fVar 2) (fNil)))) (fArgs S_signs_in (fCons (fVar 1) (fCons (fVar 2) (fNil))))) (gtName 3)
def b_alike_in_0 : FE := fOp gEq (fOp gIx (fVar 5) (fC (.int (0)))) (fOp gIx (fVar 5) (fC (.int (1))))
def p_alike_in_2 : FS := sRet (fLc (iEnumF (fVar 3)) (gtTup [gtName 4, gtName 5]) (b_alike_in_0) (fVar 4) [4, 5])
def B_alike_in : FS := sSeq (p_alike_in_0) (sSeq (p_alike_in_1) (p_alike_in_2))
def S_alike_in : List D → M D := run 6 2 B_alike_in
def p_alike_many_0 : FS := sExpr (fArgs S_need_words (fCons (fVar 0) (fCons (fVar 1) (fNil))))
def p_alike_many_1 : FS := sExpr (fArgs S_need_stakes (fCons (fVar 2) (fNil)))
def p_alike_many_2 : FS := sExpr (fArgs S_need_ticks (fCons (fVar 3) (fCons (fC (.int (1000000000))) (fNil))))
def p_alike_many_3 : FS := sPar 4 5 (fArgs S_together (fCons (fUn gLen (fVar 0)) (fCons (fUn gLen (fVar 1)) (fNil)))) (fArgs S_alike_in (fCons (fVar 0) (fCons (fVar 1) (fNil))))
def p_alike_many_4 : FS := sAsg (fArgs gTup (fCons (fOp gDiv (fOp gMul (fVar 3) (fVar 2)) (fVar 4)) (fCons (fOp gMod (fOp gMul (fVar 3) (fVar 2)) (fVar 4)) (fNil)))) (gtTup [gtName 6, gtName 7])
def p_alike_many_5 : FS := sRet (fOp gAdd (fOp gMul (fVar 6) (fUn gLen (fVar 5))) (fUn gLen (fLc (iSeq (fVar 5)) (gtName 8) (fOp gLtX (fVar 8) (fVar 7)) (fVar 8) [8])))
def B_alike_many : FS := sSeq (p_alike_many_0) (sSeq (p_alike_many_1) (sSeq (p_alike_many_2) (sSeq (p_alike_many_3) (sSeq (p_alike_many_4) (p_alike_many_5)))))
def S_alike_many : List D → M D := run 9 4 B_alike_many
def p_firm_behind_0 : FS := sExpr (fArgs S_need_words (fCons (fVar 0) (fCons (fVar 1) (fNil))))
def p_firm_behind_1 : FS := sExpr (fArgs S_need_stakes (fCons (fVar 2) (fNil)))
def p_firm_behind_2 : FS := sExpr (fArgs S_need_rounds (fCons (fVar 3) (fNil)))
def b_firm_behind_0 : FL := iSeq (fArgs gTup (fCons (fVar 0) (fCons (fVar 1) (fNil))))
def b_firm_behind_1 : FE := fArgs S_round_in (fCons (fVar 6) (fCons (fVar 2) (fCons (fVar 5) (fNil))))
def p_firm_behind_3 : FS := sAsg (fLc2 (iRange1 (fVar 3)) (gtName 5) (fC (.bl true)) (b_firm_behind_0) (gtName 6) (fC (.bl true)) (b_firm_behind_1) [5, 6] [6]) (gtName 4)
def b_firm_behind_2 : FE := fOp gEq (fUn gLenSet (fLc (iSeq (fVar 4)) (gtName 8) (fC (.bl true)) (fOp gIx (fVar 8) (fVar 7)) [8])) (fC (.int (2)))
def p_firm_behind_4 : FS := sRet (fUn gTuple (fLc (iRange1 (fVar 2)) (gtName 7) (b_firm_behind_2) (fVar 7) [7]))
def B_firm_behind : FS := sSeq (p_firm_behind_0) (sSeq (p_firm_behind_1) (sSeq (p_firm_behind_2) (sSeq (p_firm_behind_3) (p_firm_behind_4))))
def S_firm_behind : List D → M D := run 9 4 B_firm_behind
def p_rounds_to_firm_0 : FS := sExpr (fArgs S_need_words (fCons (fVar 0) (fCons (fVar 1) (fNil))))
def p_rounds_to_firm_1 : FS := sExpr (fArgs S_need_stakes (fCons (fVar 2) (fNil)))
def p_rounds_to_firm_2 : FS := sAsg (fArgs gTup (fCons (fArgs S_period_in (fCons (fVar 0) (fCons (fVar 1) (fCons (fVar 2) (fNil))))) (fCons (fArgs gLst (fNil)) (fNil)))) (gtTup [gtName 3, gtName 4])
def b_rounds_to_firm_0 : FE := fOp gEq (fUn gLenSet (fLc (iSeq (fVar 4)) (gtName 7) (fC (.bl true)) (fOp gIx (fVar 7) (fVar 6)) [7])) (fC (.int (2)))
def b_rounds_to_firm_1 : FS := sSeq (sAsg (fOp gAdd (fVar 4) (fArgs gLst (fCons (fArgs S_round_in (fCons (fVar 0) (fCons (fVar 2) (fCons (fVar 5) (fNil))))) (fCons (fArgs S_round_in (fCons (fVar 1) (fCons (fVar 2) (fCons (fVar 5) (fNil))))) (fNil))))) (gtName 4)) (sIf (fUn gAll (fLc (iRange1 (fVar 2)) (gtName 6) (fC (.bl true)) (b_rounds_to_firm_0) [6])) (sRet (fOp gAdd (fVar 5) (fC (.int (1))))) (sNil))
def p_rounds_to_firm_3 : FS := sFor (iRange1 (fVar 3)) (gtName 5) b_rounds_to_firm_1
def B_rounds_to_firm : FS := sSeq (p_rounds_to_firm_0) (sSeq (p_rounds_to_firm_1) (sSeq (p_rounds_to_firm_2) (sSeq (p_rounds_to_firm_3) (sRet (fC .non)))))
def S_rounds_to_firm : List D → M D := run 8 3 B_rounds_to_firm
def p_law_right_0 : FS := sAsg (fArgs S_law_two (fCons (fVar 0) (fNil))) (gtTup [gtName 1, gtName 2])
def p_law_right_1 : FS := sAsg (fArgs gTup (fCons (fOp gAdd (fC (.int (3))) (fArgs gRoll (fCons (fVar 0) (fCons (fC (.int (10))) (fNil))))) (fCons (fOp gAdd (fC (.int (1))) (fArgs gRoll (fCons (fVar 0) (fCons (fC (.int (8))) (fNil))))) (fNil)))) (gtTup [gtName 3, gtName 4])
def p_law_right_2 : FS := sPar 5 6 (fArgs S_law_period (fCons (fVar 1) (fCons (fVar 2) (fNil)))) (fC (.int (1)))
def b_law_right_0 : FE := fOr (fOp gNe (fOp gMod (fOp gMul (fVar 6) (fVar 3)) (fUn gLen (fVar 1))) (fC (.int (0)))) (fOp gNe (fOp gMod (fOp gMul (fVar 6) (fVar 3)) (fUn gLen (fVar 2))) (fC (.int (0))))
def b_law_right_1 : FS := sAsg (fOp gAdd (fVar 6) (fC (.int (1)))) (gtName 6)
def p_law_right_3 : FS := sAsg (fOp gMul (fOp gMaxX2 (fVar 4) (fVar 6)) (fVar 3)) (gtName 7)
def p_law_right_4 : FS := sAsg (fArgs gTup (fCons (fArgs S_law_gone (fCons (fVar 1) (fCons (fVar 7) (fNil)))) (fCons (fArgs S_law_gone (fCons (fVar 2) (fCons (fVar 7) (fNil)))) (fNil)))) (gtTup [gtName 8, gtName 9])
def b_law_right_2 : FE := fArgs gTup (fCons (fSl (fVar 8) (fPart (fOp gMul (fVar 10) (fVar 3))) (fPart (fOp gMul (fOp gAdd (fVar 10) (fC (.int (1)))) (fVar 3)))) (fCons (fSl (fVar 9) (fPart (fOp gMul (fVar 10) (fVar 3))) (fPart (fOp gMul (fOp gAdd (fVar 10) (fC (.int (1)))) (fVar 3)))) (fNil)))
def p_law_right_5 : FS := sAsg (fLc (iRange1 (fOp gMaxX2 (fVar 4) (fVar 6))) (gtName 10) (fC (.bl true)) (b_law_right_2) [10]) (gtName 11)
def p_law_right_6 : FS := sIf (fUn gNot (fArgs (sameF 6) (fCons (fArgs gTup (fCons (fArgs S_period_of (fCons (fVar 1) (fCons (fVar 2) (fCons (fVar 3) (fNil))))) (fCons (fArgs S_rounds_of (fCons (fVar 1) (fCons (fVar 2) (fCons (fVar 3) (fCons (fVar 4) (fNil)))))) (fNil)))) (fCons (fArgs gTup (fCons (fVar 6) (fCons (fUn gTuple (fSl (fVar 11) (fNoPart) (fPart (fVar 4)))) (fNil)))) (fNil))))) (sRet (fC (.bl false))) (sNil)
def p_law_right_7 : FS := sAsg (fArgs gRoll (fCons (fVar 0) (fCons (fUn gLen (fVar 11)) (fNil)))) (gtName 10)
def b_law_right_3 : FE := fOp gEq (fOp gIx (fOp gIx (fOp gIx (fVar 11) (fVar 10)) (fC (.int (0)))) (fVar 25)) (fOp gIx (fOp gIx (fOp gIx (fVar 11) (fVar 10)) (fC (.int (1)))) (fVar 25))
def p_law_right_8 : FS := sAsg (fUn gTuple (fLc (iRange1 (fVar 3)) (gtName 25) (b_law_right_3) (fVar 25) [25])) (gtName 12)
def p_law_right_9 : FS := sAsg (fOp gAdd (fOp gMod (fVar 10) (fVar 6)) (fOp gMul (fVar 6) (fArgs gRoll (fCons (fVar 0) (fCons (fC (.int (1000000))) (fNil)))))) (gtName 13)
def p_law_right_10 : FS := sAsg (fArgs gTup (fCons (fArgs S_alike_stakes (fCons (fVar 1) (fCons (fVar 2) (fCons (fVar 3) (fCons (fVar 10) (fNil)))))) (fCons (fArgs S_alike_stakes (fCons (fVar 1) (fCons (fVar 2) (fCons (fVar 3) (fCons (fVar 13) (fNil)))))) (fNil)))) (gtName 14)
def p_law_right_11 : FS := sIf (fUn gNot (fArgs (sameF 6) (fCons (fVar 14) (fCons (fArgs gTup (fCons (fVar 12) (fCons (fVar 12) (fNil)))) (fNil))))) (sRet (fC (.bl false))) (sNil)
def p_law_right_12 : FS := sAsg (fUn gLen (fLc (iZipF (fSl (fVar 8) (fNoPart) (fPart (fOp gMul (fVar 4) (fVar 3)))) (fSl (fVar 9) (fNoPart) (fPart (fOp gMul (fVar 4) (fVar 3))))) (gtTup [gtName 15, gtName 16]) (fOp gEq (fVar 15) (fVar 16)) (fC (.int (1))) [15, 16])) (gtName 17)
def p_law_right_13 : FS := sAsg (fUn gLen (fLc (iZipF (fArgs S_law_gone (fCons (fVar 1) (fCons (fVar 5) (fNil)))) (fArgs S_law_gone (fCons (fVar 2) (fCons (fVar 5) (fNil))))) (gtTup [gtName 15, gtName 16]) (fOp gEq (fVar 15) (fVar 16)) (fC (.int (1))) [15, 16])) (gtName 18)
def p_law_right_14 : FS := sAsg (fArgs gRoll (fCons (fVar 0) (fCons (fC (.int (1000000))) (fNil)))) (gtName 19)
def p_law_right_15 : FS := sAsg (fArgs gTup (fCons (fArgs S_alike_many (fCons (fVar 1) (fCons (fVar 2) (fCons (fVar 3) (fCons (fVar 4) (fNil)))))) (fCons (fArgs S_alike_many (fCons (fVar 1) (fCons (fVar 2) (fCons (fVar 3) (fCons (fOp gMul (fVar 6) (fVar 19)) (fNil)))))) (fNil)))) (gtName 14)
def p_law_right_16 : FS := sIf (fUn gNot (fArgs (sameF 6) (fCons (fVar 14) (fCons (fArgs gTup (fCons (fVar 17) (fCons (fOp gMul (fOp gDiv (fOp gMul (fOp gMul (fVar 6) (fVar 19)) (fVar 3)) (fVar 5)) (fVar 18)) (fNil)))) (fNil))))) (sRet (fC (.bl false))) (sNil)
def p_law_right_17 : FS := sAsg (fArgs gTup (fCons (fOp gRepL (fArgs gLst (fCons (fC (.str [])) (fNil))) (fVar 3)) (fCons (fC .non) (fCons (fArgs gTup (fNil)) (fNil))))) (gtTup [gtName 20, gtName 21, gtName 22])
def b_law_right_4 : FE := fOp gAdd (fOp gAdd (fOp gIx (fVar 20) (fVar 25)) (fOp gIx (fVar 15) (fVar 25))) (fOp gIx (fVar 16) (fVar 25))
def b_law_right_5 : FE := fAnd (fOp gIn (fC (.str [105])) (fOp gIx (fVar 20) (fVar 25))) (fOp gIn (fC (.str [111])) (fOp gIx (fVar 20) (fVar 25)))
def b_law_right_6 : FS := sSeq (sAsg (fLc (iRange1 (fVar 3)) (gtName 25) (fC (.bl true)) (b_law_right_4) [25]) (gtName 20)) (sSeq (sAsg (fUn gTuple (fLc (iRange1 (fVar 3)) (gtName 25) (b_law_right_5) (fVar 25) [25])) (gtName 24)) (sSeq (sAsg (fIf (fAnd (fOp gIs (fVar 21) (fC .non)) (fAnd (fOp gEq (fUn gLen (fVar 24)) (fVar 3)) (fOp gLtX (fVar 23) (fVar 6)))) (fOp gAdd (fVar 23) (fC (.int (1)))) (fVar 21)) (gtName 21)) (sAsg (fIf (fOp gEq (fVar 23) (fOp gSub (fVar 4) (fC (.int (1))))) (fVar 24) (fVar 22)) (gtName 22))))
def p_law_right_18 : FS := sFor (iEnumF (fVar 11)) (gtTup [gtName 23, gtTup [gtName 15, gtName 16]]) b_law_right_6
def p_law_right_19 : FS := sRet (fArgs (sameF 6) (fCons (fArgs gTup (fCons (fArgs S_firm_behind (fCons (fVar 1) (fCons (fVar 2) (fCons (fVar 3) (fCons (fVar 4) (fNil)))))) (fCons (fArgs S_rounds_to_firm (fCons (fVar 1) (fCons (fVar 2) (fCons (fVar 3) (fNil))))) (fNil)))) (fCons (fArgs gTup (fCons (fVar 22) (fCons (fVar 21) (fNil)))) (fNil))))
def B_law_right : FS := sSeq (p_law_right_0) (sSeq (p_law_right_1) (sSeq (p_law_right_2) (sSeq (sWhile 400 b_law_right_0 b_law_right_1) (sSeq (p_law_right_3) (sSeq (p_law_right_4) (sSeq (p_law_right_5) (sSeq (p_law_right_6) (sSeq (p_law_right_7) (sSeq (p_law_right_8) (sSeq (p_law_right_9) (sSeq (p_law_right_10) (sSeq (p_law_right_11) (sSeq (p_law_right_12) (sSeq (p_law_right_13) (sSeq (p_law_right_14) (sSeq (p_law_right_15) (sSeq (p_law_right_16) (sSeq (p_law_right_17) (sSeq (p_law_right_18) (p_law_right_19))))))))))))))))))))
def S_law_right : List D → M D := run 26 1 B_law_right
def b_law_0 : FS := sIf (fUn gNot (fArgs S_law_right (fCons (fVar 1) (fNil)))) (sRet (fC (.bl false))) (sNil)
def p_law_0 : FS := sPar 3 4 (fOp gAdd (fC (.int (3))) (fArgs gRoll (fCons (fVar 1) (fCons (fC (.int (22))) (fNil))))) (fArgs S_law_signs (fCons (fVar 1) (fCons (fOp gAdd (fC (.int (1))) (fArgs gRoll (fCons (fVar 1) (fCons (fC (.int (12))) (fNil))))) (fNil))))
def b_law_1 : FE := fIf (fOp gEq (fVar 7) (fC (.str [105]))) (fC (.str [111])) (fC (.str [105]))
def p_law_1 : FS := sAsg (fUn gJoin (fLc (iSeq (fVar 4)) (gtName 7) (fC (.bl true)) (b_law_1) [7])) (gtName 5)
def p_law_2 : FS := sAsg (fArgs gTup (fCons (fArgs S_rounds_to_firm (fCons (fVar 4) (fCons (fVar 5) (fCons (fVar 3) (fNil))))) (fCons (fArgs S_alike_many (fCons (fVar 4) (fCons (fVar 5) (fCons (fVar 3) (fCons (fC (.int (1000000000))) (fNil)))))) (fCons (fArgs S_alike_stakes (fCons (fVar 4) (fCons (fVar 4) (fCons (fVar 3) (fCons (fC (.int (1000000000))) (fNil)))))) (fNil))))) (gtName 6)
def p_law_3 : FS := sRet (fArgs (sameF 6) (fCons (fVar 6) (fCons (fArgs gTup (fCons (fC (.int (1))) (fCons (fC (.int (0))) (fCons (fUn gTuple (fLc (iRange1 (fVar 3)) (gtName 8) (fC (.bl true)) (fVar 8) [8])) (fNil))))) (fNil))))
def B_law : FS := sSeq (sFor (iRange1 (fC (.int (3)))) (gtName 2) b_law_0) (sSeq (p_law_0) (sSeq (p_law_1) (sSeq (p_law_2) (p_law_3))))
theorem r_law_some (a0 a1 : D) : S_law_some [a0, a1] = (B_law_some [.fz a0, .fz a1]).bind finish := run_eq rfl
theorem r_law_signs (a0 a1 : D) : S_law_signs [a0, a1] = (B_law_signs [.fz a0, .fz a1, .no]).bind finish := run_eq rfl
theorem r_law_two (a0 : D) : S_law_two [a0] = (B_law_two [.fz a0, .no, .no, .no, .no, .no]).bind finish := run_eq rfl
theorem r_law_period (a0 a1 : D) : S_law_period [a0, a1] = (B_law_period [.fz a0, .fz a1, .no]).bind finish := run_eq rfl
theorem r_law_gone (a0 a1 : D) : S_law_gone [a0, a1] = (B_law_gone [.fz a0, .fz a1, .no, .no, .no]).bind finish := run_eq rfl
theorem r_fits_signs (a0 a1 a2 : D) : S_fits_signs [a0, a1, a2] = (B_fits_signs [.fz a0, .fz a1, .fz a2, .no]).bind finish := run_eq rfl
theorem r_fits_word (a0 : D) : S_fits_word [a0] = (B_fits_word [.fz a0]).bind finish := run_eq rfl
theorem r_need_word (a0 : D) : S_need_word [a0] = (B_need_word [.fz a0]).bind finish := run_eq rfl
theorem r_need_words (a0 a1 : D) : S_need_words [a0, a1] = (B_need_words [.fz a0, .fz a1]).bind finish := run_eq rfl
theorem r_is_whole (a0 : D) : S_is_whole [a0] = (B_is_whole [.fz a0]).bind finish := run_eq rfl
theorem r_fits_whole (a0 a1 a2 : D) : S_fits_whole [a0, a1, a2] = (B_fits_whole [.fz a0, .fz a1, .fz a2]).bind finish := run_eq rfl
theorem r_need_stakes (a0 : D) : S_need_stakes [a0] = (B_need_stakes [.fz a0]).bind finish := run_eq rfl
theorem r_divisor (a0 a1 : D) : S_divisor [a0, a1] = (B_divisor [.fz a0, .fz a1]).bind finish := run_eq rfl
theorem r_together (a0 a1 : D) : S_together [a0, a1] = (B_together [.fz a0, .fz a1]).bind finish := run_eq rfl
theorem r_period_in (a0 a1 a2 : D) : S_period_in [a0, a1, a2] = (B_period_in [.fz a0, .fz a1, .fz a2, .no, .no, .no]).bind finish := run_eq rfl
theorem r_period_of (a0 a1 a2 : D) : S_period_of [a0, a1, a2] = (B_period_of [.fz a0, .fz a1, .fz a2]).bind finish := run_eq rfl
theorem r_need_rounds (a0 : D) : S_need_rounds [a0] = (B_need_rounds [.fz a0]).bind finish := run_eq rfl
theorem r_wound_in (a0 a1 a2 : D) : S_wound_in [a0, a1, a2] = (B_wound_in [.fz a0, .fz a1, .fz a2, .no]).bind finish := run_eq rfl
theorem r_round_in (a0 a1 a2 : D) : S_round_in [a0, a1, a2] = (B_round_in [.fz a0, .fz a1, .fz a2]).bind finish := run_eq rfl
theorem r_rounds_of (a0 a1 a2 a3 : D) : S_rounds_of [a0, a1, a2, a3] = (B_rounds_of [.fz a0, .fz a1, .fz a2, .fz a3, .no]).bind finish := run_eq rfl
theorem r_need_ticks (a0 a1 : D) : S_need_ticks [a0, a1] = (B_need_ticks [.fz a0, .fz a1]).bind finish := run_eq rfl
theorem r_alike_stakes (a0 a1 a2 a3 : D) : S_alike_stakes [a0, a1, a2, a3] = (B_alike_stakes [.fz a0, .fz a1, .fz a2, .fz a3, .no, .no, .no]).bind finish := run_eq rfl
theorem r_signs_in (a0 a1 : D) : S_signs_in [a0, a1] = (B_signs_in [.fz a0, .fz a1]).bind finish := run_eq rfl
theorem r_alike_in (a0 a1 : D) : S_alike_in [a0, a1] = (B_alike_in [.fz a0, .fz a1, .no, .no, .no, .no]).bind finish := run_eq rfl
theorem r_alike_many (a0 a1 a2 a3 : D) : S_alike_many [a0, a1, a2, a3] = (B_alike_many [.fz a0, .fz a1, .fz a2, .fz a3, .no, .no, .no, .no, .no]).bind finish := run_eq rfl
theorem r_firm_behind (a0 a1 a2 a3 : D) : S_firm_behind [a0, a1, a2, a3] = (B_firm_behind [.fz a0, .fz a1, .fz a2, .fz a3, .no, .no, .no, .no, .no]).bind finish := run_eq rfl
theorem r_rounds_to_firm (a0 a1 a2 : D) : S_rounds_to_firm [a0, a1, a2] = (B_rounds_to_firm [.fz a0, .fz a1, .fz a2, .no, .no, .no, .no, .no]).bind finish := run_eq rfl
theorem r_law_right (a0 : D) : S_law_right [a0] = (B_law_right [.fz a0, .no, .no, .no, .no, .no, .no, .no, .no, .no, .no, .no, .no, .no, .no, .no, .no, .no, .no, .no, .no, .no, .no, .no, .no, .no]).bind finish := run_eq rfl
end K93
end

section
set_option Elab.async false
set_option linter.all false
set_option maxRecDepth 100000
set_option maxHeartbeats 4000000
namespace K93
open PySem L2 WK PyProof.Rows
def top (i : Nat) : Stmt := PySem.Challenge.pw_wickerwork_k93_whole_rounds_of_two_rods.main.body.getD i (.Pass ⟨0, 0, 0, 0⟩)
structure Tops (K : PySem.W.Frag) (mg : Str → Option Value) : Prop where
  d_law_cup : Fn1 K mg "_law_cup" (top 36)
  d_law_roll : Fn1 K mg "_law_roll" (top 37)
  d_law_some : Fn1 K mg "_law_some" (top 38)
  d_law_signs : Fn1 K mg "_law_signs" (top 40)
  d_law_two : Fn1 K mg "_law_two" (top 42)
  d_law_period : Fn1 K mg "_law_period" (top 43)
  d_law_gone : Fn1 K mg "_law_gone" (top 41)
  d_law_same : Fn1 K mg "_law_same" (top 39)
  d_fits_signs : Fn1 K mg "fits_signs" (top 13)
  d_fits_word : Fn1 K mg "fits_word" (top 14)
  d_need_word : Fn1 K mg "need_word" (top 15)
  d_need_words : Fn1 K mg "need_words" (top 21)
  d_is_whole : Fn1 K mg "is_whole" (top 11)
  d_fits_whole : Fn1 K mg "fits_whole" (top 12)
  d_need_stakes : Fn1 K mg "need_stakes" (top 16)
  d_divisor : Fn1 K mg "divisor" (top 17)
  d_together : Fn1 K mg "together" (top 24)
  d_period_in : Fn1 K mg "period_in" (top 28)
  d_period_of : Fn1 K mg "period_of" (top 29)
  d_need_rounds : Fn1 K mg "need_rounds" (top 22)
  d_wound_in : Fn1 K mg "wound_in" (top 18)
  d_round_in : Fn1 K mg "round_in" (top 27)
  d_rounds_of : Fn1 K mg "rounds_of" (top 30)
  d_need_ticks : Fn1 K mg "need_ticks" (top 23)
  d_alike_stakes : Fn1 K mg "alike_stakes" (top 31)
  d_signs_in : Fn1 K mg "signs_in" (top 25)
  d_alike_in : Fn1 K mg "alike_in" (top 26)
  d_alike_many : Fn1 K mg "alike_many" (top 34)
  d_firm_behind : Fn1 K mg "firm_behind" (top 32)
  d_rounds_to_firm : Fn1 K mg "rounds_to_firm" (top 33)
  d_law_right : Fn1 K mg "_law_right" (top 44)
  b_abs : mg "abs" = none
  b_all : mg "all" = none
  b_bool : mg "bool" = none
  b_enumerate : mg "enumerate" = none
  b_int : mg "int" = none
  b_isinstance : mg "isinstance" = none
  b_len : mg "len" = none
  b_list : mg "list" = none
  b_max : mg "max" = none
  b_range : mg "range" = none
  b_set : mg "set" = none
  b_str : mg "str" = none
  b_tuple : mg "tuple" = none
  b_zip : mg "zip" = none
  g_SIGNS : ∃ t, mg "SIGNS" = some (.str "io" t)
  g_LEAST : ∃ t, mg "LEAST" = some (.int (3) t)
  g_STAKES : ∃ t, mg "STAKES" = some (.int (24) t)
  g_HIGH : ∃ t, mg "HIGH" = some (.int (40) t)
  g_WORD : ∃ t, mg "WORD" = some (.int (12) t)
  g_FAR : ∃ t, mg "FAR" = some (.int (1000000000) t)
section
variable {P : Program} {w : World} {K : PySem.W.Frag} {mg : Str → Option Value} {base : Heap}
/-! law_cup -/
abbrev n_law_cup : List Str := ["script", "cell"]
theorem sc_law_cup : FnScope n_law_cup ["script"] (defScope (top 36)) := ⟨rfl, rfl, rfl, by decide +kernel, rfl, by decide +kernel, by decide +kernel⟩
theorem ok_law_cup (T : Tops K mg) : OkC P w K mg base := by
  obtain ⟨f, fd, hm, F⟩ := T.d_law_cup
  have nd := sc_law_cup.nd
  exact ⟨f, fd, hm, F.kp, F.bindsN (fun _ _ _ _ _ _ us hl => match us, hl with | [_], _ => rfl), F.ok sc_law_cup (fun vs H Q E h => by obtain ⟨a, ns, rfl, _⟩ := h; rfl) fun cdv A outer s H vs Q E hr hsp => ⟨tCup K 71 307 4099 2077503149 211, PSs.nox (pss_cons
    (ps_set (i := 1) nd rfl (.inl rfl) (pe_callB call_abs rfl T.b_abs boot_abs (pa_cons (pe_ix ix_list (pe_op op_cat (pe_callTy call_list_of rfl T.b_list boot_list (pa_cons (pv 0) pa_nil)) (pe_lst (pa_cons pe_int pa_nil))) pe_int (fun _ _ => rfl)) pa_nil)))
    (pss_one (ps_ret (pe_lst (pa_cons (pe_ifExp (pt_cmpR op_ge (pv 1) (pe_op op_pow pe_int pe_int) (nomark _)) (pe_op op_fdiv (pv 1) pe_int) pe_int)
      (pa_cons (pe_op op_add (pe_op op_mod (pe_callTy call_int1 rfl T.b_int boot_int (pa_cons (pe_op op_add (pe_op op_mul (pv 1) pe_int) pe_int) pa_nil)) pe_int) pe_int) pa_nil)))))), cup_go (E := E) (d := 71) (a := 307) (b := 4099) (m := 2077503149) (c := 211) (by decide) hsp⟩⟩
/-! law_roll -/
abbrev n_law_roll : List Str := ["cup", "many", "found", "deep"]
theorem sc_law_roll : FnScope n_law_roll ["cup", "many"] (defScope (top 37)) := ⟨rfl, rfl, rfl, by decide +kernel, rfl, by decide +kernel, by decide +kernel⟩
theorem ok_law_roll (T : Tops K mg) : OkF P w K mg base 1 "_law_roll" ["cup", "many"] gRoll := by
  obtain ⟨f, fd, hm, F⟩ := T.d_law_roll
  have nd := sc_law_roll.nd
  refine ⟨f, fd, hm, F.kp, F.bindsN (fun _ _ _ _ _ _ us hl => match us, hl with | [_, _], _ => rfl), F.ok sc_law_roll (fun vs H Q E h => h.1) fun cdv A outer s H vs Q E hr hsp => ⟨tRoll K 30937 7933 2147482949 233 2147482937 811, PSs.nox (pss_cons
    (ps_if (pt_cmpR op_gt (pe_ix ix_list (pv 0) pe_int (fun _ _ => rfl)) pe_int (nomark _))
      (pss_cons (ps_set (i := 2) nd rfl (.inl rfl) (pe_op op_mod (pe_callTy call_int1 rfl T.b_int boot_int (pa_cons (pe_ix ix_list (pv 0) pe_int (fun _ _ => rfl)) pa_nil)) (pv 1)))
      (pss_cons (ps_asg (pe_op op_fdiv (pe_ix ix_list (pv 0) pe_int (fun _ _ => rfl)) (pv 1)) (pg_sub (pv 0) pe_int set_list))
      (pss_one (ps_ret (pv 2))))) pss_nil)
    (pss_cons (ps_asg (pe_op op_mod (pe_callTy call_int1 rfl T.b_int boot_int (pa_cons (pe_op op_add (pe_op op_mul (pe_ix ix_list (pv 0) pe_int (fun _ _ => rfl)) pe_int) pe_int) pa_nil)) pe_int) (pg_sub (pv 0) pe_int set_list))
    (pss_cons (ps_set (i := 3) nd rfl (.inl rfl) (pe_op op_mod (pe_callTy call_int1 rfl T.b_int boot_int (pa_cons (pe_op op_mul (pe_ix ix_list (pv 0) pe_int (fun _ _ => rfl)) (pe_op op_add (pe_ix ix_list (pv 0) pe_int (fun _ _ => rfl)) pe_int)) pa_nil)) pe_int))
    (pss_one (ps_ret (pe_op op_mod (pe_callTy call_int1 rfl T.b_int boot_int (pa_cons (pe_op op_fdiv (pv 3) pe_int) pa_nil)) (pv 1))))))), roll_go (E := E) (a := 30937) (b := 7933) (m := 2147482949) (c := 233) (m2 := 2147482937) (d := 811) (by decide) hsp⟩, ?_⟩
  intro ds Q h
  match ds, h with
  | [.cup, .int n], h => rfl
/-! law_some -/
abbrev n_law_some : List Str := ["cup", "things"]
theorem sc_law_some : FnScope n_law_some ["cup", "things"] (defScope (top 38)) := ⟨rfl, rfl, rfl, by decide +kernel, rfl, by decide +kernel, by decide +kernel⟩
theorem ok_law_some (T : Tops K mg) : OkF P w K mg base 2 "_law_some" ["cup", "things"] S_law_some := by
  have nd := sc_law_some.nd
  refine okF_run (k := 1) T.d_law_some sc_law_some (fun _ _ _ _ _ _ us hl => match us, hl with | [_, _], _ => rfl) fun fa cdv A outer s H E hr => ?_
  exact (ss_one (s_ret (c_ix (CF.cb (c_var (pv 1))) (CF.cb (c_callO (ok_law_roll T) hr (by decide) rfl (ca_cons (c_var (pv 0)) (ca_cons (c_b1 bi_len rfl T.b_len boot_len (CF.cb (c_var (pv 1)))) ca_nil)))))))
/-! law_signs -/
abbrev n_law_signs : List Str := ["cup", "many", "sign"]
theorem sc_law_signs : FnScope n_law_signs ["cup", "many"] (defScope (top 40)) := ⟨rfl, rfl, rfl, by decide +kernel, rfl, by decide +kernel, by decide +kernel⟩
theorem ok_law_signs (T : Tops K mg) : OkF P w K mg base 3 "_law_signs" ["cup", "many"] S_law_signs := by
  have nd := sc_law_signs.nd
  refine okF_run (k := 2) T.d_law_signs sc_law_signs (fun _ _ _ _ _ _ us hl => match us, hl with | [_, _], _ => rfl) fun fa cdv A outer s H E hr => ?_
  exact (ss_one (s_ret (c_join (by decide +kernel) (CF.cb (CN.cf (c_lc (own := [("sign", 2)]) (is := [2]) rfl nd (CI.cj (ci_rng1 rfl T.b_range (CF.cb (c_var (pv 1))))) (blkOk_by (N := n_law_signs) (sc := defScope (top 40)) (by decide +kernel)) (by decide) (fun _ _ _ _ _ => (cg_name (pg_name (i := 2) nd rfl (.inl rfl)))) (fun _ _ _ _ _ => cts_nil) (fun _ _ _ _ _ => (c_callO (ok_law_some T) hr (by decide) rfl (ca_cons (c_var (pv 0)) (ca_cons (c_str [105, 111]) ca_nil))))))))))
/-! law_two -/
abbrev n_law_two : List Str := ["cup", "one", "table", "at", "some", "sign"]
theorem sc_law_two : FnScope n_law_two ["cup"] (defScope (top 42)) := ⟨rfl, rfl, rfl, by decide +kernel, rfl, by decide +kernel, by decide +kernel⟩
theorem ok_law_two (T : Tops K mg) : OkF P w K mg base 4 "_law_two" ["cup"] S_law_two := by
  have nd := sc_law_two.nd
  refine okF_run (k := 3) T.d_law_two sc_law_two (fun _ _ _ _ _ _ us hl => match us, hl with | [_], _ => rfl) fun fa cdv A outer s H E hr => ?_
  exact (ss_cons (s_set (ps_set (i := 1) nd rfl (.inl rfl) (c_callO (ok_law_signs T) hr (by decide) rfl (ca_cons (c_var (pv 0)) (ca_cons (c_op og_add (CF.cb c_int) (CF.cb (c_callO (ok_law_roll T) hr (by decide) rfl (ca_cons (c_var (pv 0)) (ca_cons c_int ca_nil))))) ca_nil))))) (ss_cons (s_ownD (ps_set (i := 2) nd rfl (.inr rfl) (c_disp (cps_cons (c_str [111]) (c_str [105]) (cps_cons (c_str [105]) (c_str [111]) cps_nil)) rfl rfl (by simp) (by decide)))) (ss_cons (s_set (ps_set (i := 3) nd rfl (.inl rfl) (c_callO (ok_law_roll T) hr (by decide) rfl (ca_cons (c_var (pv 0)) (ca_cons (c_b1 bi_len rfl T.b_len boot_len (CF.cb (c_var (pv 1)))) ca_nil))))) (ss_cons (s_set (ps_set (i := 4) nd rfl (.inl rfl) (CN.cf (c_lst (ca_cons (c_callO (ok_law_signs T) hr (by decide) rfl (ca_cons (c_var (pv 0)) (ca_cons (c_op og_add (CF.cb c_int) (CF.cb (c_callO (ok_law_roll T) hr (by decide) rfl (ca_cons (c_var (pv 0)) (ca_cons c_int ca_nil))))) ca_nil))) (ca_cons (c_op og_add (CF.cb (c_sl (CF.cb (c_var (pv 1))) (co_some (CF.cb (c_var (pv 3)))) co_none)) (CF.cb (c_sl (CF.cb (c_var (pv 1))) co_none (co_some (CF.cb (c_var (pv 3))))))) (ca_cons (c_join (by decide +kernel) (CF.cb (CN.cf (c_lc (own := [("sign", 5)]) (is := [5]) rfl nd (cj_seq (CF.cb (c_var (pv 1)))) (blkOk_by (N := n_law_two) (sc := defScope (top 42)) (by decide +kernel)) (by decide) (fun _ _ _ _ _ => (cg_name (pg_name (i := 5) nd rfl (.inl rfl)))) (fun _ _ _ _ _ => cts_nil) (fun _ _ _ _ _ => (c_dget hr (c_bor (pv 2)) (CF.cb (c_var (pv 5))))))))) (ca_cons (c_op og_mul (CF.cb (c_sl (CF.cb (c_var (pv 1))) co_none (co_some (CF.cb c_int)))) (CF.cb c_int)) ca_nil)))))))) (ss_one (s_ret (c_tup (ca_cons (c_var (pv 1)) (ca_cons (c_callO (ok_law_some T) hr (by decide) rfl (ca_cons (c_var (pv 0)) (ca_cons (c_var (pv 4)) ca_nil))) ca_nil)))))))))
/-! law_period -/
abbrev n_law_period : List Str := ["one", "other", "many"]
theorem sc_law_period : FnScope n_law_period ["one", "other"] (defScope (top 43)) := ⟨rfl, rfl, rfl, by decide +kernel, rfl, by decide +kernel, by decide +kernel⟩
theorem ok_law_period (T : Tops K mg) : OkF P w K mg base 1 "_law_period" ["one", "other"] S_law_period := by
  have nd := sc_law_period.nd
  refine okF_run (k := 0) T.d_law_period sc_law_period (fun _ _ _ _ _ _ us hl => match us, hl with | [_, _], _ => rfl) fun fa cdv A outer s H E hr => ?_
  exact (ss_cons (s_set (ps_set (i := 2) nd rfl (.inl rfl) c_int)) (ss_cons (s_while 400 PassesOwn.never (CW.ct (cw_or (ct_cmp (og_ne hr) (CF.cb (c_op og_mod (CF.cb (c_var (pv 2))) (CF.cb (c_b1 bi_len rfl T.b_len boot_len (CF.cb (c_var (pv 0))))))) (CF.cb c_int)) (cw_or1 (ct_cmp (og_ne hr) (CF.cb (c_op og_mod (CF.cb (c_var (pv 2))) (CF.cb (c_b1 bi_len rfl T.b_len boot_len (CF.cb (c_var (pv 1))))))) (CF.cb c_int))))) (ss_one (s_set (ps_set (i := 2) nd rfl (.inl rfl) (c_op og_add (CF.cb (c_var (pv 2))) (CF.cb c_int)))))) (ss_one (s_ret (c_var (pv 2))))))
/-! law_gone -/
abbrev n_law_gone : List Str := ["word", "many", "found", "at", "place"]
theorem sc_law_gone : FnScope n_law_gone ["word", "many"] (defScope (top 41)) := ⟨rfl, rfl, rfl, by decide +kernel, rfl, by decide +kernel, by decide +kernel⟩
theorem ok_law_gone (T : Tops K mg) : OkF P w K mg base 1 "_law_gone" ["word", "many"] S_law_gone := by
  have nd := sc_law_gone.nd
  refine okF_run (k := 0) T.d_law_gone sc_law_gone (fun _ _ _ _ _ _ us hl => match us, hl with | [_, _], _ => rfl) fun fa cdv A outer s H E hr => ?_
  exact (ss_cons (s_asg (is := [2, 3]) (ps_asg (c_tup (ca_cons (c_str []) (ca_cons c_int ca_nil))) (cg_tup rfl (cgs_cons (cg_name (pg_name (i := 2) nd rfl (.inl rfl))) (cgs_cons (cg_name (pg_name (i := 3) nd rfl (.inl rfl))) cgs_nil))))) (ss_cons (s_for (is := [4]) PassesOwn.never rfl (ci_rng1 rfl T.b_range (CF.cb (c_var (pv 1)))) (cg_name (pg_name (i := 4) nd rfl (.inl rfl))) (ss_one (s_par (a := .Constant .none 0 ⟨0, 0, 0, 0⟩) (b := .Constant .none 0 ⟨0, 0, 0, 0⟩) (by decide) (ps_par (by rfl) nd rfl rfl (by decide) rfl rfl (pa_cons (c_op og_add (CF.cb (c_var (pv 2))) (CF.cb (c_ix (CF.cb (c_var (pv 0))) (CF.cb (c_var (pv 3)))))) (pa_cons (c_if (ct_cmp (og_ltX hr) (CF.cb (c_op og_add (CF.cb (c_var (pv 3))) (CF.cb c_int))) (CF.cb (c_b1 bi_len rfl T.b_len boot_len (CF.cb (c_var (pv 0)))))) (c_op og_add (CF.cb (c_var (pv 3))) (CF.cb c_int)) c_int) pa_nil)) (by rfl))))) (ss_one (s_ret (c_var (pv 2))))))
/-! law_same -/
abbrev n_law_same : List Str := ["told", "due", "at"]
theorem sc_law_same : FnScope n_law_same ["told", "due"] (defScope (top 39)) := ⟨rfl, rfl, rfl, by decide +kernel, rfl, by decide +kernel, by decide +kernel⟩
theorem ok_law_same_all (T : Tops K mg) : ∀ n, OkF P w K mg base (n + 1) "_law_same" ["told", "due"] (sameF n)
  | 0 => okF_run T.d_law_same sc_law_same (fun _ _ _ _ _ _ us hl => match us, hl with | [_, _], _ => rfl) fun fa cdv A outer s H E hr => ss_never
  | n + 1 => okF_run (k := n + 1) (b := sameBody (sameF n)) T.d_law_same sc_law_same (fun _ _ _ _ _ _ us hl => match us, hl with | [_, _], _ => rfl) fun fa cdv A outer s H E hr => by
    have nd := sc_law_same.nd
    have ih := ok_law_same_all T n
    exact (ss_cons (s_if (ct_val (CF.cb (c_isi .tuple rfl T.b_isinstance rfl T.b_tuple boot_tuple (CF.cb (c_var (pv 1)))))) (ss_cons (s_if (CW.ct (cw_or (ct_not (ct_val (CF.cb (c_isi .tuple rfl T.b_isinstance rfl T.b_tuple boot_tuple (CF.cb (c_var (pv 0))))))) (cw_or1 (ct_cmp (og_ne hr) (CF.cb (c_b1 bi_len rfl T.b_len boot_len (CF.cb (c_var (pv 0))))) (CF.cb (c_b1 bi_len rfl T.b_len boot_len (CF.cb (c_var (pv 1))))))))) (ss_one (s_ret c_bl)) ss_nil) (ss_one (s_ret (c_b1 (bi_all rfl) rfl T.b_all boot_all (CF.cb (CN.cf (c_lc (own := [("at", 2)]) (is := [2]) rfl nd (CI.cj (ci_rng1 rfl T.b_range (CF.cb (c_b1 bi_len rfl T.b_len boot_len (CF.cb (c_var (pv 1))))))) (blkOk_by (N := n_law_same) (sc := defScope (top 39)) (by decide +kernel)) (by decide) (fun _ _ _ _ _ => (cg_name (pg_name (i := 2) nd rfl (.inl rfl)))) (fun _ _ _ _ _ => cts_nil) (fun _ _ _ _ _ => (c_callO ih hr (Nat.le_refl _) rfl (ca_cons (c_ix (CF.cb (c_var (pv 0))) (CF.cb (c_var (pv 2)))) (ca_cons (c_ix (CF.cb (c_var (pv 1))) (CF.cb (c_var (pv 2)))) ca_nil))))))))))) ss_nil) (ss_cons (s_if (ct_cmp og_is (CF.cb (c_var (pv 1))) (CF.cb c_non)) (ss_one (s_ret (c_cmp og_is (CF.cb (c_var (pv 0))) (CF.cb c_non)))) ss_nil) (ss_cons (s_if (ct_val (CF.cb (c_isi .bool rfl T.b_isinstance rfl T.b_bool boot_bool (CF.cb (c_var (pv 1)))))) (ss_one (s_ret (c_if (ct_val (CF.cb (c_var (pv 1)))) (c_cmp og_is (CF.cb (c_var (pv 0))) (CF.cb c_bl)) (c_cmp og_is (CF.cb (c_var (pv 0))) (CF.cb c_bl))))) ss_nil) (ss_cons (s_if (ct_val (CF.cb (c_isi .int rfl T.b_isinstance rfl T.b_int boot_int (CF.cb (c_var (pv 1)))))) (ss_one (s_ret (c_andF (CF.cb (c_isi .int rfl T.b_isinstance rfl T.b_int boot_int (CF.cb (c_var (pv 0))))) (c_andF (CF.cb (c_not (CF.cb (c_isi .bool rfl T.b_isinstance rfl T.b_bool boot_bool (CF.cb (c_var (pv 0))))))) (c_oneF (c_cmp (og_eq hr) (CF.cb (c_t1 bi_int rfl T.b_int boot_int (CF.cb (c_var (pv 0))))) (CF.cb (c_var (pv 1))))))))) ss_nil) (ss_one (s_ret (c_andF (CF.cb (c_isi .str rfl T.b_isinstance rfl T.b_str boot_str (CF.cb (c_var (pv 0))))) (c_oneF (c_cmp (og_eq hr) (CF.cb (c_t1 bi_str rfl T.b_str boot_str (CF.cb (c_var (pv 0))))) (CF.cb (c_var (pv 1))))))))))))
theorem ok_law_same (T : Tops K mg) : OkF P w K mg base 7 "_law_same" ["told", "due"] (sameF 6) := ok_law_same_all T 6
/-! fits_signs -/
abbrev n_fits_signs : List Str := ["value", "least", "most", "sign"]
theorem sc_fits_signs : FnScope n_fits_signs ["value", "least", "most"] (defScope (top 13)) := ⟨rfl, rfl, rfl, by decide +kernel, rfl, by decide +kernel, by decide +kernel⟩
theorem ok_fits_signs (T : Tops K mg) : OkF P w K mg base 1 "fits_signs" ["value", "least", "most"] S_fits_signs := by
  have nd := sc_fits_signs.nd
  refine okF_run (k := 0) T.d_fits_signs sc_fits_signs (fun _ _ _ _ _ _ us hl => match us, hl with | [_, _, _], _ => rfl) fun fa cdv A outer s H E hr => ?_
  exact (ss_one (s_ret (c_andF (CF.cb (c_isi .str rfl T.b_isinstance rfl T.b_str boot_str (CF.cb (c_var (pv 0))))) (c_andF (CF.cb (c_chain (og_leX hr) (og_leX hr) (CF.cb (c_var (pv 1))) (CF.cb (c_b1 bi_len rfl T.b_len boot_len (CF.cb (c_var (pv 0))))) (CF.cb (c_var (pv 2))))) (c_oneF (c_b1 (bi_all rfl) rfl T.b_all boot_all (CF.cb (CN.cf (c_lc (own := [("sign", 3)]) (is := [3]) rfl nd (cj_seq (CF.cb (c_var (pv 0)))) (blkOk_by (N := n_fits_signs) (sc := defScope (top 13)) (by decide +kernel)) (by decide) (fun _ _ _ _ _ => (cg_name (pg_name (i := 3) nd rfl (.inl rfl)))) (fun _ _ _ _ _ => cts_nil) (fun _ _ _ _ _ => (c_cmp (og_in hr) (CF.cb (c_var (pv 3))) (CF.cb (c_gstr [105, 111] rfl T.g_SIGNS)))))))))))))
/-! fits_word -/
abbrev n_fits_word : List Str := ["value"]
theorem sc_fits_word : FnScope n_fits_word ["value"] (defScope (top 14)) := ⟨rfl, rfl, rfl, by decide +kernel, rfl, by decide +kernel, by decide +kernel⟩
theorem ok_fits_word (T : Tops K mg) : OkF P w K mg base 2 "fits_word" ["value"] S_fits_word := by
  have nd := sc_fits_word.nd
  refine okF_run (k := 1) T.d_fits_word sc_fits_word (fun _ _ _ _ _ _ us hl => match us, hl with | [_], _ => rfl) fun fa cdv A outer s H E hr => ?_
  exact (ss_one (s_ret (c_callO (ok_fits_signs T) hr (by decide) rfl (ca_cons (c_var (pv 0)) (ca_cons c_int (ca_cons (c_gint rfl T.g_WORD) ca_nil))))))
/-! need_word -/
abbrev n_need_word : List Str := ["value"]
theorem sc_need_word : FnScope n_need_word ["value"] (defScope (top 15)) := ⟨rfl, rfl, rfl, by decide +kernel, rfl, by decide +kernel, by decide +kernel⟩
theorem ok_need_word (T : Tops K mg) : OkF P w K mg base 3 "need_word" ["value"] S_need_word := by
  have nd := sc_need_word.nd
  refine okF_run (k := 2) T.d_need_word sc_need_word (fun _ _ _ _ _ _ us hl => match us, hl with | [_], _ => rfl) fun fa cdv A outer s H E hr => ?_
  exact (ss_one (s_if (ct_not (ct_val (CF.cb (c_callO (ok_fits_word T) hr (by decide) rfl (ca_cons (c_var (pv 0)) ca_nil))))) ss_never ss_nil))
/-! need_words -/
abbrev n_need_words : List Str := ["one", "other"]
theorem sc_need_words : FnScope n_need_words ["one", "other"] (defScope (top 21)) := ⟨rfl, rfl, rfl, by decide +kernel, rfl, by decide +kernel, by decide +kernel⟩
theorem ok_need_words (T : Tops K mg) : OkF P w K mg base 4 "need_words" ["one", "other"] S_need_words := by
  have nd := sc_need_words.nd
  refine okF_run (k := 3) T.d_need_words sc_need_words (fun _ _ _ _ _ _ us hl => match us, hl with | [_, _], _ => rfl) fun fa cdv A outer s H E hr => ?_
  exact (ss_cons (s_expr (ps_expr (c_callO (ok_need_word T) hr (by decide) rfl (ca_cons (c_var (pv 0)) ca_nil)))) (ss_one (s_expr (ps_expr (c_callO (ok_need_word T) hr (by decide) rfl (ca_cons (c_var (pv 1)) ca_nil))))))
/-! is_whole -/
abbrev n_is_whole : List Str := ["value"]
theorem sc_is_whole : FnScope n_is_whole ["value"] (defScope (top 11)) := ⟨rfl, rfl, rfl, by decide +kernel, rfl, by decide +kernel, by decide +kernel⟩
theorem ok_is_whole (T : Tops K mg) : OkF P w K mg base 1 "is_whole" ["value"] S_is_whole := by
  have nd := sc_is_whole.nd
  refine okF_run (k := 0) T.d_is_whole sc_is_whole (fun _ _ _ _ _ _ us hl => match us, hl with | [_], _ => rfl) fun fa cdv A outer s H E hr => ?_
  exact (ss_one (s_ret (c_andF (CF.cb (c_isi .int rfl T.b_isinstance rfl T.b_int boot_int (CF.cb (c_var (pv 0))))) (c_oneF (c_not (CF.cb (c_isi .bool rfl T.b_isinstance rfl T.b_bool boot_bool (CF.cb (c_var (pv 0))))))))))
/-! fits_whole -/
abbrev n_fits_whole : List Str := ["value", "low", "high"]
theorem sc_fits_whole : FnScope n_fits_whole ["value", "low", "high"] (defScope (top 12)) := ⟨rfl, rfl, rfl, by decide +kernel, rfl, by decide +kernel, by decide +kernel⟩
theorem ok_fits_whole (T : Tops K mg) : OkF P w K mg base 2 "fits_whole" ["value", "low", "high"] S_fits_whole := by
  have nd := sc_fits_whole.nd
  refine okF_run (k := 1) T.d_fits_whole sc_fits_whole (fun _ _ _ _ _ _ us hl => match us, hl with | [_, _, _], _ => rfl) fun fa cdv A outer s H E hr => ?_
  exact (ss_one (s_ret (c_andF (CF.cb (c_callO (ok_is_whole T) hr (by decide) rfl (ca_cons (c_var (pv 0)) ca_nil))) (c_oneF (c_chain (og_leX hr) (og_leX hr) (CF.cb (c_var (pv 1))) (CF.cb (c_var (pv 0))) (CF.cb (c_var (pv 2))))))))
/-! need_stakes -/
abbrev n_need_stakes : List Str := ["value"]
theorem sc_need_stakes : FnScope n_need_stakes ["value"] (defScope (top 16)) := ⟨rfl, rfl, rfl, by decide +kernel, rfl, by decide +kernel, by decide +kernel⟩
theorem ok_need_stakes (T : Tops K mg) : OkF P w K mg base 3 "need_stakes" ["value"] S_need_stakes := by
  have nd := sc_need_stakes.nd
  refine okF_run (k := 2) T.d_need_stakes sc_need_stakes (fun _ _ _ _ _ _ us hl => match us, hl with | [_], _ => rfl) fun fa cdv A outer s H E hr => ?_
  exact (ss_one (s_if (ct_not (ct_val (CF.cb (c_callO (ok_fits_whole T) hr (by decide) rfl (ca_cons (c_var (pv 0)) (ca_cons (c_gint rfl T.g_LEAST) (ca_cons (c_gint rfl T.g_STAKES) ca_nil))))))) ss_never ss_nil))
/-! divisor -/
abbrev n_divisor : List Str := ["one", "other"]
theorem sc_divisor : FnScope n_divisor ["one", "other"] (defScope (top 17)) := ⟨rfl, rfl, rfl, by decide +kernel, rfl, by decide +kernel, by decide +kernel⟩
theorem ok_divisor (T : Tops K mg) : OkF P w K mg base 1 "divisor" ["one", "other"] S_divisor := by
  have nd := sc_divisor.nd
  refine okF_run (k := 0) T.d_divisor sc_divisor (fun _ _ _ _ _ _ us hl => match us, hl with | [_, _], _ => rfl) fun fa cdv A outer s H E hr => ?_
  exact (ss_cons (s_while 400 PassesOwn.never (ct_cmp (og_ne hr) (CF.cb (c_var (pv 1))) (CF.cb c_int)) (ss_one (s_par (a := .Constant .none 0 ⟨0, 0, 0, 0⟩) (b := .Constant .none 0 ⟨0, 0, 0, 0⟩) (by decide) (ps_par (by rfl) nd rfl rfl (by decide) rfl rfl (pa_cons (c_var (pv 1)) (pa_cons (c_op og_mod (CF.cb (c_var (pv 0))) (CF.cb (c_var (pv 1)))) pa_nil)) (by rfl))))) (ss_one (s_ret (c_var (pv 0)))))
/-! together -/
abbrev n_together : List Str := ["one", "other"]
theorem sc_together : FnScope n_together ["one", "other"] (defScope (top 24)) := ⟨rfl, rfl, rfl, by decide +kernel, rfl, by decide +kernel, by decide +kernel⟩
theorem ok_together (T : Tops K mg) : OkF P w K mg base 2 "together" ["one", "other"] S_together := by
  have nd := sc_together.nd
  refine okF_run (k := 1) T.d_together sc_together (fun _ _ _ _ _ _ us hl => match us, hl with | [_, _], _ => rfl) fun fa cdv A outer s H E hr => ?_
  exact (ss_one (s_ret (c_op og_mul (CF.cb (c_op og_div (CF.cb (c_var (pv 0))) (CF.cb (c_callO (ok_divisor T) hr (by decide) rfl (ca_cons (c_var (pv 0)) (ca_cons (c_var (pv 1)) ca_nil)))))) (CF.cb (c_var (pv 1))))))
/-! period_in -/
abbrev n_period_in : List Str := ["one", "other", "stakes", "first", "second", "word"]
theorem sc_period_in : FnScope n_period_in ["one", "other", "stakes"] (defScope (top 28)) := ⟨rfl, rfl, rfl, by decide +kernel, rfl, by decide +kernel, by decide +kernel⟩
theorem ok_period_in (T : Tops K mg) : OkF P w K mg base 3 "period_in" ["one", "other", "stakes"] S_period_in := by
  have nd := sc_period_in.nd
  refine okF_run (k := 2) T.d_period_in sc_period_in (fun _ _ _ _ _ _ us hl => match us, hl with | [_, _, _], _ => rfl) fun fa cdv A outer s H E hr => ?_
  exact (ss_cons (s_asg (is := [3, 4]) (ps_asg (CN.cf (c_lc (own := [("word", 5)]) (is := [5]) rfl nd (cj_seq (CF.cb (c_tup (ca_cons (c_var (pv 0)) (ca_cons (c_var (pv 1)) ca_nil))))) (blkOk_by (N := n_period_in) (sc := defScope (top 28)) (by decide +kernel)) (by decide) (fun _ _ _ _ _ => (cg_name (pg_name (i := 5) nd rfl (.inl rfl)))) (fun _ _ _ _ _ => cts_nil) (fun _ _ _ _ _ => (c_op og_div (CF.cb (c_b1 bi_len rfl T.b_len boot_len (CF.cb (c_var (pv 5))))) (CF.cb (c_callO (ok_divisor T) hr (by decide) rfl (ca_cons (c_var (pv 2)) (ca_cons (c_b1 bi_len rfl T.b_len boot_len (CF.cb (c_var (pv 5)))) ca_nil)))))))) (cg_tup rfl (cgs_cons (cg_name (pg_name (i := 3) nd rfl (.inl rfl))) (cgs_cons (cg_name (pg_name (i := 4) nd rfl (.inl rfl))) cgs_nil))))) (ss_one (s_ret (c_callO (ok_together T) hr (by decide) rfl (ca_cons (c_var (pv 3)) (ca_cons (c_var (pv 4)) ca_nil))))))
/-! period_of -/
abbrev n_period_of : List Str := ["one", "other", "stakes"]
theorem sc_period_of : FnScope n_period_of ["one", "other", "stakes"] (defScope (top 29)) := ⟨rfl, rfl, rfl, by decide +kernel, rfl, by decide +kernel, by decide +kernel⟩
theorem ok_period_of (T : Tops K mg) : OkF P w K mg base 5 "period_of" ["one", "other", "stakes"] S_period_of := by
  have nd := sc_period_of.nd
  refine okF_run (k := 4) T.d_period_of sc_period_of (fun _ _ _ _ _ _ us hl => match us, hl with | [_, _, _], _ => rfl) fun fa cdv A outer s H E hr => ?_
  exact (ss_cons (s_expr (ps_expr (c_callO (ok_need_words T) hr (by decide) rfl (ca_cons (c_var (pv 0)) (ca_cons (c_var (pv 1)) ca_nil))))) (ss_cons (s_expr (ps_expr (c_callO (ok_need_stakes T) hr (by decide) rfl (ca_cons (c_var (pv 2)) ca_nil)))) (ss_one (s_ret (c_callO (ok_period_in T) hr (by decide) rfl (ca_cons (c_var (pv 0)) (ca_cons (c_var (pv 1)) (ca_cons (c_var (pv 2)) ca_nil))))))))
/-! need_rounds -/
abbrev n_need_rounds : List Str := ["value"]
theorem sc_need_rounds : FnScope n_need_rounds ["value"] (defScope (top 22)) := ⟨rfl, rfl, rfl, by decide +kernel, rfl, by decide +kernel, by decide +kernel⟩
theorem ok_need_rounds (T : Tops K mg) : OkF P w K mg base 3 "need_rounds" ["value"] S_need_rounds := by
  have nd := sc_need_rounds.nd
  refine okF_run (k := 2) T.d_need_rounds sc_need_rounds (fun _ _ _ _ _ _ us hl => match us, hl with | [_], _ => rfl) fun fa cdv A outer s H E hr => ?_
  exact (ss_one (s_if (ct_not (ct_val (CF.cb (c_callO (ok_fits_whole T) hr (by decide) rfl (ca_cons (c_var (pv 0)) (ca_cons c_int (ca_cons (c_gint rfl T.g_HIGH) ca_nil))))))) ss_never ss_nil))
/-! wound_in -/
abbrev n_wound_in : List Str := ["word", "stakes", "start", "at"]
theorem sc_wound_in : FnScope n_wound_in ["word", "stakes", "start"] (defScope (top 18)) := ⟨rfl, rfl, rfl, by decide +kernel, rfl, by decide +kernel, by decide +kernel⟩
theorem ok_wound_in (T : Tops K mg) : OkF P w K mg base 1 "wound_in" ["word", "stakes", "start"] S_wound_in := by
  have nd := sc_wound_in.nd
  refine okF_run (k := 0) T.d_wound_in sc_wound_in (fun _ _ _ _ _ _ us hl => match us, hl with | [_, _, _], _ => rfl) fun fa cdv A outer s H E hr => ?_
  exact (ss_one (s_ret (c_join (by decide +kernel) (CF.cb (CN.cf (c_lc (own := [("at", 3)]) (is := [3]) rfl nd (CI.cj (ci_rng1 rfl T.b_range (CF.cb (c_var (pv 1))))) (blkOk_by (N := n_wound_in) (sc := defScope (top 18)) (by decide +kernel)) (by decide) (fun _ _ _ _ _ => (cg_name (pg_name (i := 3) nd rfl (.inl rfl)))) (fun _ _ _ _ _ => cts_nil) (fun _ _ _ _ _ => (c_ix (CF.cb (c_var (pv 0))) (CF.cb (c_op og_mod (CF.cb (c_op og_add (CF.cb (c_var (pv 2))) (CF.cb (c_var (pv 3))))) (CF.cb (c_b1 bi_len rfl T.b_len boot_len (CF.cb (c_var (pv 0)))))))))))))))
/-! round_in -/
abbrev n_round_in : List Str := ["word", "stakes", "at"]
theorem sc_round_in : FnScope n_round_in ["word", "stakes", "at"] (defScope (top 27)) := ⟨rfl, rfl, rfl, by decide +kernel, rfl, by decide +kernel, by decide +kernel⟩
theorem ok_round_in (T : Tops K mg) : OkF P w K mg base 2 "round_in" ["word", "stakes", "at"] S_round_in := by
  have nd := sc_round_in.nd
  refine okF_run (k := 1) T.d_round_in sc_round_in (fun _ _ _ _ _ _ us hl => match us, hl with | [_, _, _], _ => rfl) fun fa cdv A outer s H E hr => ?_
  exact (ss_one (s_ret (c_callO (ok_wound_in T) hr (by decide) rfl (ca_cons (c_var (pv 0)) (ca_cons (c_var (pv 1)) (ca_cons (c_op og_mod (CF.cb (c_op og_mul (CF.cb (c_var (pv 2))) (CF.cb (c_var (pv 1))))) (CF.cb (c_b1 bi_len rfl T.b_len boot_len (CF.cb (c_var (pv 0)))))) ca_nil))))))
/-! rounds_of -/
abbrev n_rounds_of : List Str := ["one", "other", "stakes", "rounds", "at"]
theorem sc_rounds_of : FnScope n_rounds_of ["one", "other", "stakes", "rounds"] (defScope (top 30)) := ⟨rfl, rfl, rfl, by decide +kernel, rfl, by decide +kernel, by decide +kernel⟩
theorem ok_rounds_of (T : Tops K mg) : OkF P w K mg base 5 "rounds_of" ["one", "other", "stakes", "rounds"] S_rounds_of := by
  have nd := sc_rounds_of.nd
  refine okF_run (k := 4) T.d_rounds_of sc_rounds_of (fun _ _ _ _ _ _ us hl => match us, hl with | [_, _, _, _], _ => rfl) fun fa cdv A outer s H E hr => ?_
  exact (ss_cons (s_expr (ps_expr (c_callO (ok_need_words T) hr (by decide) rfl (ca_cons (c_var (pv 0)) (ca_cons (c_var (pv 1)) ca_nil))))) (ss_cons (s_expr (ps_expr (c_callO (ok_need_stakes T) hr (by decide) rfl (ca_cons (c_var (pv 2)) ca_nil)))) (ss_cons (s_expr (ps_expr (c_callO (ok_need_rounds T) hr (by decide) rfl (ca_cons (c_var (pv 3)) ca_nil)))) (ss_one (s_ret (c_t1 bi_tuple rfl T.b_tuple boot_tuple (CF.cb (CN.cf (c_lc (own := [("at", 4)]) (is := [4]) rfl nd (CI.cj (ci_rng1 rfl T.b_range (CF.cb (c_var (pv 3))))) (blkOk_by (N := n_rounds_of) (sc := defScope (top 30)) (by decide +kernel)) (by decide) (fun _ _ _ _ _ => (cg_name (pg_name (i := 4) nd rfl (.inl rfl)))) (fun _ _ _ _ _ => cts_nil) (fun _ _ _ _ _ => (c_tup (ca_cons (c_callO (ok_round_in T) hr (by decide) rfl (ca_cons (c_var (pv 0)) (ca_cons (c_var (pv 2)) (ca_cons (c_var (pv 4)) ca_nil)))) (ca_cons (c_callO (ok_round_in T) hr (by decide) rfl (ca_cons (c_var (pv 1)) (ca_cons (c_var (pv 2)) (ca_cons (c_var (pv 4)) ca_nil)))) ca_nil)))))))))))))
/-! need_ticks -/
abbrev n_need_ticks : List Str := ["value", "most"]
theorem sc_need_ticks : FnScope n_need_ticks ["value", "most"] (defScope (top 23)) := ⟨rfl, rfl, rfl, by decide +kernel, rfl, by decide +kernel, by decide +kernel⟩
theorem ok_need_ticks (T : Tops K mg) : OkF P w K mg base 3 "need_ticks" ["value", "most"] S_need_ticks := by
  have nd := sc_need_ticks.nd
  refine okF_run (k := 2) T.d_need_ticks sc_need_ticks (fun _ _ _ _ _ _ us hl => match us, hl with | [_, _], _ => rfl) fun fa cdv A outer s H E hr => ?_
  exact (ss_one (s_if (ct_not (ct_val (CF.cb (c_callO (ok_fits_whole T) hr (by decide) rfl (ca_cons (c_var (pv 0)) (ca_cons c_int (ca_cons (c_var (pv 1)) ca_nil))))))) ss_never ss_nil))
/-! alike_stakes -/
abbrev n_alike_stakes : List Str := ["one", "other", "stakes", "at", "rows", "stake", "pair"]
theorem sc_alike_stakes : FnScope n_alike_stakes ["one", "other", "stakes", "at"] (defScope (top 31)) := ⟨rfl, rfl, rfl, by decide +kernel, rfl, by decide +kernel, by decide +kernel⟩
theorem ok_alike_stakes (T : Tops K mg) : OkF P w K mg base 5 "alike_stakes" ["one", "other", "stakes", "at"] S_alike_stakes := by
  have nd := sc_alike_stakes.nd
  refine okF_run (k := 4) T.d_alike_stakes sc_alike_stakes (fun _ _ _ _ _ _ us hl => match us, hl with | [_, _, _, _], _ => rfl) fun fa cdv A outer s H E hr => ?_
  exact (ss_cons (s_expr (ps_expr (c_callO (ok_need_words T) hr (by decide) rfl (ca_cons (c_var (pv 0)) (ca_cons (c_var (pv 1)) ca_nil))))) (ss_cons (s_expr (ps_expr (c_callO (ok_need_stakes T) hr (by decide) rfl (ca_cons (c_var (pv 2)) ca_nil)))) (ss_cons (s_expr (ps_expr (c_callO (ok_need_ticks T) hr (by decide) rfl (ca_cons (c_var (pv 3)) (ca_cons (c_gint rfl T.g_FAR) ca_nil))))) (ss_cons (s_set (ps_set (i := 4) nd rfl (.inl rfl) (CN.cf (c_listZip rfl rfl T.b_list rfl T.b_zip (CF.cb (c_callO (ok_round_in T) hr (by decide) rfl (ca_cons (c_var (pv 0)) (ca_cons (c_var (pv 2)) (ca_cons (c_var (pv 3)) ca_nil))))) (CF.cb (c_callO (ok_round_in T) hr (by decide) rfl (ca_cons (c_var (pv 1)) (ca_cons (c_var (pv 2)) (ca_cons (c_var (pv 3)) ca_nil))))))))) (ss_one (s_ret (c_t1 bi_tuple rfl T.b_tuple boot_tuple (CF.cb (CN.cf (c_lc (own := [("stake", 5), ("pair", 6)]) (is := [5, 6]) rfl nd (cj_enum rfl T.b_enumerate (CF.cb (c_var (pv 4)))) (blkOk_by (N := n_alike_stakes) (sc := defScope (top 31)) (by decide +kernel)) (by decide) (fun _ _ _ _ _ => (cg_tup rfl (cgs_cons (cg_name (pg_name (i := 5) nd rfl (.inl rfl))) (cgs_cons (cg_name (pg_name (i := 6) nd rfl (.inl rfl))) cgs_nil)))) (fun _ _ _ _ _ => (cts_one (ct_cmp (og_eq hr) (CF.cb (c_ix (CF.cb (c_var (pv 6))) (CF.cb c_int))) (CF.cb (c_ix (CF.cb (c_var (pv 6))) (CF.cb c_int)))))) (fun _ _ _ _ _ => (c_var (pv 5)))))))))))))
/-! signs_in -/
abbrev n_signs_in : List Str := ["word", "many"]
theorem sc_signs_in : FnScope n_signs_in ["word", "many"] (defScope (top 25)) := ⟨rfl, rfl, rfl, by decide +kernel, rfl, by decide +kernel, by decide +kernel⟩
theorem ok_signs_in (T : Tops K mg) : OkF P w K mg base 1 "signs_in" ["word", "many"] S_signs_in := by
  have nd := sc_signs_in.nd
  refine okF_run (k := 0) T.d_signs_in sc_signs_in (fun _ _ _ _ _ _ us hl => match us, hl with | [_, _], _ => rfl) fun fa cdv A outer s H E hr => ?_
  exact (ss_one (s_ret (c_sl (CF.cb (c_op og_mul (CF.cb (c_var (pv 0))) (CF.cb (c_op og_add (CF.cb (c_op og_div (CF.cb (c_var (pv 1))) (CF.cb (c_b1 bi_len rfl T.b_len boot_len (CF.cb (c_var (pv 0))))))) (CF.cb c_int))))) co_none (co_some (CF.cb (c_var (pv 1)))))))
/-! alike_in -/
abbrev n_alike_in : List Str := ["one", "other", "size", "rows", "at", "pair"]
theorem sc_alike_in : FnScope n_alike_in ["one", "other"] (defScope (top 26)) := ⟨rfl, rfl, rfl, by decide +kernel, rfl, by decide +kernel, by decide +kernel⟩
theorem ok_alike_in (T : Tops K mg) : OkF P w K mg base 3 "alike_in" ["one", "other"] S_alike_in := by
  have nd := sc_alike_in.nd
  refine okF_run (k := 2) T.d_alike_in sc_alike_in (fun _ _ _ _ _ _ us hl => match us, hl with | [_, _], _ => rfl) fun fa cdv A outer s H E hr => ?_
  exact (ss_cons (s_set (ps_set (i := 2) nd rfl (.inl rfl) (c_callO (ok_together T) hr (by decide) rfl (ca_cons (c_b1 bi_len rfl T.b_len boot_len (CF.cb (c_var (pv 0)))) (ca_cons (c_b1 bi_len rfl T.b_len boot_len (CF.cb (c_var (pv 1)))) ca_nil))))) (ss_cons (s_set (ps_set (i := 3) nd rfl (.inl rfl) (CN.cf (c_listZip rfl rfl T.b_list rfl T.b_zip (CF.cb (c_callO (ok_signs_in T) hr (by decide) rfl (ca_cons (c_var (pv 0)) (ca_cons (c_var (pv 2)) ca_nil)))) (CF.cb (c_callO (ok_signs_in T) hr (by decide) rfl (ca_cons (c_var (pv 1)) (ca_cons (c_var (pv 2)) ca_nil)))))))) (ss_one (s_ret (CN.cf (c_lc (own := [("at", 4), ("pair", 5)]) (is := [4, 5]) rfl nd (cj_enum rfl T.b_enumerate (CF.cb (c_var (pv 3)))) (blkOk_by (N := n_alike_in) (sc := defScope (top 26)) (by decide +kernel)) (by decide) (fun _ _ _ _ _ => (cg_tup rfl (cgs_cons (cg_name (pg_name (i := 4) nd rfl (.inl rfl))) (cgs_cons (cg_name (pg_name (i := 5) nd rfl (.inl rfl))) cgs_nil)))) (fun _ _ _ _ _ => (cts_one (ct_cmp (og_eq hr) (CF.cb (c_ix (CF.cb (c_var (pv 5))) (CF.cb c_int))) (CF.cb (c_ix (CF.cb (c_var (pv 5))) (CF.cb c_int)))))) (fun _ _ _ _ _ => (c_var (pv 4)))))))))
/-! alike_many -/
abbrev n_alike_many : List Str := ["one", "other", "stakes", "rounds", "size", "places", "whole", "rest", "at"]
theorem sc_alike_many : FnScope n_alike_many ["one", "other", "stakes", "rounds"] (defScope (top 34)) := ⟨rfl, rfl, rfl, by decide +kernel, rfl, by decide +kernel, by decide +kernel⟩
theorem ok_alike_many (T : Tops K mg) : OkF P w K mg base 5 "alike_many" ["one", "other", "stakes", "rounds"] S_alike_many := by
  have nd := sc_alike_many.nd
  refine okF_run (k := 4) T.d_alike_many sc_alike_many (fun _ _ _ _ _ _ us hl => match us, hl with | [_, _, _, _], _ => rfl) fun fa cdv A outer s H E hr => ?_
  exact (ss_cons (s_expr (ps_expr (c_callO (ok_need_words T) hr (by decide) rfl (ca_cons (c_var (pv 0)) (ca_cons (c_var (pv 1)) ca_nil))))) (ss_cons (s_expr (ps_expr (c_callO (ok_need_stakes T) hr (by decide) rfl (ca_cons (c_var (pv 2)) ca_nil)))) (ss_cons (s_expr (ps_expr (c_callO (ok_need_ticks T) hr (by decide) rfl (ca_cons (c_var (pv 3)) (ca_cons (c_gint rfl T.g_FAR) ca_nil))))) (ss_cons (s_par (a := .Constant .none 0 ⟨0, 0, 0, 0⟩) (b := .Constant .none 0 ⟨0, 0, 0, 0⟩) (by decide) (ps_par (by rfl) nd rfl rfl (by decide) rfl rfl (pa_cons (c_callO (ok_together T) hr (by decide) rfl (ca_cons (c_b1 bi_len rfl T.b_len boot_len (CF.cb (c_var (pv 0)))) (ca_cons (c_b1 bi_len rfl T.b_len boot_len (CF.cb (c_var (pv 1)))) ca_nil))) (pa_cons (c_callO (ok_alike_in T) hr (by decide) rfl (ca_cons (c_var (pv 0)) (ca_cons (c_var (pv 1)) ca_nil))) pa_nil)) (by rfl))) (ss_cons (s_asg (is := [6, 7]) (ps_asg (c_tup (ca_cons (c_op og_div (CF.cb (c_op og_mul (CF.cb (c_var (pv 3))) (CF.cb (c_var (pv 2))))) (CF.cb (c_var (pv 4)))) (ca_cons (c_op og_mod (CF.cb (c_op og_mul (CF.cb (c_var (pv 3))) (CF.cb (c_var (pv 2))))) (CF.cb (c_var (pv 4)))) ca_nil))) (cg_tup rfl (cgs_cons (cg_name (pg_name (i := 6) nd rfl (.inl rfl))) (cgs_cons (cg_name (pg_name (i := 7) nd rfl (.inr rfl))) cgs_nil))))) (ss_one (s_ret (c_op og_add (CF.cb (c_op og_mul (CF.cb (c_var (pv 6))) (CF.cb (c_b1 bi_len rfl T.b_len boot_len (CF.cb (c_var (pv 5))))))) (CF.cb (c_b1 bi_len rfl T.b_len boot_len (CF.cb (CN.cf (c_lc (own := [("at", 8)]) (is := [8]) rfl nd (cj_seq (CF.cb (c_var (pv 5)))) (blkOk_by (N := n_alike_many) (sc := defScope (top 34)) (by decide +kernel)) (by decide) (fun _ _ _ _ _ => (cg_name (pg_name (i := 8) nd rfl (.inl rfl)))) (fun _ _ _ _ _ => (cts_one (ct_cmp (og_ltX hr) (CF.cb (c_var (pv 8))) (CF.cb (c_var (pv 7)))))) (fun _ _ _ _ _ => (c_var (pv 8))))))))))))))))
/-! firm_behind -/
abbrev n_firm_behind : List Str := ["one", "other", "stakes", "rounds", "rows", "at", "word", "stake", "row"]
theorem sc_firm_behind : FnScope n_firm_behind ["one", "other", "stakes", "rounds"] (defScope (top 32)) := ⟨rfl, rfl, rfl, by decide +kernel, rfl, by decide +kernel, by decide +kernel⟩
theorem ok_firm_behind (T : Tops K mg) : OkF P w K mg base 5 "firm_behind" ["one", "other", "stakes", "rounds"] S_firm_behind := by
  have nd := sc_firm_behind.nd
  refine okF_run (k := 4) T.d_firm_behind sc_firm_behind (fun _ _ _ _ _ _ us hl => match us, hl with | [_, _, _, _], _ => rfl) fun fa cdv A outer s H E hr => ?_
  exact (ss_cons (s_expr (ps_expr (c_callO (ok_need_words T) hr (by decide) rfl (ca_cons (c_var (pv 0)) (ca_cons (c_var (pv 1)) ca_nil))))) (ss_cons (s_expr (ps_expr (c_callO (ok_need_stakes T) hr (by decide) rfl (ca_cons (c_var (pv 2)) ca_nil)))) (ss_cons (s_expr (ps_expr (c_callO (ok_need_rounds T) hr (by decide) rfl (ca_cons (c_var (pv 3)) ca_nil)))) (ss_cons (s_set (ps_set (i := 4) nd rfl (.inr rfl) (CN.cf (c_lc2 (own := [("at", 5), ("word", 6)]) (is := [5]) (is1 := [6]) (vs1 := [6]) rfl nd (CI.cj (ci_rng1 rfl T.b_range (CF.cb (c_var (pv 3))))) (blkOk_by (N := n_firm_behind) (sc := defScope (top 32)) (by decide +kernel)) (by decide) (by decide) (by decide) (fun _ _ _ _ _ => (cg_name (pg_name (i := 5) nd rfl (.inl rfl)))) (fun _ _ _ _ _ => cts_nil) (fun _ _ _ _ _ => (ci_seq (c_tup (ca_cons (c_var (pv 0)) (ca_cons (c_var (pv 1)) ca_nil))))) (fun _ _ _ _ _ => (cg_name (pg_name (i := 6) nd rfl (.inl rfl)))) (fun _ _ _ _ _ => cts_nil) (fun _ _ _ _ _ => (c_callO (ok_round_in T) hr (by decide) rfl (ca_cons (c_var (pv 6)) (ca_cons (c_var (pv 2)) (ca_cons (c_var (pv 5)) ca_nil))))))))) (ss_one (s_ret (c_t1 bi_tuple rfl T.b_tuple boot_tuple (CF.cb (CN.cf (c_lc (own := [("stake", 7)]) (is := [7]) rfl nd (CI.cj (ci_rng1 rfl T.b_range (CF.cb (c_var (pv 2))))) (blkOk_by (N := n_firm_behind) (sc := defScope (top 32)) (by decide +kernel)) (by decide) (fun _ _ _ _ _ => (cg_name (pg_name (i := 7) nd rfl (.inr rfl)))) (fun _ _ _ _ _ => (cts_one (ct_cmp (og_eq hr) (CF.cb (c_lenSet rfl rfl T.b_len rfl T.b_set (CF.cb (CN.cf (c_lc (own := [("row", 8)]) (is := [8]) rfl nd (cj_seq (CF.cb (c_var (pv 4)))) (blkOk_by (N := n_firm_behind) (sc := ⟨.function, [(".0", .local), ("stake", .cell), ("len", .globalImplicit), ("set", .globalImplicit), ("rows", .cell)], false, false, []⟩) (by decide +kernel)) (by decide) (fun _ _ _ _ _ => (cg_name (pg_name (i := 8) nd rfl (.inl rfl)))) (fun _ _ _ _ _ => cts_nil) (fun _ _ _ _ _ => (c_ix (CF.cb (c_var (pv 8))) (CF.cb (c_var (pv 7)))))))))) (CF.cb c_int)))) (fun _ _ _ _ _ => (c_var (pv 7)))))))))))))
/-! rounds_to_firm -/
abbrev n_rounds_to_firm : List Str := ["one", "other", "stakes", "size", "rows", "at", "stake", "row"]
theorem sc_rounds_to_firm : FnScope n_rounds_to_firm ["one", "other", "stakes"] (defScope (top 33)) := ⟨rfl, rfl, rfl, by decide +kernel, rfl, by decide +kernel, by decide +kernel⟩
theorem ok_rounds_to_firm (T : Tops K mg) : OkF P w K mg base 5 "rounds_to_firm" ["one", "other", "stakes"] S_rounds_to_firm := by
  have nd := sc_rounds_to_firm.nd
  refine okF_run (k := 4) T.d_rounds_to_firm sc_rounds_to_firm (fun _ _ _ _ _ _ us hl => match us, hl with | [_, _, _], _ => rfl) fun fa cdv A outer s H E hr => ?_
  exact (ss_cons (s_expr (ps_expr (c_callO (ok_need_words T) hr (by decide) rfl (ca_cons (c_var (pv 0)) (ca_cons (c_var (pv 1)) ca_nil))))) (ss_cons (s_expr (ps_expr (c_callO (ok_need_stakes T) hr (by decide) rfl (ca_cons (c_var (pv 2)) ca_nil)))) (ss_cons (s_asg (is := [3, 4]) (ps_asg (c_tup (ca_cons (c_callO (ok_period_in T) hr (by decide) rfl (ca_cons (c_var (pv 0)) (ca_cons (c_var (pv 1)) (ca_cons (c_var (pv 2)) ca_nil)))) (ca_cons (CN.cf (c_lst ca_nil)) ca_nil))) (cg_tup rfl (cgs_cons (cg_name (pg_name (i := 3) nd rfl (.inl rfl))) (cgs_cons (cg_name (pg_name (i := 4) nd rfl (.inr rfl))) cgs_nil))))) (ss_cons (s_for (is := [5]) PassesOwn.never rfl (ci_rng1 rfl T.b_range (CF.cb (c_var (pv 3)))) (cg_name (pg_name (i := 5) nd rfl (.inl rfl))) (ss_cons (s_set (ps_set (i := 4) nd rfl (.inr rfl) (c_op og_add (CF.cb (c_var (pv 4))) (CF.cb (CN.cf (c_lst (ca_cons (c_callO (ok_round_in T) hr (by decide) rfl (ca_cons (c_var (pv 0)) (ca_cons (c_var (pv 2)) (ca_cons (c_var (pv 5)) ca_nil)))) (ca_cons (c_callO (ok_round_in T) hr (by decide) rfl (ca_cons (c_var (pv 1)) (ca_cons (c_var (pv 2)) (ca_cons (c_var (pv 5)) ca_nil)))) ca_nil)))))))) (ss_one (s_if (ct_val (CF.cb (c_b1 (bi_all rfl) rfl T.b_all boot_all (CF.cb (CN.cf (c_lc (own := [("stake", 6)]) (is := [6]) rfl nd (CI.cj (ci_rng1 rfl T.b_range (CF.cb (c_var (pv 2))))) (blkOk_by (N := n_rounds_to_firm) (sc := defScope (top 33)) (by decide +kernel)) (by decide) (fun _ _ _ _ _ => (cg_name (pg_name (i := 6) nd rfl (.inr rfl)))) (fun _ _ _ _ _ => cts_nil) (fun _ _ _ _ _ => (c_cmp (og_eq hr) (CF.cb (c_lenSet rfl rfl T.b_len rfl T.b_set (CF.cb (CN.cf (c_lc (own := [("row", 7)]) (is := [7]) rfl nd (cj_seq (CF.cb (c_var (pv 4)))) (blkOk_by (N := n_rounds_to_firm) (sc := ⟨.function, [(".0", .local), ("stake", .cell), ("len", .globalImplicit), ("set", .globalImplicit), ("rows", .cell)], false, false, []⟩) (by decide +kernel)) (by decide) (fun _ _ _ _ _ => (cg_name (pg_name (i := 7) nd rfl (.inl rfl)))) (fun _ _ _ _ _ => cts_nil) (fun _ _ _ _ _ => (c_ix (CF.cb (c_var (pv 7))) (CF.cb (c_var (pv 6)))))))))) (CF.cb c_int))))))))) (ss_one (s_ret (c_op og_add (CF.cb (c_var (pv 5))) (CF.cb c_int)))) ss_nil)))) (ss_one (s_ret c_non))))))
/-! law_right -/
abbrev n_law_right : List Str := ["cup", "one", "other", "stakes", "rounds", "size", "period", "long", "first", "second", "at", "rows", "alike", "far", "told", "a", "b", "many", "whole", "times", "seen", "holds", "firm", "count", "now", "stake"]
theorem sc_law_right : FnScope n_law_right ["cup"] (defScope (top 44)) := ⟨rfl, rfl, rfl, by decide +kernel, rfl, by decide +kernel, by decide +kernel⟩
theorem ok_law_right (T : Tops K mg) : OkF P w K mg base 8 "_law_right" ["cup"] S_law_right := by
  have nd := sc_law_right.nd
  refine okF_run (k := 7) T.d_law_right sc_law_right (fun _ _ _ _ _ _ us hl => match us, hl with | [_], _ => rfl) fun fa cdv A outer s H E hr => ?_
  exact (ss_cons (s_asg (is := [1, 2]) (ps_asg (c_callO (ok_law_two T) hr (by decide) rfl (ca_cons (c_var (pv 0)) ca_nil)) (cg_tup rfl (cgs_cons (cg_name (pg_name (i := 1) nd rfl (.inl rfl))) (cgs_cons (cg_name (pg_name (i := 2) nd rfl (.inl rfl))) cgs_nil))))) (ss_cons (s_asg (is := [3, 4]) (ps_asg (c_tup (ca_cons (c_op og_add (CF.cb c_int) (CF.cb (c_callO (ok_law_roll T) hr (by decide) rfl (ca_cons (c_var (pv 0)) (ca_cons c_int ca_nil))))) (ca_cons (c_op og_add (CF.cb c_int) (CF.cb (c_callO (ok_law_roll T) hr (by decide) rfl (ca_cons (c_var (pv 0)) (ca_cons c_int ca_nil))))) ca_nil))) (cg_tup rfl (cgs_cons (cg_name (pg_name (i := 3) nd rfl (.inr rfl))) (cgs_cons (cg_name (pg_name (i := 4) nd rfl (.inl rfl))) cgs_nil))))) (ss_cons (s_par (a := .Constant .none 0 ⟨0, 0, 0, 0⟩) (b := .Constant .none 0 ⟨0, 0, 0, 0⟩) (by decide) (ps_par (by rfl) nd rfl rfl (by decide) rfl rfl (pa_cons (c_callO (ok_law_period T) hr (by decide) rfl (ca_cons (c_var (pv 1)) (ca_cons (c_var (pv 2)) ca_nil))) (pa_cons c_int pa_nil)) (by rfl))) (ss_cons (s_while 400 PassesOwn.never (CW.ct (cw_or (ct_cmp (og_ne hr) (CF.cb (c_op og_mod (CF.cb (c_op og_mul (CF.cb (c_var (pv 6))) (CF.cb (c_var (pv 3))))) (CF.cb (c_b1 bi_len rfl T.b_len boot_len (CF.cb (c_var (pv 1))))))) (CF.cb c_int)) (cw_or1 (ct_cmp (og_ne hr) (CF.cb (c_op og_mod (CF.cb (c_op og_mul (CF.cb (c_var (pv 6))) (CF.cb (c_var (pv 3))))) (CF.cb (c_b1 bi_len rfl T.b_len boot_len (CF.cb (c_var (pv 2))))))) (CF.cb c_int))))) (ss_one (s_set (ps_set (i := 6) nd rfl (.inl rfl) (c_op og_add (CF.cb (c_var (pv 6))) (CF.cb c_int)))))) (ss_cons (s_set (ps_set (i := 7) nd rfl (.inl rfl) (c_op og_mul (CF.cb (c_b2 (bi_maxX2 hr rfl) rfl T.b_max boot_max (CF.cb (c_var (pv 4))) (CF.cb (c_var (pv 6))))) (CF.cb (c_var (pv 3)))))) (ss_cons (s_asg (is := [8, 9]) (ps_asg (c_tup (ca_cons (c_callO (ok_law_gone T) hr (by decide) rfl (ca_cons (c_var (pv 1)) (ca_cons (c_var (pv 7)) ca_nil))) (ca_cons (c_callO (ok_law_gone T) hr (by decide) rfl (ca_cons (c_var (pv 2)) (ca_cons (c_var (pv 7)) ca_nil))) ca_nil))) (cg_tup rfl (cgs_cons (cg_name (pg_name (i := 8) nd rfl (.inr rfl))) (cgs_cons (cg_name (pg_name (i := 9) nd rfl (.inr rfl))) cgs_nil))))) (ss_cons (s_set (ps_set (i := 11) nd rfl (.inr rfl) (CN.cf (c_lc (own := [("at", 10)]) (is := [10]) rfl nd (CI.cj (ci_rng1 rfl T.b_range (CF.cb (c_b2 (bi_maxX2 hr rfl) rfl T.b_max boot_max (CF.cb (c_var (pv 4))) (CF.cb (c_var (pv 6))))))) (blkOk_by (N := n_law_right) (sc := defScope (top 44)) (by decide +kernel)) (by decide) (fun _ _ _ _ _ => (cg_name (pg_name (i := 10) nd rfl (.inl rfl)))) (fun _ _ _ _ _ => cts_nil) (fun _ _ _ _ _ => (c_tup (ca_cons (c_sl (CF.cb (c_var (pv 8))) (co_some (CF.cb (c_op og_mul (CF.cb (c_var (pv 10))) (CF.cb (c_var (pv 3)))))) (co_some (CF.cb (c_op og_mul (CF.cb (c_op og_add (CF.cb (c_var (pv 10))) (CF.cb c_int))) (CF.cb (c_var (pv 3))))))) (ca_cons (c_sl (CF.cb (c_var (pv 9))) (co_some (CF.cb (c_op og_mul (CF.cb (c_var (pv 10))) (CF.cb (c_var (pv 3)))))) (co_some (CF.cb (c_op og_mul (CF.cb (c_op og_add (CF.cb (c_var (pv 10))) (CF.cb c_int))) (CF.cb (c_var (pv 3))))))) ca_nil)))))))) (ss_cons (s_if (ct_not (ct_val (CF.cb (c_callO (ok_law_same T) hr (by decide) rfl (ca_cons (c_tup (ca_cons (c_callO (ok_period_of T) hr (by decide) rfl (ca_cons (c_var (pv 1)) (ca_cons (c_var (pv 2)) (ca_cons (c_var (pv 3)) ca_nil)))) (ca_cons (c_callO (ok_rounds_of T) hr (by decide) rfl (ca_cons (c_var (pv 1)) (ca_cons (c_var (pv 2)) (ca_cons (c_var (pv 3)) (ca_cons (c_var (pv 4)) ca_nil))))) ca_nil))) (ca_cons (c_tup (ca_cons (c_var (pv 6)) (ca_cons (c_t1 bi_tuple rfl T.b_tuple boot_tuple (CF.cb (c_sl (CF.cb (c_var (pv 11))) co_none (co_some (CF.cb (c_var (pv 4))))))) ca_nil))) ca_nil)))))) (ss_one (s_ret c_bl)) ss_nil) (ss_cons (s_set (ps_set (i := 10) nd rfl (.inr rfl) (c_callO (ok_law_roll T) hr (by decide) rfl (ca_cons (c_var (pv 0)) (ca_cons (c_b1 bi_len rfl T.b_len boot_len (CF.cb (c_var (pv 11)))) ca_nil))))) (ss_cons (s_set (ps_set (i := 12) nd rfl (.inl rfl) (c_t1 bi_tuple rfl T.b_tuple boot_tuple (CF.cb (CN.cf (c_lc (own := [("stake", 25)]) (is := [25]) rfl nd (CI.cj (ci_rng1 rfl T.b_range (CF.cb (c_var (pv 3))))) (blkOk_by (N := n_law_right) (sc := defScope (top 44)) (by decide +kernel)) (by decide) (fun _ _ _ _ _ => (cg_name (pg_name (i := 25) nd rfl (.inl rfl)))) (fun _ _ _ _ _ => (cts_one (ct_cmp (og_eq hr) (CF.cb (c_ix (CF.cb (c_ix (CF.cb (c_ix (CF.cb (c_var (pv 11))) (CF.cb (c_var (pv 10))))) (CF.cb c_int))) (CF.cb (c_var (pv 25))))) (CF.cb (c_ix (CF.cb (c_ix (CF.cb (c_ix (CF.cb (c_var (pv 11))) (CF.cb (c_var (pv 10))))) (CF.cb c_int))) (CF.cb (c_var (pv 25)))))))) (fun _ _ _ _ _ => (c_var (pv 25))))))))) (ss_cons (s_set (ps_set (i := 13) nd rfl (.inl rfl) (c_op og_add (CF.cb (c_op og_mod (CF.cb (c_var (pv 10))) (CF.cb (c_var (pv 6))))) (CF.cb (c_op og_mul (CF.cb (c_var (pv 6))) (CF.cb (c_callO (ok_law_roll T) hr (by decide) rfl (ca_cons (c_var (pv 0)) (ca_cons c_int ca_nil))))))))) (ss_cons (s_set (ps_set (i := 14) nd rfl (.inl rfl) (c_tup (ca_cons (c_callO (ok_alike_stakes T) hr (by decide) rfl (ca_cons (c_var (pv 1)) (ca_cons (c_var (pv 2)) (ca_cons (c_var (pv 3)) (ca_cons (c_var (pv 10)) ca_nil))))) (ca_cons (c_callO (ok_alike_stakes T) hr (by decide) rfl (ca_cons (c_var (pv 1)) (ca_cons (c_var (pv 2)) (ca_cons (c_var (pv 3)) (ca_cons (c_var (pv 13)) ca_nil))))) ca_nil))))) (ss_cons (s_if (ct_not (ct_val (CF.cb (c_callO (ok_law_same T) hr (by decide) rfl (ca_cons (c_var (pv 14)) (ca_cons (c_tup (ca_cons (c_var (pv 12)) (ca_cons (c_var (pv 12)) ca_nil))) ca_nil)))))) (ss_one (s_ret c_bl)) ss_nil) (ss_cons (s_set (ps_set (i := 17) nd rfl (.inl rfl) (c_b1 bi_len rfl T.b_len boot_len (CF.cb (CN.cf (c_lc (own := [("a", 15), ("b", 16)]) (is := [15, 16]) rfl nd (cj_zip rfl T.b_zip (CF.cb (c_sl (CF.cb (c_var (pv 8))) co_none (co_some (CF.cb (c_op og_mul (CF.cb (c_var (pv 4))) (CF.cb (c_var (pv 3)))))))) (CF.cb (c_sl (CF.cb (c_var (pv 9))) co_none (co_some (CF.cb (c_op og_mul (CF.cb (c_var (pv 4))) (CF.cb (c_var (pv 3))))))))) (blkOk_by (N := n_law_right) (sc := defScope (top 44)) (by decide +kernel)) (by decide) (fun _ _ _ _ _ => (cg_tup rfl (cgs_cons (cg_name (pg_name (i := 15) nd rfl (.inl rfl))) (cgs_cons (cg_name (pg_name (i := 16) nd rfl (.inl rfl))) cgs_nil)))) (fun _ _ _ _ _ => (cts_one (ct_cmp (og_eq hr) (CF.cb (c_var (pv 15))) (CF.cb (c_var (pv 16)))))) (fun _ _ _ _ _ => c_int))))))) (ss_cons (s_set (ps_set (i := 18) nd rfl (.inl rfl) (c_b1 bi_len rfl T.b_len boot_len (CF.cb (CN.cf (c_lc (own := [("a", 15), ("b", 16)]) (is := [15, 16]) rfl nd (cj_zip rfl T.b_zip (CF.cb (c_callO (ok_law_gone T) hr (by decide) rfl (ca_cons (c_var (pv 1)) (ca_cons (c_var (pv 5)) ca_nil)))) (CF.cb (c_callO (ok_law_gone T) hr (by decide) rfl (ca_cons (c_var (pv 2)) (ca_cons (c_var (pv 5)) ca_nil))))) (blkOk_by (N := n_law_right) (sc := defScope (top 44)) (by decide +kernel)) (by decide) (fun _ _ _ _ _ => (cg_tup rfl (cgs_cons (cg_name (pg_name (i := 15) nd rfl (.inl rfl))) (cgs_cons (cg_name (pg_name (i := 16) nd rfl (.inl rfl))) cgs_nil)))) (fun _ _ _ _ _ => (cts_one (ct_cmp (og_eq hr) (CF.cb (c_var (pv 15))) (CF.cb (c_var (pv 16)))))) (fun _ _ _ _ _ => c_int))))))) (ss_cons (s_set (ps_set (i := 19) nd rfl (.inl rfl) (c_callO (ok_law_roll T) hr (by decide) rfl (ca_cons (c_var (pv 0)) (ca_cons c_int ca_nil))))) (ss_cons (s_set (ps_set (i := 14) nd rfl (.inl rfl) (c_tup (ca_cons (c_callO (ok_alike_many T) hr (by decide) rfl (ca_cons (c_var (pv 1)) (ca_cons (c_var (pv 2)) (ca_cons (c_var (pv 3)) (ca_cons (c_var (pv 4)) ca_nil))))) (ca_cons (c_callO (ok_alike_many T) hr (by decide) rfl (ca_cons (c_var (pv 1)) (ca_cons (c_var (pv 2)) (ca_cons (c_var (pv 3)) (ca_cons (c_op og_mul (CF.cb (c_var (pv 6))) (CF.cb (c_var (pv 19)))) ca_nil))))) ca_nil))))) (ss_cons (s_if (ct_not (ct_val (CF.cb (c_callO (ok_law_same T) hr (by decide) rfl (ca_cons (c_var (pv 14)) (ca_cons (c_tup (ca_cons (c_var (pv 17)) (ca_cons (c_op og_mul (CF.cb (c_op og_div (CF.cb (c_op og_mul (CF.cb (c_op og_mul (CF.cb (c_var (pv 6))) (CF.cb (c_var (pv 19))))) (CF.cb (c_var (pv 3))))) (CF.cb (c_var (pv 5))))) (CF.cb (c_var (pv 18)))) ca_nil))) ca_nil)))))) (ss_one (s_ret c_bl)) ss_nil) (ss_cons (s_asg (is := [20, 21, 22]) (ps_asg (c_tup (ca_cons (CN.cf (c_opN on_rep (CF.cb (CN.cf (c_lst (ca_cons (c_str []) ca_nil)))) (CF.cb (c_var (pv 3))))) (ca_cons c_non (ca_cons (c_tup ca_nil) ca_nil)))) (cg_tup rfl (cgs_cons (cg_name (pg_name (i := 20) nd rfl (.inr rfl))) (cgs_cons (cg_name (pg_name (i := 21) nd rfl (.inl rfl))) (cgs_cons (cg_name (pg_name (i := 22) nd rfl (.inl rfl))) cgs_nil)))))) (ss_cons (s_for (is := [23, 15, 16]) PassesOwn.never rfl (ci_enum rfl T.b_enumerate (c_var (pv 11))) (cg_tup rfl (cgs_cons (cg_name (pg_name (i := 23) nd rfl (.inl rfl))) (cgs_cons (cg_tup rfl (cgs_cons (cg_name (pg_name (i := 15) nd rfl (.inr rfl))) (cgs_cons (cg_name (pg_name (i := 16) nd rfl (.inr rfl))) cgs_nil))) cgs_nil))) (ss_cons (s_set (ps_set (i := 20) nd rfl (.inr rfl) (CN.cf (c_lc (own := [("stake", 25)]) (is := [25]) rfl nd (CI.cj (ci_rng1 rfl T.b_range (CF.cb (c_var (pv 3))))) (blkOk_by (N := n_law_right) (sc := defScope (top 44)) (by decide +kernel)) (by decide) (fun _ _ _ _ _ => (cg_name (pg_name (i := 25) nd rfl (.inl rfl)))) (fun _ _ _ _ _ => cts_nil) (fun _ _ _ _ _ => (c_op og_add (CF.cb (c_op og_add (CF.cb (c_ix (CF.cb (c_var (pv 20))) (CF.cb (c_var (pv 25))))) (CF.cb (c_ix (CF.cb (c_var (pv 15))) (CF.cb (c_var (pv 25))))))) (CF.cb (c_ix (CF.cb (c_var (pv 16))) (CF.cb (c_var (pv 25))))))))))) (ss_cons (s_set (ps_set (i := 24) nd rfl (.inl rfl) (c_t1 bi_tuple rfl T.b_tuple boot_tuple (CF.cb (CN.cf (c_lc (own := [("stake", 25)]) (is := [25]) rfl nd (CI.cj (ci_rng1 rfl T.b_range (CF.cb (c_var (pv 3))))) (blkOk_by (N := n_law_right) (sc := defScope (top 44)) (by decide +kernel)) (by decide) (fun _ _ _ _ _ => (cg_name (pg_name (i := 25) nd rfl (.inl rfl)))) (fun _ _ _ _ _ => (cts_one (CW.ct (cw_and (ct_cmp (og_in hr) (CF.cb (c_str [105])) (CF.cb (c_ix (CF.cb (c_var (pv 20))) (CF.cb (c_var (pv 25)))))) (cw_and1 (ct_cmp (og_in hr) (CF.cb (c_str [111])) (CF.cb (c_ix (CF.cb (c_var (pv 20))) (CF.cb (c_var (pv 25))))))))))) (fun _ _ _ _ _ => (c_var (pv 25))))))))) (ss_cons (s_set (ps_set (i := 21) nd rfl (.inl rfl) (c_if (CW.ct (cw_and (ct_cmp og_is (CF.cb (c_var (pv 21))) (CF.cb c_non)) (cw_and (ct_cmp (og_eq hr) (CF.cb (c_b1 bi_len rfl T.b_len boot_len (CF.cb (c_var (pv 24))))) (CF.cb (c_var (pv 3)))) (cw_and1 (ct_cmp (og_ltX hr) (CF.cb (c_var (pv 23))) (CF.cb (c_var (pv 6)))))))) (c_op og_add (CF.cb (c_var (pv 23))) (CF.cb c_int)) (c_var (pv 21))))) (ss_one (s_set (ps_set (i := 22) nd rfl (.inl rfl) (c_if (ct_cmp (og_eq hr) (CF.cb (c_var (pv 23))) (CF.cb (c_op og_sub (CF.cb (c_var (pv 4))) (CF.cb c_int)))) (c_var (pv 24)) (c_var (pv 22)))))))))) (ss_one (s_ret (c_callO (ok_law_same T) hr (by decide) rfl (ca_cons (c_tup (ca_cons (c_callO (ok_firm_behind T) hr (by decide) rfl (ca_cons (c_var (pv 1)) (ca_cons (c_var (pv 2)) (ca_cons (c_var (pv 3)) (ca_cons (c_var (pv 4)) ca_nil))))) (ca_cons (c_callO (ok_rounds_to_firm T) hr (by decide) rfl (ca_cons (c_var (pv 1)) (ca_cons (c_var (pv 2)) (ca_cons (c_var (pv 3)) ca_nil)))) ca_nil))) (ca_cons (c_tup (ca_cons (c_var (pv 22)) (ca_cons (c_var (pv 21)) ca_nil))) ca_nil)))))))))))))))))))))))))
/-! law -/
abbrev n_law : List Str := ["script", "cup", "turn", "stakes", "word", "other", "told", "sign", "at"]
theorem sc_law : FnScope n_law ["script"] (defScope (top 45)) := ⟨rfl, rfl, rfl, by decide +kernel, rfl, by decide +kernel, by decide +kernel⟩
theorem ok_law (T : Tops K mg) (hb : (lawM 7 B_law).All isTrue1) {fa : Addr} {fd : FuncData} (F : FunD K "law" "law" (defArgs (top 45)) (defBody (top 45)) (defScope (top 45)) [] [] fa fd) : FnOk P w K mg base CX0 9 fa fd ["script"] (spLaw K) := by
  have nd := sc_law.nd
  refine fn_law (k := 8) F sc_law rfl hb fun cdv A outer s H E hr => ⟨?_, ?_⟩
  · obtain ⟨fc, fdc, hmc, kp, bc, Fc⟩ := ok_law_cup (P := P) (w := w) (base := base) T
    exact ps_set (i := 1) nd rfl (.inl rfl) (pe_call (Fc.mono (by decide : 1 ≤ 8)) hr rfl hmc kp bc .nil pass0 (pa_cons (pv 0) pa_nil))
  · exact (ss_cons (s_for (is := [2]) PassesOwn.never rfl (ci_rng1 rfl T.b_range (CF.cb c_int)) (cg_name (pg_name (i := 2) nd rfl (.inl rfl))) (ss_one (s_if (ct_not (ct_val (CF.cb (c_callO (ok_law_right T) hr (by decide) rfl (ca_cons (c_var (pv 1)) ca_nil))))) (ss_one (s_ret c_bl)) ss_nil))) (ss_cons (s_par (a := .Constant .none 0 ⟨0, 0, 0, 0⟩) (b := .Constant .none 0 ⟨0, 0, 0, 0⟩) (by decide) (ps_par (by rfl) nd rfl rfl (by decide) rfl rfl (pa_cons (c_op og_add (CF.cb c_int) (CF.cb (c_callO (ok_law_roll T) hr (by decide) rfl (ca_cons (c_var (pv 1)) (ca_cons c_int ca_nil))))) (pa_cons (c_callO (ok_law_signs T) hr (by decide) rfl (ca_cons (c_var (pv 1)) (ca_cons (c_op og_add (CF.cb c_int) (CF.cb (c_callO (ok_law_roll T) hr (by decide) rfl (ca_cons (c_var (pv 1)) (ca_cons c_int ca_nil))))) ca_nil))) pa_nil)) (by rfl))) (ss_cons (s_set (ps_set (i := 5) nd rfl (.inl rfl) (c_join (by decide +kernel) (CF.cb (CN.cf (c_lc (own := [("sign", 7)]) (is := [7]) rfl nd (cj_seq (CF.cb (c_var (pv 4)))) (blkOk_by (N := n_law) (sc := defScope (top 45)) (by decide +kernel)) (by decide) (fun _ _ _ _ _ => (cg_name (pg_name (i := 7) nd rfl (.inl rfl)))) (fun _ _ _ _ _ => cts_nil) (fun _ _ _ _ _ => (c_if (ct_cmp (og_eq hr) (CF.cb (c_var (pv 7))) (CF.cb (c_str [105]))) (c_str [111]) (c_str [105]))))))))) (ss_cons (s_set (ps_set (i := 6) nd rfl (.inl rfl) (c_tup (ca_cons (c_callO (ok_rounds_to_firm T) hr (by decide) rfl (ca_cons (c_var (pv 4)) (ca_cons (c_var (pv 5)) (ca_cons (c_var (pv 3)) ca_nil)))) (ca_cons (c_callO (ok_alike_many T) hr (by decide) rfl (ca_cons (c_var (pv 4)) (ca_cons (c_var (pv 5)) (ca_cons (c_var (pv 3)) (ca_cons c_int ca_nil))))) (ca_cons (c_callO (ok_alike_stakes T) hr (by decide) rfl (ca_cons (c_var (pv 4)) (ca_cons (c_var (pv 4)) (ca_cons (c_var (pv 3)) (ca_cons c_int ca_nil))))) ca_nil)))))) (ss_one (s_ret (c_callO (ok_law_same T) hr (by decide) rfl (ca_cons (c_var (pv 6)) (ca_cons (c_tup (ca_cons c_int (ca_cons c_int (ca_cons (c_t1 bi_tuple rfl T.b_tuple boot_tuple (CF.cb (CN.cf (c_lc (own := [("at", 8)]) (is := [8]) rfl nd (CI.cj (ci_rng1 rfl T.b_range (CF.cb (c_var (pv 3))))) (blkOk_by (N := n_law) (sc := defScope (top 45)) (by decide +kernel)) (by decide) (fun _ _ _ _ _ => (cg_name (pg_name (i := 8) nd rfl (.inl rfl)))) (fun _ _ _ _ _ => cts_nil) (fun _ _ _ _ _ => (c_var (pv 8))))))) ca_nil)))) ca_nil)))))))))
end
end K93
end

section
set_option Elab.async false
set_option linter.all false
set_option maxRecDepth 100000
set_option maxHeartbeats 4000000
namespace K93
open WK
def T_law_some (things : List Nat) : M Ch := ((lenS things).bind fun x => roll x).bind fun y => ixS things y
theorem t_law_some (things : List Nat) : Rf RE (S_law_some [En.e (Cup.mk : Cup), En.e (things : List Nat)]) (T_law_some things) := by
  unfold T_law_some S_law_some
  exact run_go (p := [some (.fz (En.e (Cup.mk : Cup))), some (.fz (En.e (things : List Nat)))]) (xs_ret (xo_p (x_var (things : List Nat) rfl) (xg_m (xa (xf_p (x_var (Cup.mk : Cup) rfl) (xf_m (xu (xg_p (x_var (things : List Nat) rfl) (r_lenS _))) fun x => (xf_nil (r_roll _ _))))) fun y => (r_ixS _ _))) (fun _ => rfl)) rfl rfl
def T_law_signs (many : Int) : M (List Nat) := ((rg1 many).bind fun xs => lcM xs (fun (sign : Int) => M.ret true) (fun (sign : Int) => T_law_some ([105, 111] : List Nat))).bind fun x => joinC x
theorem t_law_signs (many : Int) : Rf RE (S_law_signs [En.e (Cup.mk : Cup), En.e (many : Int)]) (T_law_signs many) := by
  unfold T_law_signs S_law_signs
  exact run_go (p := [some (.fz (En.e (Cup.mk : Cup))), some (.fz (En.e (many : Int))), some .no]) (xs_ret (xu (xg_m (x_lcG (p' := fun (sign : Int) => [some (.fz (En.e (Cup.mk : Cup))), some (.fz (En.e (many : Int))), some (.fz (En.e (sign : Int)))]) (wi_r1 (x_var (many : Int) rfl)) (xt_name (fun _ => rfl) (lt_ok rfl)) (fun (sign : Int) => x_c true rfl) (fun (sign : Int) => (xa (xf_p (x_var (Cup.mk : Cup) rfl) (xf_p (x_c ([105, 111] : List Nat) rfl) (xf_nil (t_law_some _))))))) fun x => (r_joinC _))) (fun _ => rfl)) rfl rfl
def T_law_some_LS (things : List (List Nat)) : M (List Nat) := (roll (things.length : Int)).bind fun y => ixL things y
theorem t_law_some_LS (things : List (List Nat)) : Rf RE (S_law_some [En.e (Cup.mk : Cup), En.e (things : List (List Nat))]) (T_law_some_LS things) := by
  unfold T_law_some_LS S_law_some
  exact run_go (p := [some (.fz (En.e (Cup.mk : Cup))), some (.fz (En.e (things : List (List Nat))))]) (xs_ret (xo_p (x_var (things : List (List Nat)) rfl) (xg_m (xa (xf_p (x_var (Cup.mk : Cup) rfl) (xf_p (xu (xg_p (x_var (things : List (List Nat)) rfl) (r_lenL _))) (xf_nil (r_roll _ _))))) fun y => (r_ixL _ _))) (fun _ => rfl)) rfl rfl
def T_law_two  : M (P2 (List Nat) (List Nat)) := (((roll (12 : Int)).bind fun y => M.ret ((1 : Int) + y)).bind fun x => T_law_signs x).bind fun (one : List Nat) => (M.ret (dictT ([⟨[111], [105]⟩, ⟨[105], [111]⟩] : List (P2 (List Nat) (List Nat))))).bind fun (table : List (P2 (List Nat) (List Nat))) => ((lenS one).bind fun x1 => roll x1).bind fun (at1 : Int) => ((((roll (12 : Int)).bind fun y1 => M.ret ((1 : Int) + y1)).bind fun x2 => T_law_signs x2).bind fun x6 => ((slS one (some at1) none).bind fun x3 => (slS one none (some at1)).bind fun y2 => addS x3 y2).bind fun x7 => (((chs one).bind fun xs => lcM xs (fun (sign : Ch) => M.ret true) (fun (sign : Ch) => (M.ret table).bind fun m_ => (M.ret [sign.c]).bind fun k_ => getM m_ k_)).bind fun x4 => joinS x4).bind fun x8 => ((slS one none (some (6 : Int))).bind fun x5 => mulS x5 (2 : Int)).bind fun x9 => M.ret ([x6, x7, x8, x9] : List (List Nat))).bind fun (some1 : List (List Nat)) => (T_law_some_LS some1).bind fun x10 => M.ret (⟨one, x10⟩ : P2 (List Nat) (List Nat))
theorem t_law_two  : Rf RE (S_law_two [En.e (Cup.mk : Cup)]) (T_law_two ) := by
  unfold T_law_two S_law_two
  exact run_go (p := [some (.fz (En.e (Cup.mk : Cup))), some .no, some .no, some .no, some .no, some .no]) (xs_seq (xs_asg (fun (one : List Nat) => [some (.fz (En.e (Cup.mk : Cup))), some (.fz (En.e (one : List Nat))), some .no, some .no, some .no, some .no]) (xa (xf_p (x_var (Cup.mk : Cup) rfl) (xf_m (xo_p (x_c (1 : Int) rfl) (xg_m (xa (xf_p (x_var (Cup.mk : Cup) rfl) (xf_p (x_c (12 : Int) rfl) (xf_nil (r_roll _ _))))) fun y => (r_addI _ _))) fun x => (xf_nil (t_law_signs _))))) (fun _ => rfl) (lt_ok rfl) (fun (one : List Nat) => (xc_sk (xs_seq (xs_ownD (fun (table : List (P2 (List Nat) (List Nat))) => [some (.fz (En.e (Cup.mk : Cup))), some (.fz (En.e (one : List Nat))), some (.od (mk (table : List (P2 (List Nat) (List Nat)))) (mv (table : List (P2 (List Nat) (List Nat))))), some .no, some .no, some .no]) (xd_disp (xfd_p (x_cast (a := ((Ch.mk 111) : Ch)) (b := ([111] : List Nat)) rfl (x_c (Ch.mk 111) rfl)) (xfd_p (x_cast (a := ((Ch.mk 105) : Ch)) (b := ([105] : List Nat)) rfl (x_c (Ch.mk 105) rfl)) (xfd_p (x_cast (a := ((Ch.mk 105) : Ch)) (b := ([105] : List Nat)) rfl (x_c (Ch.mk 105) rfl)) (xfd_p (x_cast (a := ((Ch.mk 111) : Ch)) (b := ([111] : List Nat)) rfl (x_c (Ch.mk 111) rfl)) (xfd_nil (r_disp ([⟨[111], [105]⟩, ⟨[105], [111]⟩] : List (P2 (List Nat) (List Nat))) rfl))))))) (fun _ => rfl) (lt_ok rfl) (fun (table : List (P2 (List Nat) (List Nat))) => (xc_sk (xs_seq (xs_asg (fun (at1 : Int) => [some (.fz (En.e (Cup.mk : Cup))), some (.fz (En.e (one : List Nat))), some (.od (mk (table : List (P2 (List Nat) (List Nat)))) (mv (table : List (P2 (List Nat) (List Nat))))), some (.fz (En.e (at1 : Int))), some .no, some .no]) (xa (xf_p (x_var (Cup.mk : Cup) rfl) (xf_m (xu (xg_p (x_var (one : List Nat) rfl) (r_lenS _))) fun x1 => (xf_nil (r_roll _ _))))) (fun _ => rfl) (lt_ok rfl) (fun (at1 : Int) => (xc_sk (xs_seq (xs_asg (fun (some1 : List (List Nat)) => [some (.fz (En.e (Cup.mk : Cup))), some (.fz (En.e (one : List Nat))), some (.od (mk (table : List (P2 (List Nat) (List Nat)))) (mv (table : List (P2 (List Nat) (List Nat))))), some (.fz (En.e (at1 : Int))), some (.fz (En.e (some1 : List (List Nat)))), some .no]) (xa (xf_m (xa (xf_p (x_var (Cup.mk : Cup) rfl) (xf_m (xo_p (x_c (1 : Int) rfl) (xg_m (xa (xf_p (x_var (Cup.mk : Cup) rfl) (xf_p (x_c (12 : Int) rfl) (xf_nil (r_roll _ _))))) fun y1 => (r_addI _ _))) fun x2 => (xf_nil (t_law_signs _))))) fun x6 => (xf_m (xo_m (x_sl_p (x_var (one : List Nat) rfl) (xp_p (x_var (at1 : Int) rfl)) xp_no (r_slS _ _ _)) fun x3 => xg_m (x_sl_p (x_var (one : List Nat) rfl) xp_no (xp_p (x_var (at1 : Int) rfl)) (r_slS _ _ _)) fun y2 => (r_addS _ _)) fun x7 => (xf_m (xu (xg_m (x_lcG (p' := fun (sign : Ch) => [some (.fz (En.e (Cup.mk : Cup))), some (.fz (En.e (one : List Nat))), some (.od (mk (table : List (P2 (List Nat) (List Nat)))) (mv (table : List (P2 (List Nat) (List Nat))))), some (.fz (En.e (at1 : Int))), some .no, some (.fz (En.e (sign : Ch)))]) (wi_str (x_var (one : List Nat) rfl)) (xt_name (fun _ => rfl) (lt_ok rfl)) (fun (sign : Ch) => x_c true rfl) (fun (sign : Ch) => (x_dget (xd_bor (m := (table : List (P2 (List Nat) (List Nat)))) rfl) (x_cast (a := (sign : Ch)) (b := ([sign.c] : List Nat)) rfl (x_var (sign : Ch) rfl))))) fun x4 => (r_joinS _))) fun x8 => (xf_m (xo_m (x_sl_p (x_var (one : List Nat) rfl) xp_no (xp_p (x_c (6 : Int) rfl)) (r_slS _ _ _)) fun x5 => xg_p (x_c (2 : Int) rfl) (r_mulS _ _)) fun x9 => (xf_nil (r_lst ([x6, x7, x8, x9] : List (List Nat)) rfl))))))) (fun _ => rfl) (lt_ok rfl) (fun (some1 : List (List Nat)) => (xc_sk (xs_ret (xa (xf_p (x_var (one : List Nat) rfl) (xf_m (xa (xf_p (x_var (Cup.mk : Cup) rfl) (xf_p (x_var (some1 : List (List Nat)) rfl) (xf_nil (t_law_some_LS _))))) fun x10 => (xf_nil (r_tup2 _ _))))) (fun _ => rfl)))))))))))))))))) rfl rfl
def T_law_period (one : List Nat) (other : List Nat) : M Int := (whileN (σ := Int) (fun (s : Int) => (((lenS one).bind fun y => modI s y).bind fun x => M.ret (!decide (x = (0 : Int)))).bind fun b_ => if b_ = true then M.ret true else ((lenS other).bind fun y1 => modI s y1).bind fun x1 => M.ret (!decide (x1 = (0 : Int)))) (fun (s : Int) => (M.ret (s + (1 : Int))).bind fun (many1 : Int) => M.ret many1) 400 (1 : Int)).bind fun (s : Int) => M.ret s
theorem t_law_period (one : List Nat) (other : List Nat) : Rf RE (S_law_period [En.e (one : List Nat), En.e (other : List Nat)]) (T_law_period one other) := by
  unfold T_law_period S_law_period
  exact run_go (p := [some (.fz (En.e (one : List Nat))), some (.fz (En.e (other : List Nat))), some .no]) (xs_seq (xs_asg_p [some (.fz (En.e (one : List Nat))), some (.fz (En.e (other : List Nat))), some (.fz (En.e ((1 : Int) : Int)))] (x_c (1 : Int) rfl) rfl (lt_ok rfl) (xc_sk (xs_seq (xs_whileN (σ := Int) (1 : Int) (fun (s : Int) => [some (.fz (En.e (one : List Nat))), some (.fz (En.e (other : List Nat))), some (.fz (En.e (s : Int)))]) (.k (.k (.k .n))) (fun (s : Int) => (xr_m (xo_m (xo_p (x_var (s : Int) rfl) (xg_m (xu (xg_p (x_var (one : List Nat) rfl) (r_lenS _))) fun y => (r_modI _ _))) fun x => xg_p (x_c (0 : Int) rfl) (r_ne (α := Int) _ _)) (xo_m (xo_p (x_var (s : Int) rfl) (xg_m (xu (xg_p (x_var (other : List Nat) rfl) (r_lenS _))) fun y1 => (r_modI _ _))) fun x1 => xg_p (x_c (0 : Int) rfl) (r_ne (α := Int) _ _)))) (fun (s : Int) => (xs_asg (fun (many1 : Int) => [some (.fz (En.e (one : List Nat))), some (.fz (En.e (other : List Nat))), some (.fz (En.e (many1 : Int)))]) (xo_p (x_var (s : Int) rfl) (xg_p (x_c (1 : Int) rfl) (r_addI _ _))) (fun _ => rfl) (lt_ok rfl) (fun (many1 : Int) => (xc_nxN (s := many1) (.k (.k (.k .n))))))) (fun (s : Int) => (xc_sk (xs_ret (x_var (s : Int) rfl) (fun _ => rfl))))))))) rfl rfl
def T_law_gone (word : List Nat) (many : Int) : M (List Nat) := (M.ret (⟨([] : List Nat), (0 : Int)⟩ : P2 (List Nat) Int)).bind fun (x : P2 (List Nat) Int) => (rg1 many).bind fun (xs : List Int) => (foldT (σ := (List Nat) × Int) (fun (place : Int) (s : (List Nat) × Int) => (((ixS word s.2).bind fun (x_ : Ch) => M.ret [x_.c]).bind fun y2 => addS s.1 y2).bind fun (found1 : List Nat) => (((lenS word).bind fun y3 => M.ret (decide ((s.2 + (1 : Int)) < y3))).bind fun b_ => if b_ = true then M.ret (s.2 + (1 : Int)) else M.ret (0 : Int)).bind fun (at2 : Int) => M.ret (found1, at2)) xs (x.a, x.b)).bind fun (s : (List Nat) × Int) => M.ret s.1
theorem t_law_gone (word : List Nat) (many : Int) : Rf RE (S_law_gone [En.e (word : List Nat), En.e (many : Int)]) (T_law_gone word many) := by
  unfold T_law_gone S_law_gone
  exact run_go (p := [some (.fz (En.e (word : List Nat))), some (.fz (En.e (many : Int))), some .no, some .no, some .no]) (xs_seq (xs_asgT (fun (x : P2 (List Nat) Int) => [some (.fz (En.e (word : List Nat))), some (.fz (En.e (many : Int))), some (.fz (En.e (x.a : List Nat))), some (.fz (En.e (x.b : Int))), some .no]) (xa (xf_p (x_c ([] : List Nat) rfl) (xf_p (x_c (0 : Int) rfl) (xf_nil (r_tup2 _ _))))) (xt_two (fun _ => rfl) (lt_ok rfl) (lt_ok rfl)) (fun (x : P2 (List Nat) Int) => (xc_sk (xs_seq (xs_forN (σ := (List Nat) × Int) (x.a, x.b) (fun (s : (List Nat) × Int) => [some (.fz (En.e (word : List Nat))), some (.fz (En.e (many : Int))), some (.fz (En.e (s.1 : List Nat))), some (.fz (En.e (s.2 : Int))), none]) (fun (place : Int) (s : (List Nat) × Int) => [some (.fz (En.e (word : List Nat))), some (.fz (En.e (many : Int))), some (.fz (En.e (s.1 : List Nat))), some (.fz (En.e (s.2 : Int))), some (.fz (En.e (place : Int)))]) (wi_r1 (x_var (many : Int) rfl)) (.k (.k (.k (.k (.d .n))))) (fun _ => (xt_name (fun _ => rfl) (lt_ok rfl))) (fun (place : Int) (s : (List Nat) × Int) => (xs_par (fun (found1 : List Nat) (at2 : Int) => [some (.fz (En.e (word : List Nat))), some (.fz (En.e (many : Int))), some (.fz (En.e (found1 : List Nat))), some (.fz (En.e (at2 : Int))), some (.fz (En.e (place : Int)))]) (xo_p (x_var (s.1 : List Nat) rfl) (xg_m (x_castM (fun (x_ : Ch) => ([x_.c] : List Nat)) (fun _ => rfl) (xo_p (x_var (word : List Nat) rfl) (xg_p (x_var (s.2 : Int) rfl) (r_ixS _ _)))) fun y2 => (r_addS _ _))) (xi_m (xo_p (xo_p (x_var (s.2 : Int) rfl) (xg_p (x_c (1 : Int) rfl) (r_addI _ _))) (xg_m (xu (xg_p (x_var (word : List Nat) rfl) (r_lenS _))) fun y3 => (r_ltXI _ _))) (xo_p (x_var (s.2 : Int) rfl) (xg_p (x_c (1 : Int) rfl) (r_addI _ _))) (x_c (0 : Int) rfl)) (fun _ _ => rfl) (lt_ok rfl) (lt_ok rfl) (fun (found1 : List Nat) (at2 : Int) => (xc_nxN (s := (found1, at2)) (.k (.k (.k (.k (.d .n))))))))) (fun (s : (List Nat) × Int) => (xc_sk (xs_ret (x_var (s.1 : List Nat) rfl) (fun _ => rfl)))))))))) rfl rfl
def T_fits_signs (value : List Nat) (least : Int) (most : Int) : M Bool := ((lenS value).bind fun y => if decide (least ≤ y) = true then M.ret (decide (y ≤ most)) else M.ret false).bind fun b_ => if b_ = true then ((chs value).bind fun xs => lcA xs (fun (sign : Ch) => (decide (sign.c ∈ ([105, 111] : List Nat))))).bind fun x => M.ret (x.all id) else M.ret false
theorem t_fits_signs (value : List Nat) (least : Int) (most : Int) : Rf RE (S_fits_signs [En.e (value : List Nat), En.e (least : Int), En.e (most : Int)]) (T_fits_signs value least most) := by
  unfold T_fits_signs S_fits_signs
  exact run_go (p := [some (.fz (En.e (value : List Nat))), some (.fz (En.e (least : Int))), some (.fz (En.e (most : Int))), some .no]) (xs_ret (xn_t (xu (xg_p (x_var (value : List Nat) rfl) (r_isT (b := true) _ rfl))) (xn_m (xc_pm (b1 := fun y => decide (least ≤ y)) (x_var (least : Int) rfl) (xu (xg_p (x_var (value : List Nat) rfl) (r_lenS _))) (fun y => (r_leXI _ _)) (fun y => xg_p (x_var (most : Int) rfl) (r_leXI _ _))) (xu (xg_m (x_lcA (p' := fun (sign : Ch) => [some (.fz (En.e (value : List Nat))), some (.fz (En.e (least : Int))), some (.fz (En.e (most : Int))), some (.fz (En.e (sign : Ch)))]) (wi_str (x_var (value : List Nat) rfl)) (xt_name (fun _ => rfl) (lt_ok rfl)) (fun (sign : Ch) => (xo_p (x_var (sign : Ch) rfl) (xg_p (x_c ([105, 111] : List Nat) rfl) (r_inS _ _))))) fun x => (r_all _))))) (fun _ => rfl)) rfl rfl
def T_fits_word (value : List Nat) : M Bool := T_fits_signs value (1 : Int) (12 : Int)
theorem t_fits_word (value : List Nat) : Rf RE (S_fits_word [En.e (value : List Nat)]) (T_fits_word value) := by
  unfold T_fits_word S_fits_word
  exact run_go (p := [some (.fz (En.e (value : List Nat)))]) (xs_ret (xa (xf_p (x_var (value : List Nat) rfl) (xf_p (x_c (1 : Int) rfl) (xf_p (x_c (12 : Int) rfl) (xf_nil (t_fits_signs _ _ _)))))) (fun _ => rfl)) rfl rfl
def T_need_word (value : List Nat) : M Unit := ((T_fits_word value).bind fun x => M.ret (!x)).bind fun b_ => if b_ = true then M.bad else M.ret ()
theorem t_need_word (value : List Nat) : Rf RE (S_need_word [En.e (value : List Nat)]) (T_need_word value) := by
  unfold T_need_word S_need_word
  exact run_go (p := [some (.fz (En.e (value : List Nat)))]) (xs_if_m (xu (xg_m (xa (xf_p (x_var (value : List Nat) rfl) (xf_nil (t_fits_word _)))) fun x => (r_not _))) xs_never (xs_nil (xc_fin () rfl))) rfl rfl
def T_need_words (one : List Nat) (other : List Nat) : M Unit := (T_need_word one).bind fun _ => (T_need_word other).bind fun _ => M.ret ()
theorem t_need_words (one : List Nat) (other : List Nat) : Rf RE (S_need_words [En.e (one : List Nat), En.e (other : List Nat)]) (T_need_words one other) := by
  unfold T_need_words S_need_words
  exact run_go (p := [some (.fz (En.e (one : List Nat))), some (.fz (En.e (other : List Nat)))]) (xs_seq (xs_expr_m (xa (xf_p (x_var (one : List Nat) rfl) (xf_nil (t_need_word _)))) (xc_sk (xs_expr_m (xa (xf_p (x_var (other : List Nat) rfl) (xf_nil (t_need_word _)))) (xc_fin () rfl))))) rfl rfl
def T_is_whole (value : Int) : M Bool := M.ret (!false)
theorem t_is_whole (value : Int) : Rf RE (S_is_whole [En.e (value : Int)]) (T_is_whole value) := by
  unfold T_is_whole S_is_whole
  exact run_go (p := [some (.fz (En.e (value : Int)))]) (xs_ret (xn_t (xu (xg_p (x_var (value : Int) rfl) (r_isT (b := true) _ rfl))) (xu (xg_p (xu (xg_p (x_var (value : Int) rfl) (r_isT (b := false) _ rfl))) (r_not _)))) (fun _ => rfl)) rfl rfl
def T_fits_whole (value : Int) (low : Int) (high : Int) : M Bool := (T_is_whole value).bind fun b_ => if b_ = true then M.ret (decide (low ≤ value) && decide (value ≤ high)) else M.ret false
theorem t_fits_whole (value : Int) (low : Int) (high : Int) : Rf RE (S_fits_whole [En.e (value : Int), En.e (low : Int), En.e (high : Int)]) (T_fits_whole value low high) := by
  unfold T_fits_whole S_fits_whole
  exact run_go (p := [some (.fz (En.e (value : Int))), some (.fz (En.e (low : Int))), some (.fz (En.e (high : Int)))]) (xs_ret (xn_m (xa (xf_p (x_var (value : Int) rfl) (xf_nil (t_is_whole _)))) (xc_ppp (x_var (low : Int) rfl) (x_var (value : Int) rfl) (x_var (high : Int) rfl) (r_leXI _ _) (r_leXI _ _))) (fun _ => rfl)) rfl rfl
def T_need_stakes (value : Int) : M Unit := ((T_fits_whole value (3 : Int) (24 : Int)).bind fun x => M.ret (!x)).bind fun b_ => if b_ = true then M.bad else M.ret ()
theorem t_need_stakes (value : Int) : Rf RE (S_need_stakes [En.e (value : Int)]) (T_need_stakes value) := by
  unfold T_need_stakes S_need_stakes
  exact run_go (p := [some (.fz (En.e (value : Int)))]) (xs_if_m (xu (xg_m (xa (xf_p (x_var (value : Int) rfl) (xf_p (x_c (3 : Int) rfl) (xf_p (x_c (24 : Int) rfl) (xf_nil (t_fits_whole _ _ _)))))) fun x => (r_not _))) xs_never (xs_nil (xc_fin () rfl))) rfl rfl
def T_divisor (one : Int) (other : Int) : M Int := (whileN (σ := Int × Int) (fun (s : Int × Int) => M.ret (!decide (s.2 = (0 : Int)))) (fun (s : Int × Int) => (M.ret s.2).bind fun (one2 : Int) => (modI s.1 s.2).bind fun (other2 : Int) => M.ret (one2, other2)) 400 (one, other)).bind fun (s : Int × Int) => M.ret s.1
theorem t_divisor (one : Int) (other : Int) : Rf RE (S_divisor [En.e (one : Int), En.e (other : Int)]) (T_divisor one other) := by
  unfold T_divisor S_divisor
  exact run_go (p := [some (.fz (En.e (one : Int))), some (.fz (En.e (other : Int)))]) (xs_seq (xs_whileN (σ := Int × Int) (one, other) (fun (s : Int × Int) => [some (.fz (En.e (s.1 : Int))), some (.fz (En.e (s.2 : Int)))]) (.k (.k .n)) (fun (s : Int × Int) => (xo_p (x_var (s.2 : Int) rfl) (xg_p (x_c (0 : Int) rfl) (r_ne (α := Int) _ _)))) (fun (s : Int × Int) => (xs_par (fun (one2 : Int) (other2 : Int) => [some (.fz (En.e (one2 : Int))), some (.fz (En.e (other2 : Int)))]) (x_var (s.2 : Int) rfl) (xo_p (x_var (s.1 : Int) rfl) (xg_p (x_var (s.2 : Int) rfl) (r_modI _ _))) (fun _ _ => rfl) (lt_ok rfl) (lt_ok rfl) (fun (one2 : Int) (other2 : Int) => (xc_nxN (s := (one2, other2)) (.k (.k .n)))))) (fun (s : Int × Int) => (xc_sk (xs_ret (x_var (s.1 : Int) rfl) (fun _ => rfl)))))) rfl rfl
def T_together (one : Int) (other : Int) : M Int := ((T_divisor one other).bind fun y => divI one y).bind fun x => mulI x other
theorem t_together (one : Int) (other : Int) : Rf RE (S_together [En.e (one : Int), En.e (other : Int)]) (T_together one other) := by
  unfold T_together S_together
  exact run_go (p := [some (.fz (En.e (one : Int))), some (.fz (En.e (other : Int)))]) (xs_ret (xo_m (xo_p (x_var (one : Int) rfl) (xg_m (xa (xf_p (x_var (one : Int) rfl) (xf_p (x_var (other : Int) rfl) (xf_nil (t_divisor _ _))))) fun y => (r_divI _ _))) fun x => xg_p (x_var (other : Int) rfl) (r_mulI _ _)) (fun _ => rfl)) rfl rfl
def T_period_in (one : List Nat) (other : List Nat) (stakes : Int) : M Int := ((lcM ((⟨[one, other]⟩ : Tp (List Nat)).l) (fun (word : List Nat) => M.ret true) (fun (word : List Nat) => (lenS word).bind fun x1 => ((lenS word).bind fun x => T_divisor stakes x).bind fun y => divI x1 y)).bind un2).bind fun (x2 : Lp2 Int) => T_together x2.a x2.b
theorem t_period_in (one : List Nat) (other : List Nat) (stakes : Int) : Rf RE (S_period_in [En.e (one : List Nat), En.e (other : List Nat), En.e (stakes : Int)]) (T_period_in one other stakes) := by
  unfold T_period_in S_period_in
  exact run_go (p := [some (.fz (En.e (one : List Nat))), some (.fz (En.e (other : List Nat))), some (.fz (En.e (stakes : Int))), some .no, some .no, some .no]) (xs_seq (xs_asgT (fun (x2 : Lp2 Int) => [some (.fz (En.e (one : List Nat))), some (.fz (En.e (other : List Nat))), some (.fz (En.e (stakes : Int))), some (.fz (En.e (x2.a : Int))), some (.fz (En.e (x2.b : Int))), some .no]) (x_castP un2 (fun o => rf_un2 o) (x_lcGP (p' := fun (word : List Nat) => [some (.fz (En.e (one : List Nat))), some (.fz (En.e (other : List Nat))), some (.fz (En.e (stakes : Int))), some .no, some .no, some (.fz (En.e (word : List Nat)))]) (wi_tp (x_cast (a := ((⟨one, other⟩ : P2 (List Nat) (List Nat)) : P2 (List Nat) (List Nat))) (b := ((⟨[one, other]⟩ : Tp (List Nat)) : Tp (List Nat))) rfl (xa (xf_p (x_var (one : List Nat) rfl) (xf_p (x_var (other : List Nat) rfl) (xf_nil (r_tup2 _ _))))))) (xt_name (fun _ => rfl) (lt_ok rfl)) (fun (word : List Nat) => x_c true rfl) (fun (word : List Nat) => (xo_m (xu (xg_p (x_var (word : List Nat) rfl) (r_lenS _))) fun x1 => xg_m (xa (xf_p (x_var (stakes : Int) rfl) (xf_m (xu (xg_p (x_var (word : List Nat) rfl) (r_lenS _))) fun x => (xf_nil (t_divisor _ _))))) fun y => (r_divI _ _))))) (xt_twoL (fun _ => rfl) (lt_ok rfl) (lt_ok rfl)) (fun (x2 : Lp2 Int) => (xc_sk (xs_ret (xa (xf_p (x_var (x2.a : Int) rfl) (xf_p (x_var (x2.b : Int) rfl) (xf_nil (t_together _ _))))) (fun _ => rfl)))))) rfl rfl
def T_period_of (one : List Nat) (other : List Nat) (stakes : Int) : M Int := (T_need_words one other).bind fun _ => (T_need_stakes stakes).bind fun _ => T_period_in one other stakes
theorem t_period_of (one : List Nat) (other : List Nat) (stakes : Int) : Rf RE (S_period_of [En.e (one : List Nat), En.e (other : List Nat), En.e (stakes : Int)]) (T_period_of one other stakes) := by
  unfold T_period_of S_period_of
  exact run_go (p := [some (.fz (En.e (one : List Nat))), some (.fz (En.e (other : List Nat))), some (.fz (En.e (stakes : Int)))]) (xs_seq (xs_expr_m (xa (xf_p (x_var (one : List Nat) rfl) (xf_p (x_var (other : List Nat) rfl) (xf_nil (t_need_words _ _))))) (xc_sk (xs_seq (xs_expr_m (xa (xf_p (x_var (stakes : Int) rfl) (xf_nil (t_need_stakes _)))) (xc_sk (xs_ret (xa (xf_p (x_var (one : List Nat) rfl) (xf_p (x_var (other : List Nat) rfl) (xf_p (x_var (stakes : Int) rfl) (xf_nil (t_period_in _ _ _)))))) (fun _ => rfl)))))))) rfl rfl
def T_need_rounds (value : Int) : M Unit := ((T_fits_whole value (1 : Int) (40 : Int)).bind fun x => M.ret (!x)).bind fun b_ => if b_ = true then M.bad else M.ret ()
theorem t_need_rounds (value : Int) : Rf RE (S_need_rounds [En.e (value : Int)]) (T_need_rounds value) := by
  unfold T_need_rounds S_need_rounds
  exact run_go (p := [some (.fz (En.e (value : Int)))]) (xs_if_m (xu (xg_m (xa (xf_p (x_var (value : Int) rfl) (xf_p (x_c (1 : Int) rfl) (xf_p (x_c (40 : Int) rfl) (xf_nil (t_fits_whole _ _ _)))))) fun x => (r_not _))) xs_never (xs_nil (xc_fin () rfl))) rfl rfl
def T_wound_in (word : List Nat) (stakes : Int) (start : Int) : M (List Nat) := ((rg1 stakes).bind fun xs => lcM xs (fun (at1 : Int) => M.ret true) (fun (at1 : Int) => ((lenS word).bind fun y => modI (start + at1) y).bind fun y1 => ixS word y1)).bind fun x => joinC x
theorem t_wound_in (word : List Nat) (stakes : Int) (start : Int) : Rf RE (S_wound_in [En.e (word : List Nat), En.e (stakes : Int), En.e (start : Int)]) (T_wound_in word stakes start) := by
  unfold T_wound_in S_wound_in
  exact run_go (p := [some (.fz (En.e (word : List Nat))), some (.fz (En.e (stakes : Int))), some (.fz (En.e (start : Int))), some .no]) (xs_ret (xu (xg_m (x_lcG (p' := fun (at1 : Int) => [some (.fz (En.e (word : List Nat))), some (.fz (En.e (stakes : Int))), some (.fz (En.e (start : Int))), some (.fz (En.e (at1 : Int)))]) (wi_r1 (x_var (stakes : Int) rfl)) (xt_name (fun _ => rfl) (lt_ok rfl)) (fun (at1 : Int) => x_c true rfl) (fun (at1 : Int) => (xo_p (x_var (word : List Nat) rfl) (xg_m (xo_p (xo_p (x_var (start : Int) rfl) (xg_p (x_var (at1 : Int) rfl) (r_addI _ _))) (xg_m (xu (xg_p (x_var (word : List Nat) rfl) (r_lenS _))) fun y => (r_modI _ _))) fun y1 => (r_ixS _ _))))) fun x => (r_joinC _))) (fun _ => rfl)) rfl rfl
def T_round_in (word : List Nat) (stakes : Int) (at1 : Int) : M (List Nat) := ((mulI at1 stakes).bind fun x => (lenS word).bind fun y => modI x y).bind fun x1 => T_wound_in word stakes x1
theorem t_round_in (word : List Nat) (stakes : Int) (at1 : Int) : Rf RE (S_round_in [En.e (word : List Nat), En.e (stakes : Int), En.e (at1 : Int)]) (T_round_in word stakes at1) := by
  unfold T_round_in S_round_in
  exact run_go (p := [some (.fz (En.e (word : List Nat))), some (.fz (En.e (stakes : Int))), some (.fz (En.e (at1 : Int)))]) (xs_ret (xa (xf_p (x_var (word : List Nat) rfl) (xf_p (x_var (stakes : Int) rfl) (xf_m (xo_m (xo_p (x_var (at1 : Int) rfl) (xg_p (x_var (stakes : Int) rfl) (r_mulI _ _))) fun x => xg_m (xu (xg_p (x_var (word : List Nat) rfl) (r_lenS _))) fun y => (r_modI _ _)) fun x1 => (xf_nil (t_wound_in _ _ _)))))) (fun _ => rfl)) rfl rfl
def T_rounds_of (one : List Nat) (other : List Nat) (stakes : Int) (rounds : Int) : M (Tp (P2 (List Nat) (List Nat))) := (T_need_words one other).bind fun _ => (T_need_stakes stakes).bind fun _ => (T_need_rounds rounds).bind fun _ => ((rg1 rounds).bind fun xs => lcM xs (fun (at1 : Int) => M.ret true) (fun (at1 : Int) => (T_round_in one stakes at1).bind fun x => (T_round_in other stakes at1).bind fun x1 => M.ret (⟨x, x1⟩ : P2 (List Nat) (List Nat)))).bind fun x2 => M.ret (⟨x2⟩ : Tp (P2 (List Nat) (List Nat)))
theorem t_rounds_of (one : List Nat) (other : List Nat) (stakes : Int) (rounds : Int) : Rf RE (S_rounds_of [En.e (one : List Nat), En.e (other : List Nat), En.e (stakes : Int), En.e (rounds : Int)]) (T_rounds_of one other stakes rounds) := by
  unfold T_rounds_of S_rounds_of
  exact run_go (p := [some (.fz (En.e (one : List Nat))), some (.fz (En.e (other : List Nat))), some (.fz (En.e (stakes : Int))), some (.fz (En.e (rounds : Int))), some .no]) (xs_seq (xs_expr_m (xa (xf_p (x_var (one : List Nat) rfl) (xf_p (x_var (other : List Nat) rfl) (xf_nil (t_need_words _ _))))) (xc_sk (xs_seq (xs_expr_m (xa (xf_p (x_var (stakes : Int) rfl) (xf_nil (t_need_stakes _)))) (xc_sk (xs_seq (xs_expr_m (xa (xf_p (x_var (rounds : Int) rfl) (xf_nil (t_need_rounds _)))) (xc_sk (xs_ret (xu (xg_m (x_lcG (p' := fun (at1 : Int) => [some (.fz (En.e (one : List Nat))), some (.fz (En.e (other : List Nat))), some (.fz (En.e (stakes : Int))), some (.fz (En.e (rounds : Int))), some (.fz (En.e (at1 : Int)))]) (wi_r1 (x_var (rounds : Int) rfl)) (xt_name (fun _ => rfl) (lt_ok rfl)) (fun (at1 : Int) => x_c true rfl) (fun (at1 : Int) => (xa (xf_m (xa (xf_p (x_var (one : List Nat) rfl) (xf_p (x_var (stakes : Int) rfl) (xf_p (x_var (at1 : Int) rfl) (xf_nil (t_round_in _ _ _)))))) fun x => (xf_m (xa (xf_p (x_var (other : List Nat) rfl) (xf_p (x_var (stakes : Int) rfl) (xf_p (x_var (at1 : Int) rfl) (xf_nil (t_round_in _ _ _)))))) fun x1 => (xf_nil (r_tup2 _ _))))))) fun x2 => (r_tupL _))) (fun _ => rfl))))))))))) rfl rfl
def T_need_ticks (value : Int) (most : Int) : M Unit := ((T_fits_whole value (0 : Int) most).bind fun x => M.ret (!x)).bind fun b_ => if b_ = true then M.bad else M.ret ()
theorem t_need_ticks (value : Int) (most : Int) : Rf RE (S_need_ticks [En.e (value : Int), En.e (most : Int)]) (T_need_ticks value most) := by
  unfold T_need_ticks S_need_ticks
  exact run_go (p := [some (.fz (En.e (value : Int))), some (.fz (En.e (most : Int)))]) (xs_if_m (xu (xg_m (xa (xf_p (x_var (value : Int) rfl) (xf_p (x_c (0 : Int) rfl) (xf_p (x_var (most : Int) rfl) (xf_nil (t_fits_whole _ _ _)))))) fun x => (r_not _))) xs_never (xs_nil (xc_fin () rfl))) rfl rfl
def T_alike_stakes (one : List Nat) (other : List Nat) (stakes : Int) (at1 : Int) : M (Tp Int) := (T_need_words one other).bind fun _ => (T_need_stakes stakes).bind fun _ => (T_need_ticks at1 (1000000000 : Int)).bind fun _ => ((T_round_in one stakes at1).bind fun x => (T_round_in other stakes at1).bind fun y => zipS x y).bind fun (rows : List (P2 Ch Ch)) => (((M.ret rows).bind enT).bind fun xs => lcP xs (fun (stake : P2 Int (P2 Ch Ch)) => (decide (stake.b.a = stake.b.b))) (fun (stake : P2 Int (P2 Ch Ch)) => stake.a)).bind fun x1 => M.ret (⟨x1⟩ : Tp Int)
theorem t_alike_stakes (one : List Nat) (other : List Nat) (stakes : Int) (at1 : Int) : Rf RE (S_alike_stakes [En.e (one : List Nat), En.e (other : List Nat), En.e (stakes : Int), En.e (at1 : Int)]) (T_alike_stakes one other stakes at1) := by
  unfold T_alike_stakes S_alike_stakes
  exact run_go (p := [some (.fz (En.e (one : List Nat))), some (.fz (En.e (other : List Nat))), some (.fz (En.e (stakes : Int))), some (.fz (En.e (at1 : Int))), some .no, some .no, some .no]) (xs_seq (xs_expr_m (xa (xf_p (x_var (one : List Nat) rfl) (xf_p (x_var (other : List Nat) rfl) (xf_nil (t_need_words _ _))))) (xc_sk (xs_seq (xs_expr_m (xa (xf_p (x_var (stakes : Int) rfl) (xf_nil (t_need_stakes _)))) (xc_sk (xs_seq (xs_expr_m (xa (xf_p (x_var (at1 : Int) rfl) (xf_p (x_c (1000000000 : Int) rfl) (xf_nil (t_need_ticks _ _))))) (xc_sk (xs_seq (xs_asg (fun (rows : List (P2 Ch Ch)) => [some (.fz (En.e (one : List Nat))), some (.fz (En.e (other : List Nat))), some (.fz (En.e (stakes : Int))), some (.fz (En.e (at1 : Int))), some (.fz (En.e (rows : List (P2 Ch Ch)))), some .no, some .no]) (xo_m (xa (xf_p (x_var (one : List Nat) rfl) (xf_p (x_var (stakes : Int) rfl) (xf_p (x_var (at1 : Int) rfl) (xf_nil (t_round_in _ _ _)))))) fun x => xg_m (xa (xf_p (x_var (other : List Nat) rfl) (xf_p (x_var (stakes : Int) rfl) (xf_p (x_var (at1 : Int) rfl) (xf_nil (t_round_in _ _ _)))))) fun y => (r_zipL _ _)) (fun _ => rfl) (lt_ok rfl) (fun (rows : List (P2 Ch Ch)) => (xc_sk (xs_ret (xu (xg_m (x_lcP (p' := fun (stake : P2 Int (P2 Ch Ch)) => [some (.fz (En.e (one : List Nat))), some (.fz (En.e (other : List Nat))), some (.fz (En.e (stakes : Int))), some (.fz (En.e (at1 : Int))), some (.fz (En.e (rows : List (P2 Ch Ch)))), some (.fz (En.e (stake.a : Int))), some (.fz (En.e (stake.b : P2 Ch Ch)))]) (wi_enum (wi_lst (x_var (rows : List (P2 Ch Ch)) rfl))) (xt_two (fun _ => rfl) (lt_ok rfl) (lt_ok rfl)) (fun (stake : P2 Int (P2 Ch Ch)) => (xo_p (xo_p (x_var (stake.b : P2 Ch Ch) rfl) (xg_p (x_c (0 : Int) rfl) (r_ix21 _))) (xg_p (xo_p (x_var (stake.b : P2 Ch Ch) rfl) (xg_p (x_c (1 : Int) rfl) (r_ix22 _))) (r_eq (α := Ch) _ _)))) (fun (stake : P2 Int (P2 Ch Ch)) => (x_var (stake.a : Int) rfl))) fun x1 => (r_tupL _))) (fun _ => rfl))))))))))))))) rfl rfl
def T_signs_in (word : List Nat) (many : Int) : M (List Nat) := ((((lenS word).bind fun y => divI many y).bind fun x => M.ret (x + (1 : Int))).bind fun y1 => mulS word y1).bind fun x1 => (M.ret none).bind fun lo => (M.ret (some many)).bind fun hi => slS x1 lo hi
theorem t_signs_in (word : List Nat) (many : Int) : Rf RE (S_signs_in [En.e (word : List Nat), En.e (many : Int)]) (T_signs_in word many) := by
  unfold T_signs_in S_signs_in
  exact run_go (p := [some (.fz (En.e (word : List Nat))), some (.fz (En.e (many : Int)))]) (xs_ret (x_sl_m (xo_p (x_var (word : List Nat) rfl) (xg_m (xo_m (xo_p (x_var (many : Int) rfl) (xg_m (xu (xg_p (x_var (word : List Nat) rfl) (r_lenS _))) fun y => (r_divI _ _))) fun x => xg_p (x_c (1 : Int) rfl) (r_addI _ _)) fun y1 => (r_mulS _ _))) xp_no (xp_p (x_var (many : Int) rfl)) (fun _ _ _ => r_slS _ _ _)) (fun _ => rfl)) rfl rfl
def T_alike_in (one : List Nat) (other : List Nat) : M (List Int) := ((lenS one).bind fun x => (lenS other).bind fun x1 => T_together x x1).bind fun (size : Int) => ((T_signs_in one size).bind fun x2 => (T_signs_in other size).bind fun y => zipS x2 y).bind fun (rows : List (P2 Ch Ch)) => ((M.ret rows).bind enT).bind fun xs => lcP xs (fun (at1 : P2 Int (P2 Ch Ch)) => (decide (at1.b.a = at1.b.b))) (fun (at1 : P2 Int (P2 Ch Ch)) => at1.a)
theorem t_alike_in (one : List Nat) (other : List Nat) : Rf RE (S_alike_in [En.e (one : List Nat), En.e (other : List Nat)]) (T_alike_in one other) := by
  unfold T_alike_in S_alike_in
  exact run_go (p := [some (.fz (En.e (one : List Nat))), some (.fz (En.e (other : List Nat))), some .no, some .no, some .no, some .no]) (xs_seq (xs_asg (fun (size : Int) => [some (.fz (En.e (one : List Nat))), some (.fz (En.e (other : List Nat))), some (.fz (En.e (size : Int))), some .no, some .no, some .no]) (xa (xf_m (xu (xg_p (x_var (one : List Nat) rfl) (r_lenS _))) fun x => (xf_m (xu (xg_p (x_var (other : List Nat) rfl) (r_lenS _))) fun x1 => (xf_nil (t_together _ _))))) (fun _ => rfl) (lt_ok rfl) (fun (size : Int) => (xc_sk (xs_seq (xs_asg (fun (rows : List (P2 Ch Ch)) => [some (.fz (En.e (one : List Nat))), some (.fz (En.e (other : List Nat))), some (.fz (En.e (size : Int))), some (.fz (En.e (rows : List (P2 Ch Ch)))), some .no, some .no]) (xo_m (xa (xf_p (x_var (one : List Nat) rfl) (xf_p (x_var (size : Int) rfl) (xf_nil (t_signs_in _ _))))) fun x2 => xg_m (xa (xf_p (x_var (other : List Nat) rfl) (xf_p (x_var (size : Int) rfl) (xf_nil (t_signs_in _ _))))) fun y => (r_zipL _ _)) (fun _ => rfl) (lt_ok rfl) (fun (rows : List (P2 Ch Ch)) => (xc_sk (xs_ret (x_lcP (p' := fun (at1 : P2 Int (P2 Ch Ch)) => [some (.fz (En.e (one : List Nat))), some (.fz (En.e (other : List Nat))), some (.fz (En.e (size : Int))), some (.fz (En.e (rows : List (P2 Ch Ch)))), some (.fz (En.e (at1.a : Int))), some (.fz (En.e (at1.b : P2 Ch Ch)))]) (wi_enum (wi_lst (x_var (rows : List (P2 Ch Ch)) rfl))) (xt_two (fun _ => rfl) (lt_ok rfl) (lt_ok rfl)) (fun (at1 : P2 Int (P2 Ch Ch)) => (xo_p (xo_p (x_var (at1.b : P2 Ch Ch) rfl) (xg_p (x_c (0 : Int) rfl) (r_ix21 _))) (xg_p (xo_p (x_var (at1.b : P2 Ch Ch) rfl) (xg_p (x_c (1 : Int) rfl) (r_ix22 _))) (r_eq (α := Ch) _ _)))) (fun (at1 : P2 Int (P2 Ch Ch)) => (x_var (at1.a : Int) rfl))) (fun _ => rfl)))))))))) rfl rfl
def T_alike_many (one : List Nat) (other : List Nat) (stakes : Int) (rounds : Int) : M Int := (T_need_words one other).bind fun _ => (T_need_stakes stakes).bind fun _ => (T_need_ticks rounds (1000000000 : Int)).bind fun _ => ((lenS one).bind fun x => (lenS other).bind fun x1 => T_together x x1).bind fun (size : Int) => (T_alike_in one other).bind fun (places : List Int) => (((mulI rounds stakes).bind fun x2 => divI x2 size).bind fun x4 => ((mulI rounds stakes).bind fun x3 => modI x3 size).bind fun x5 => M.ret (⟨x4, x5⟩ : P2 Int Int)).bind fun (x6 : P2 Int Int) => (mulI x6.a (places.length : Int)).bind fun x8 => ((lcP places (fun (at1 : Int) => decide (at1 < x6.b)) (fun (at1 : Int) => at1)).bind fun x7 => M.ret (x7.length : Int)).bind fun y => M.ret (x8 + y)
theorem t_alike_many (one : List Nat) (other : List Nat) (stakes : Int) (rounds : Int) : Rf RE (S_alike_many [En.e (one : List Nat), En.e (other : List Nat), En.e (stakes : Int), En.e (rounds : Int)]) (T_alike_many one other stakes rounds) := by
  unfold T_alike_many S_alike_many
  exact run_go (p := [some (.fz (En.e (one : List Nat))), some (.fz (En.e (other : List Nat))), some (.fz (En.e (stakes : Int))), some (.fz (En.e (rounds : Int))), some .no, some .no, some .no, some .no, some .no]) (xs_seq (xs_expr_m (xa (xf_p (x_var (one : List Nat) rfl) (xf_p (x_var (other : List Nat) rfl) (xf_nil (t_need_words _ _))))) (xc_sk (xs_seq (xs_expr_m (xa (xf_p (x_var (stakes : Int) rfl) (xf_nil (t_need_stakes _)))) (xc_sk (xs_seq (xs_expr_m (xa (xf_p (x_var (rounds : Int) rfl) (xf_p (x_c (1000000000 : Int) rfl) (xf_nil (t_need_ticks _ _))))) (xc_sk (xs_seq (xs_par (fun (size : Int) (places : List Int) => [some (.fz (En.e (one : List Nat))), some (.fz (En.e (other : List Nat))), some (.fz (En.e (stakes : Int))), some (.fz (En.e (rounds : Int))), some (.fz (En.e (size : Int))), some (.fz (En.e (places : List Int))), some .no, some .no, some .no]) (xa (xf_m (xu (xg_p (x_var (one : List Nat) rfl) (r_lenS _))) fun x => (xf_m (xu (xg_p (x_var (other : List Nat) rfl) (r_lenS _))) fun x1 => (xf_nil (t_together _ _))))) (xa (xf_p (x_var (one : List Nat) rfl) (xf_p (x_var (other : List Nat) rfl) (xf_nil (t_alike_in _ _))))) (fun _ _ => rfl) (lt_ok rfl) (lt_ok rfl) (fun (size : Int) (places : List Int) => (xc_sk (xs_seq (xs_asgT (fun (x6 : P2 Int Int) => [some (.fz (En.e (one : List Nat))), some (.fz (En.e (other : List Nat))), some (.fz (En.e (stakes : Int))), some (.fz (En.e (rounds : Int))), some (.fz (En.e (size : Int))), some (.fz (En.e (places : List Int))), some (.fz (En.e (x6.a : Int))), some (.fz (En.e (x6.b : Int))), some .no]) (xa (xf_m (xo_m (xo_p (x_var (rounds : Int) rfl) (xg_p (x_var (stakes : Int) rfl) (r_mulI _ _))) fun x2 => xg_p (x_var (size : Int) rfl) (r_divI _ _)) fun x4 => (xf_m (xo_m (xo_p (x_var (rounds : Int) rfl) (xg_p (x_var (stakes : Int) rfl) (r_mulI _ _))) fun x3 => xg_p (x_var (size : Int) rfl) (r_modI _ _)) fun x5 => (xf_nil (r_tup2 _ _))))) (xt_two (fun _ => rfl) (lt_ok rfl) (lt_ok rfl)) (fun (x6 : P2 Int Int) => (xc_sk (xs_ret (xo_m (xo_p (x_var (x6.a : Int) rfl) (xg_p (xu (xg_p (x_var (places : List Int) rfl) (r_lenL _))) (r_mulI _ _))) fun x8 => xg_m (xu (xg_m (x_lcPP (p' := fun (at1 : Int) => [some (.fz (En.e (one : List Nat))), some (.fz (En.e (other : List Nat))), some (.fz (En.e (stakes : Int))), some (.fz (En.e (rounds : Int))), some (.fz (En.e (size : Int))), some (.fz (En.e (places : List Int))), some (.fz (En.e (x6.a : Int))), some (.fz (En.e (x6.b : Int))), some (.fz (En.e (at1 : Int)))]) (wi_lst (x_var (places : List Int) rfl)) (xt_name (fun _ => rfl) (lt_ok rfl)) (fun (at1 : Int) => (xo_p (x_var (at1 : Int) rfl) (xg_p (x_var (x6.b : Int) rfl) (r_ltXI _ _)))) (fun (at1 : Int) => (x_var (at1 : Int) rfl))) fun x7 => (r_lenL _))) fun y => (r_addI _ _)) (fun _ => rfl))))))))))))))))))) rfl rfl
def T_firm_behind (one : List Nat) (other : List Nat) (stakes : Int) (rounds : Int) : M (Tp Int) := (T_need_words one other).bind fun _ => (T_need_stakes stakes).bind fun _ => (T_need_rounds rounds).bind fun _ => ((rg1 rounds).bind fun xs => lc2M xs (fun (at1 : Int) => M.ret true) fun (at1 : Int) => (M.ret ((⟨[one, other]⟩ : Tp (List Nat)).l)).bind fun ys => lc2I ys (fun (word : List Nat) => M.ret true) (fun (word : List Nat) => T_round_in word stakes at1)).bind fun (rows : List (List Nat)) => ((rg1 stakes).bind fun xs2 => lcM xs2 (fun (stake : Int) => ((lcM rows (fun (row : List Nat) => M.ret true) (fun (row : List Nat) => ixS row stake)).bind fun x => lenSet (x.map fun c => [c.c])).bind fun x1 => M.ret (decide (x1 = (2 : Int)))) (fun (stake : Int) => M.ret stake)).bind fun x2 => M.ret (⟨x2⟩ : Tp Int)
theorem t_firm_behind (one : List Nat) (other : List Nat) (stakes : Int) (rounds : Int) : Rf RE (S_firm_behind [En.e (one : List Nat), En.e (other : List Nat), En.e (stakes : Int), En.e (rounds : Int)]) (T_firm_behind one other stakes rounds) := by
  unfold T_firm_behind S_firm_behind
  exact run_go (p := [some (.fz (En.e (one : List Nat))), some (.fz (En.e (other : List Nat))), some (.fz (En.e (stakes : Int))), some (.fz (En.e (rounds : Int))), some .no, some .no, some .no, some .no, some .no]) (xs_seq (xs_expr_m (xa (xf_p (x_var (one : List Nat) rfl) (xf_p (x_var (other : List Nat) rfl) (xf_nil (t_need_words _ _))))) (xc_sk (xs_seq (xs_expr_m (xa (xf_p (x_var (stakes : Int) rfl) (xf_nil (t_need_stakes _)))) (xc_sk (xs_seq (xs_expr_m (xa (xf_p (x_var (rounds : Int) rfl) (xf_nil (t_need_rounds _)))) (xc_sk (xs_seq (xs_asg (fun (rows : List (List Nat)) => [some (.fz (En.e (one : List Nat))), some (.fz (En.e (other : List Nat))), some (.fz (En.e (stakes : Int))), some (.fz (En.e (rounds : Int))), some (.fz (En.e (rows : List (List Nat)))), some .no, some .no, some .no, some .no]) (x_lc2 (p' := fun (at1 : Int) => [some (.fz (En.e (one : List Nat))), some (.fz (En.e (other : List Nat))), some (.fz (En.e (stakes : Int))), some (.fz (En.e (rounds : Int))), some .no, some (.fz (En.e (at1 : Int))), none, some .no, some .no]) (p1 := fun (at1 : Int) (word : List Nat) => [some (.fz (En.e (one : List Nat))), some (.fz (En.e (other : List Nat))), some (.fz (En.e (stakes : Int))), some (.fz (En.e (rounds : Int))), some .no, some (.fz (En.e (at1 : Int))), some (.fz (En.e (word : List Nat))), some .no, some .no]) (wi_r1 (x_var (rounds : Int) rfl)) (xt_name (fun _ => rfl) (lt_ok rfl)) (fun (at1 : Int) => (x_c true rfl)) (fun (at1 : Int) => (wi_tp (x_cast (a := ((⟨one, other⟩ : P2 (List Nat) (List Nat)) : P2 (List Nat) (List Nat))) (b := ((⟨[one, other]⟩ : Tp (List Nat)) : Tp (List Nat))) rfl (xa (xf_p (x_var (one : List Nat) rfl) (xf_p (x_var (other : List Nat) rfl) (xf_nil (r_tup2 _ _)))))))) (fun (at1 : Int) => (xt_name (fun _ => rfl) (lt_ok rfl))) (fun (at1 : Int) (word : List Nat) => (x_c true rfl)) (fun (at1 : Int) (word : List Nat) => (xa (xf_p (x_var (word : List Nat) rfl) (xf_p (x_var (stakes : Int) rfl) (xf_p (x_var (at1 : Int) rfl) (xf_nil (t_round_in _ _ _)))))))) (fun _ => rfl) (lt_ok rfl) (fun (rows : List (List Nat)) => (xc_sk (xs_ret (xu (xg_m (x_lcG (p' := fun (stake : Int) => [some (.fz (En.e (one : List Nat))), some (.fz (En.e (other : List Nat))), some (.fz (En.e (stakes : Int))), some (.fz (En.e (rounds : Int))), some (.fz (En.e (rows : List (List Nat)))), some .no, some .no, some (.fz (En.e (stake : Int))), some .no]) (wi_r1 (x_var (stakes : Int) rfl)) (xt_name (fun _ => rfl) (lt_ok rfl)) (fun (stake : Int) => (xo_m (xu (xg_m (x_lcGP (p' := fun (row : List Nat) => [some (.fz (En.e (one : List Nat))), some (.fz (En.e (other : List Nat))), some (.fz (En.e (stakes : Int))), some (.fz (En.e (rounds : Int))), some (.fz (En.e (rows : List (List Nat)))), some .no, some .no, some (.fz (En.e (stake : Int))), some (.fz (En.e (row : List Nat)))]) (wi_lst (x_var (rows : List (List Nat)) rfl)) (xt_name (fun _ => rfl) (lt_ok rfl)) (fun (row : List Nat) => x_c true rfl) (fun (row : List Nat) => (xo_p (x_var (row : List Nat) rfl) (xg_p (x_var (stake : Int) rfl) (r_ixS _ _))))) fun x => (r_lenSetC _))) fun x1 => xg_p (x_c (2 : Int) rfl) (r_eq (α := Int) _ _))) (fun (stake : Int) => (x_var (stake : Int) rfl))) fun x2 => (r_tupL _))) (fun _ => rfl))))))))))))))) rfl rfl
def T_rounds_to_firm (one : List Nat) (other : List Nat) (stakes : Int) : M (Option Int) := (T_need_words one other).bind fun _ => (T_need_stakes stakes).bind fun _ => ((T_period_in one other stakes).bind fun x12 => M.ret (⟨x12, ([] : List (List Nat))⟩ : P2 Int (List (List Nat)))).bind fun (x13 : P2 Int (List (List Nat))) => (rg1 x13.a).bind fun (xs8 : List Int) => (forT (σ := List (List Nat)) (ρ := Option Int) (fun (at1 : Int) (s1 : List (List Nat)) => (((T_round_in one stakes at1).bind fun x19 => (T_round_in other stakes at1).bind fun x20 => M.ret ([x19, x20] : List (List Nat))).bind fun y3 => addL s1 y3).bind fun (rows3 : List (List Nat)) => (((rg1 stakes).bind fun xs7 => lcM xs7 (fun (stake3 : Int) => M.ret true) (fun (stake3 : Int) => ((lcM rows3 (fun (row3 : List Nat) => M.ret true) (fun (row3 : List Nat) => ixS row3 stake3)).bind fun x21 => lenSet (x21.map fun c => [c.c])).bind fun x22 => M.ret (decide (x22 = (2 : Int))))).bind fun x23 => M.ret (x23.all id)).bind fun b_ => if b_ = true then M.ret (.rt (some (at1 + (1 : Int)) : Option Int)) else M.ret (.nx rows3)) xs8 x13.b).bind (Ct.on (fun (s1 : List (List Nat)) => M.ret (none : Option Int)) (fun (r_ : Option Int) => M.ret r_))
theorem t_rounds_to_firm (one : List Nat) (other : List Nat) (stakes : Int) : Rf RE (S_rounds_to_firm [En.e (one : List Nat), En.e (other : List Nat), En.e (stakes : Int)]) (T_rounds_to_firm one other stakes) := by
  unfold T_rounds_to_firm S_rounds_to_firm
  exact run_go (p := [some (.fz (En.e (one : List Nat))), some (.fz (En.e (other : List Nat))), some (.fz (En.e (stakes : Int))), some .no, some .no, some .no, some .no, some .no]) (xs_seq (xs_expr_m (xa (xf_p (x_var (one : List Nat) rfl) (xf_p (x_var (other : List Nat) rfl) (xf_nil (t_need_words _ _))))) (xc_sk (xs_seq (xs_expr_m (xa (xf_p (x_var (stakes : Int) rfl) (xf_nil (t_need_stakes _)))) (xc_sk (xs_seq (xs_asgT (fun (x13 : P2 Int (List (List Nat))) => [some (.fz (En.e (one : List Nat))), some (.fz (En.e (other : List Nat))), some (.fz (En.e (stakes : Int))), some (.fz (En.e (x13.a : Int))), some (.fz (En.e (x13.b : List (List Nat)))), some .no, some .no, some .no]) (xa (xf_m (xa (xf_p (x_var (one : List Nat) rfl) (xf_p (x_var (other : List Nat) rfl) (xf_p (x_var (stakes : Int) rfl) (xf_nil (t_period_in _ _ _)))))) fun x12 => (xf_p (x_cast (a := ([] : List Unit)) (b := (([] : List (List Nat)) : List (List Nat))) rfl (xa (xf_nil (r_lst ([] : List Unit) rfl)))) (xf_nil (r_tup2 _ _))))) (xt_two (fun _ => rfl) (lt_ok rfl) (lt_ok rfl)) (fun (x13 : P2 Int (List (List Nat))) => (xc_sk (xs_seq (xs_for (σ := List (List Nat)) (R := Option Int) x13.b (fun (s1 : List (List Nat)) => [some (.fz (En.e (one : List Nat))), some (.fz (En.e (other : List Nat))), some (.fz (En.e (stakes : Int))), some (.fz (En.e (x13.a : Int))), some (.fz (En.e (s1 : List (List Nat)))), none, some .no, some .no]) (fun (at1 : Int) (s1 : List (List Nat)) => [some (.fz (En.e (one : List Nat))), some (.fz (En.e (other : List Nat))), some (.fz (En.e (stakes : Int))), some (.fz (En.e (x13.a : Int))), some (.fz (En.e (s1 : List (List Nat)))), some (.fz (En.e (at1 : Int))), some .no, some .no]) (wi_r1 (x_var (x13.a : Int) rfl)) (.k (.k (.k (.k (.k (.d (.k (.k .n)))))))) (fun _ => (xt_name (fun _ => rfl) (lt_ok rfl))) (fun (at1 : Int) (s1 : List (List Nat)) => (xs_seq (xs_asg (fun (rows3 : List (List Nat)) => [some (.fz (En.e (one : List Nat))), some (.fz (En.e (other : List Nat))), some (.fz (En.e (stakes : Int))), some (.fz (En.e (x13.a : Int))), some (.fz (En.e (rows3 : List (List Nat)))), some (.fz (En.e (at1 : Int))), some .no, some .no]) (xo_p (x_var (s1 : List (List Nat)) rfl) (xg_m (xa (xf_m (xa (xf_p (x_var (one : List Nat) rfl) (xf_p (x_var (stakes : Int) rfl) (xf_p (x_var (at1 : Int) rfl) (xf_nil (t_round_in _ _ _)))))) fun x19 => (xf_m (xa (xf_p (x_var (other : List Nat) rfl) (xf_p (x_var (stakes : Int) rfl) (xf_p (x_var (at1 : Int) rfl) (xf_nil (t_round_in _ _ _)))))) fun x20 => (xf_nil (r_lst ([x19, x20] : List (List Nat)) rfl))))) fun y3 => (r_addL _ _))) (fun _ => rfl) (lt_ok rfl) (fun (rows3 : List (List Nat)) => (xc_sk (xs_if_m (xu (xg_m (x_lcG (p' := fun (stake3 : Int) => [some (.fz (En.e (one : List Nat))), some (.fz (En.e (other : List Nat))), some (.fz (En.e (stakes : Int))), some (.fz (En.e (x13.a : Int))), some (.fz (En.e (rows3 : List (List Nat)))), some (.fz (En.e (at1 : Int))), some (.fz (En.e (stake3 : Int))), some .no]) (wi_r1 (x_var (stakes : Int) rfl)) (xt_name (fun _ => rfl) (lt_ok rfl)) (fun (stake3 : Int) => x_c true rfl) (fun (stake3 : Int) => (xo_m (xu (xg_m (x_lcGP (p' := fun (row3 : List Nat) => [some (.fz (En.e (one : List Nat))), some (.fz (En.e (other : List Nat))), some (.fz (En.e (stakes : Int))), some (.fz (En.e (x13.a : Int))), some (.fz (En.e (rows3 : List (List Nat)))), some (.fz (En.e (at1 : Int))), some (.fz (En.e (stake3 : Int))), some (.fz (En.e (row3 : List Nat)))]) (wi_lst (x_var (rows3 : List (List Nat)) rfl)) (xt_name (fun _ => rfl) (lt_ok rfl)) (fun (row3 : List Nat) => x_c true rfl) (fun (row3 : List Nat) => (xo_p (x_var (row3 : List Nat) rfl) (xg_p (x_var (stake3 : Int) rfl) (r_ixS _ _))))) fun x21 => (r_lenSetC _))) fun x22 => xg_p (x_c (2 : Int) rfl) (r_eq (α := Int) _ _)))) fun x23 => (r_all _))) (xs_retC_p (x_cast (a := ((at1 + (1 : Int)) : Int)) (b := ((some (at1 + (1 : Int)) : Option Int) : Option Int)) rfl (xo_p (x_var (at1 : Int) rfl) (xg_p (x_c (1 : Int) rfl) (r_addI _ _)))) (fun _ => rfl)) (xs_nil (xc_nx (s := rows3) (.k (.k (.k (.k (.k (.d (.k (.k .n)))))))))))))))) (fun (s1 : List (List Nat)) => (xc_sk (xs_ret (x_cast (a := (() : Unit)) (b := ((none : Option Int) : Option Int)) rfl (x_c () rfl)) (fun _ => rfl)))) (fun _ => rf_e rfl))))))))))))) rfl rfl
def T_law_right  : M Bool := (T_law_two).bind fun (x : P2 (List Nat) (List Nat)) => (((roll (10 : Int)).bind fun y => M.ret ((3 : Int) + y)).bind fun x1 => ((roll (8 : Int)).bind fun y1 => M.ret ((1 : Int) + y1)).bind fun x2 => M.ret (⟨x1, x2⟩ : P2 Int Int)).bind fun (x3 : P2 Int Int) => (T_law_period x.a x.b).bind fun (size : Int) => (M.ret (1 : Int)).bind fun (period : Int) => (whileN (σ := Int) (fun (s : Int) => (((mulI s x3.a).bind fun x65 => (lenS x.a).bind fun y29 => modI x65 y29).bind fun x66 => M.ret (!decide (x66 = (0 : Int)))).bind fun b_ => if b_ = true then M.ret true else ((mulI s x3.a).bind fun x67 => (lenS x.b).bind fun y30 => modI x67 y30).bind fun x68 => M.ret (!decide (x68 = (0 : Int)))) (fun (s : Int) => (M.ret (s + (1 : Int))).bind fun (period2 : Int) => M.ret period2) 400 period).bind fun (s : Int) => (mulI (if s > x3.b then s else x3.b) x3.a).bind fun (long : Int) => ((T_law_gone x.a long).bind fun x4 => (T_law_gone x.b long).bind fun x5 => M.ret (⟨x4, x5⟩ : P2 (List Nat) (List Nat))).bind fun (x6 : P2 (List Nat) (List Nat)) => ((rg1 (if s > x3.b then s else x3.b)).bind fun xs => lcM xs (fun (at1 : Int) => M.ret true) (fun (at1 : Int) => ((M.ret x6.a).bind fun x7 => ((mulI at1 x3.a).bind fun i_ => M.ret (some i_)).bind fun lo => ((mulI (at1 + (1 : Int)) x3.a).bind fun i_ => M.ret (some i_)).bind fun hi => slS x7 lo hi).bind fun x9 => ((M.ret x6.b).bind fun x8 => ((mulI at1 x3.a).bind fun i_ => M.ret (some i_)).bind fun lo1 => ((mulI (at1 + (1 : Int)) x3.a).bind fun i_ => M.ret (some i_)).bind fun hi1 => slS x8 lo1 hi1).bind fun x10 => M.ret (⟨x9, x10⟩ : P2 (List Nat) (List Nat)))).bind fun (rows : List (P2 (List Nat) (List Nat))) => ((((T_period_of x.a x.b x3.a).bind fun x11 => (T_rounds_of x.a x.b x3.a x3.b).bind fun x12 => M.ret (⟨x11, x12⟩ : P2 Int (Tp (P2 (List Nat) (List Nat))))).bind fun x13 => same (α := P2 Int (Tp (P2 (List Nat) (List Nat)))) x13 (⟨s, (⟨cut rows none (some x3.b)⟩ : Tp (P2 (List Nat) (List Nat)))⟩ : P2 Int (Tp (P2 (List Nat) (List Nat))))).bind fun x14 => M.ret (!x14)).bind fun b_ => if b_ = true then M.ret false else (roll (rows.length : Int)).bind fun (at2 : Int) => (((rg1 x3.a).bind fun xs1 => lcM xs1 (fun (stake : Int) => (((ixL rows at2).bind fun x15 => M.ret x15.a).bind fun x16 => ixS x16 stake).bind fun x19 => (((ixL rows at2).bind fun x17 => M.ret x17.b).bind fun x18 => ixS x18 stake).bind fun y2 => M.ret (decide (x19 = y2))) (fun (stake : Int) => M.ret stake)).bind fun x20 => M.ret (⟨x20⟩ : Tp Int)).bind fun (alike : Tp Int) => ((modI at2 s).bind fun x21 => ((roll (1000000 : Int)).bind fun y3 => mulI s y3).bind fun y4 => M.ret (x21 + y4)).bind fun (far : Int) => ((T_alike_stakes x.a x.b x3.a at2).bind fun x22 => (T_alike_stakes x.a x.b x3.a far).bind fun x23 => M.ret (⟨x22, x23⟩ : P2 (Tp Int) (Tp Int))).bind fun (told : P2 (Tp Int) (Tp Int)) => ((same (α := P2 (Tp Int) (Tp Int)) told (⟨alike, alike⟩ : P2 (Tp Int) (Tp Int))).bind fun x24 => M.ret (!x24)).bind fun b_ => if b_ = true then M.ret false else (((((M.ret x6.a).bind fun x25 => (M.ret none).bind fun lo2 => ((mulI x3.b x3.a).bind fun i_ => M.ret (some i_)).bind fun hi2 => slS x25 lo2 hi2).bind fun a_ => ((M.ret x6.b).bind fun x26 => (M.ret none).bind fun lo3 => ((mulI x3.b x3.a).bind fun i_ => M.ret (some i_)).bind fun hi3 => slS x26 lo3 hi3).bind fun b_ => (chs a_).bind fun xs_ => (chs b_).bind fun ys_ => zpT xs_ ys_).bind fun xs2 => lcP xs2 (fun (a : P2 Ch Ch) => (decide (a.a = a.b))) (fun (a : P2 Ch Ch) => (1 : Int))).bind fun x27 => M.ret (x27.length : Int)).bind fun (many : Int) => ((((T_law_gone x.a size).bind fun a_ => (T_law_gone x.b size).bind fun b_ => (chs a_).bind fun xs_ => (chs b_).bind fun ys_ => zpT xs_ ys_).bind fun xs3 => lcP xs3 (fun (a1 : P2 Ch Ch) => (decide (a1.a = a1.b))) (fun (a1 : P2 Ch Ch) => (1 : Int))).bind fun x28 => M.ret (x28.length : Int)).bind fun (whole : Int) => (roll (1000000 : Int)).bind fun (times : Int) => ((T_alike_many x.a x.b x3.a x3.b).bind fun x30 => ((mulI s times).bind fun x29 => T_alike_many x.a x.b x3.a x29).bind fun x31 => M.ret (⟨x30, x31⟩ : P2 Int Int)).bind fun (told1 : P2 Int Int) => (((((((mulI s times).bind fun x32 => mulI x32 x3.a).bind fun x33 => divI x33 size).bind fun x34 => mulI x34 whole).bind fun x35 => M.ret (⟨many, x35⟩ : P2 Int Int)).bind fun x36 => same (α := P2 Int Int) told1 x36).bind fun x37 => M.ret (!x37)).bind fun b_ => if b_ = true then M.ret false else ((mulL ([([] : List Nat)] : List (List Nat)) x3.a).bind fun x54 => M.ret (⟨x54, (none : Option Int), (⟨[]⟩ : Tp Int)⟩ : P3 (List (List Nat)) (Option Int) (Tp Int))).bind fun (x55 : P3 (List (List Nat)) (Option Int) (Tp Int)) => ((M.ret rows).bind enT).bind fun (xs16 : List (P2 Int (P2 (List Nat) (List Nat)))) => (foldT (σ := (List (List Nat)) × (Option Int) × (Tp Int)) (fun (count : P2 Int (P2 (List Nat) (List Nat))) (s3 : (List (List Nat)) × (Option Int) × (Tp Int)) => ((rg1 x3.a).bind fun xs14 => lcM xs14 (fun (stake11 : Int) => M.ret true) (fun (stake11 : Int) => ((ixL s3.1 stake11).bind fun x59 => ((ixS count.b.a stake11).bind fun (x_ : Ch) => M.ret [x_.c]).bind fun y25 => addS x59 y25).bind fun x60 => ((ixS count.b.b stake11).bind fun (x_ : Ch) => M.ret [x_.c]).bind fun y26 => addS x60 y26)).bind fun (seen5 : List (List Nat)) => (((rg1 x3.a).bind fun xs15 => lcM xs15 (fun (stake12 : Int) => ((ixL seen5 stake12).bind fun y27 => M.ret (decide (105 ∈ y27))).bind fun b_ => if b_ = true then (ixL seen5 stake12).bind fun y28 => M.ret (decide (111 ∈ y28)) else M.ret false) (fun (stake12 : Int) => M.ret stake12)).bind fun x61 => M.ret (⟨x61⟩ : Tp Int)).bind fun (now5 : Tp Int) => (M.ret (if (s3.2.1.isNone && ((decide ((now5.l.length : Int) = x3.a)) && decide (count.a < s))) = true then (some (count.a + (1 : Int)) : Option Int) else s3.2.1)).bind fun (holds5 : Option Int) => (M.ret (if (decide (count.a = (x3.b - (1 : Int)))) = true then now5 else s3.2.2)).bind fun (firm5 : Tp Int) => M.ret (seen5, holds5, firm5)) xs16 (x55.a, x55.b, x55.c)).bind fun (s3 : (List (List Nat)) × (Option Int) × (Tp Int)) => ((T_firm_behind x.a x.b x3.a x3.b).bind fun x62 => (T_rounds_to_firm x.a x.b x3.a).bind fun x63 => M.ret (⟨x62, x63⟩ : P2 (Tp Int) (Option Int))).bind fun x64 => same (α := P2 (Tp Int) (Option Int)) x64 (⟨s3.2.2, s3.2.1⟩ : P2 (Tp Int) (Option Int))
theorem t_law_right  : Rf RE (S_law_right [En.e (Cup.mk : Cup)]) (T_law_right ) := by
  unfold T_law_right S_law_right
  exact run_go (p := [some (.fz (En.e (Cup.mk : Cup))), some .no, some .no, some .no, some .no, some .no, some .no, some .no, some .no, some .no, some .no, some .no, some .no, some .no, some .no, some .no, some .no, some .no, some .no, some .no, some .no, some .no, some .no, some .no, some .no, some .no]) (xs_seq (xs_asgT (fun (x : P2 (List Nat) (List Nat)) => [some (.fz (En.e (Cup.mk : Cup))), some (.fz (En.e (x.a : List Nat))), some (.fz (En.e (x.b : List Nat))), some .no, some .no, some .no, some .no, some .no, some .no, some .no, some .no, some .no, some .no, some .no, some .no, some .no, some .no, some .no, some .no, some .no, some .no, some .no, some .no, some .no, some .no, some .no]) (xa (xf_p (x_var (Cup.mk : Cup) rfl) (xf_nil (t_law_two)))) (xt_two (fun _ => rfl) (lt_ok rfl) (lt_ok rfl)) (fun (x : P2 (List Nat) (List Nat)) => (xc_sk (xs_seq (xs_asgT (fun (x3 : P2 Int Int) => [some (.fz (En.e (Cup.mk : Cup))), some (.fz (En.e (x.a : List Nat))), some (.fz (En.e (x.b : List Nat))), some (.fz (En.e (x3.a : Int))), some (.fz (En.e (x3.b : Int))), some .no, some .no, some .no, some .no, some .no, some .no, some .no, some .no, some .no, some .no, some .no, some .no, some .no, some .no, some .no, some .no, some .no, some .no, some .no, some .no, some .no]) (xa (xf_m (xo_p (x_c (3 : Int) rfl) (xg_m (xa (xf_p (x_var (Cup.mk : Cup) rfl) (xf_p (x_c (10 : Int) rfl) (xf_nil (r_roll _ _))))) fun y => (r_addI _ _))) fun x1 => (xf_m (xo_p (x_c (1 : Int) rfl) (xg_m (xa (xf_p (x_var (Cup.mk : Cup) rfl) (xf_p (x_c (8 : Int) rfl) (xf_nil (r_roll _ _))))) fun y1 => (r_addI _ _))) fun x2 => (xf_nil (r_tup2 _ _))))) (xt_two (fun _ => rfl) (lt_ok rfl) (lt_ok rfl)) (fun (x3 : P2 Int Int) => (xc_sk (xs_seq (xs_par (fun (size : Int) (period : Int) => [some (.fz (En.e (Cup.mk : Cup))), some (.fz (En.e (x.a : List Nat))), some (.fz (En.e (x.b : List Nat))), some (.fz (En.e (x3.a : Int))), some (.fz (En.e (x3.b : Int))), some (.fz (En.e (size : Int))), some (.fz (En.e (period : Int))), some .no, some .no, some .no, some .no, some .no, some .no, some .no, some .no, some .no, some .no, some .no, some .no, some .no, some .no, some .no, some .no, some .no, some .no, some .no]) (xa (xf_p (x_var (x.a : List Nat) rfl) (xf_p (x_var (x.b : List Nat) rfl) (xf_nil (t_law_period _ _))))) (x_c (1 : Int) rfl) (fun _ _ => rfl) (lt_ok rfl) (lt_ok rfl) (fun (size : Int) (period : Int) => (xc_sk (xs_seq (xs_whileN (σ := Int) period (fun (s : Int) => [some (.fz (En.e (Cup.mk : Cup))), some (.fz (En.e (x.a : List Nat))), some (.fz (En.e (x.b : List Nat))), some (.fz (En.e (x3.a : Int))), some (.fz (En.e (x3.b : Int))), some (.fz (En.e (size : Int))), some (.fz (En.e (s : Int))), some .no, some .no, some .no, some .no, some .no, some .no, some .no, some .no, some .no, some .no, some .no, some .no, some .no, some .no, some .no, some .no, some .no, some .no, some .no]) (.k (.k (.k (.k (.k (.k (.k (.k (.k (.k (.k (.k (.k (.k (.k (.k (.k (.k (.k (.k (.k (.k (.k (.k (.k (.k .n)))))))))))))))))))))))))) (fun (s : Int) => (xr_m (xo_m (xo_m (xo_p (x_var (s : Int) rfl) (xg_p (x_var (x3.a : Int) rfl) (r_mulI _ _))) fun x65 => xg_m (xu (xg_p (x_var (x.a : List Nat) rfl) (r_lenS _))) fun y29 => (r_modI _ _)) fun x66 => xg_p (x_c (0 : Int) rfl) (r_ne (α := Int) _ _)) (xo_m (xo_m (xo_p (x_var (s : Int) rfl) (xg_p (x_var (x3.a : Int) rfl) (r_mulI _ _))) fun x67 => xg_m (xu (xg_p (x_var (x.b : List Nat) rfl) (r_lenS _))) fun y30 => (r_modI _ _)) fun x68 => xg_p (x_c (0 : Int) rfl) (r_ne (α := Int) _ _)))) (fun (s : Int) => (xs_asg (fun (period2 : Int) => [some (.fz (En.e (Cup.mk : Cup))), some (.fz (En.e (x.a : List Nat))), some (.fz (En.e (x.b : List Nat))), some (.fz (En.e (x3.a : Int))), some (.fz (En.e (x3.b : Int))), some (.fz (En.e (size : Int))), some (.fz (En.e (period2 : Int))), some .no, some .no, some .no, some .no, some .no, some .no, some .no, some .no, some .no, some .no, some .no, some .no, some .no, some .no, some .no, some .no, some .no, some .no, some .no]) (xo_p (x_var (s : Int) rfl) (xg_p (x_c (1 : Int) rfl) (r_addI _ _))) (fun _ => rfl) (lt_ok rfl) (fun (period2 : Int) => (xc_nxN (s := period2) (.k (.k (.k (.k (.k (.k (.k (.k (.k (.k (.k (.k (.k (.k (.k (.k (.k (.k (.k (.k (.k (.k (.k (.k (.k (.k .n)))))))))))))))))))))))))))))) (fun (s : Int) => (xc_sk (xs_seq (xs_asg (fun (long : Int) => [some (.fz (En.e (Cup.mk : Cup))), some (.fz (En.e (x.a : List Nat))), some (.fz (En.e (x.b : List Nat))), some (.fz (En.e (x3.a : Int))), some (.fz (En.e (x3.b : Int))), some (.fz (En.e (size : Int))), some (.fz (En.e (s : Int))), some (.fz (En.e (long : Int))), some .no, some .no, some .no, some .no, some .no, some .no, some .no, some .no, some .no, some .no, some .no, some .no, some .no, some .no, some .no, some .no, some .no, some .no]) (xo_p (xo_p (x_var (x3.b : Int) rfl) (xg_p (x_var (s : Int) rfl) (r_maxX2 _ _))) (xg_p (x_var (x3.a : Int) rfl) (r_mulI _ _))) (fun _ => rfl) (lt_ok rfl) (fun (long : Int) => (xc_sk (xs_seq (xs_asgT (fun (x6 : P2 (List Nat) (List Nat)) => [some (.fz (En.e (Cup.mk : Cup))), some (.fz (En.e (x.a : List Nat))), some (.fz (En.e (x.b : List Nat))), some (.fz (En.e (x3.a : Int))), some (.fz (En.e (x3.b : Int))), some (.fz (En.e (size : Int))), some (.fz (En.e (s : Int))), some (.fz (En.e (long : Int))), some (.fz (En.e (x6.a : List Nat))), some (.fz (En.e (x6.b : List Nat))), some .no, some .no, some .no, some .no, some .no, some .no, some .no, some .no, some .no, some .no, some .no, some .no, some .no, some .no, some .no, some .no]) (xa (xf_m (xa (xf_p (x_var (x.a : List Nat) rfl) (xf_p (x_var (long : Int) rfl) (xf_nil (t_law_gone _ _))))) fun x4 => (xf_m (xa (xf_p (x_var (x.b : List Nat) rfl) (xf_p (x_var (long : Int) rfl) (xf_nil (t_law_gone _ _))))) fun x5 => (xf_nil (r_tup2 _ _))))) (xt_two (fun _ => rfl) (lt_ok rfl) (lt_ok rfl)) (fun (x6 : P2 (List Nat) (List Nat)) => (xc_sk (xs_seq (xs_asg (fun (rows : List (P2 (List Nat) (List Nat))) => [some (.fz (En.e (Cup.mk : Cup))), some (.fz (En.e (x.a : List Nat))), some (.fz (En.e (x.b : List Nat))), some (.fz (En.e (x3.a : Int))), some (.fz (En.e (x3.b : Int))), some (.fz (En.e (size : Int))), some (.fz (En.e (s : Int))), some (.fz (En.e (long : Int))), some (.fz (En.e (x6.a : List Nat))), some (.fz (En.e (x6.b : List Nat))), some .no, some (.fz (En.e (rows : List (P2 (List Nat) (List Nat))))), some .no, some .no, some .no, some .no, some .no, some .no, some .no, some .no, some .no, some .no, some .no, some .no, some .no, some .no]) (x_lcG (p' := fun (at1 : Int) => [some (.fz (En.e (Cup.mk : Cup))), some (.fz (En.e (x.a : List Nat))), some (.fz (En.e (x.b : List Nat))), some (.fz (En.e (x3.a : Int))), some (.fz (En.e (x3.b : Int))), some (.fz (En.e (size : Int))), some (.fz (En.e (s : Int))), some (.fz (En.e (long : Int))), some (.fz (En.e (x6.a : List Nat))), some (.fz (En.e (x6.b : List Nat))), some (.fz (En.e (at1 : Int))), some .no, some .no, some .no, some .no, some .no, some .no, some .no, some .no, some .no, some .no, some .no, some .no, some .no, some .no, some .no]) (wi_r1 (xo_p (x_var (x3.b : Int) rfl) (xg_p (x_var (s : Int) rfl) (r_maxX2 _ _)))) (xt_name (fun _ => rfl) (lt_ok rfl)) (fun (at1 : Int) => x_c true rfl) (fun (at1 : Int) => (xa (xf_m (x_sl_m (x_var (x6.a : List Nat) rfl) (xp_m (xo_p (x_var (at1 : Int) rfl) (xg_p (x_var (x3.a : Int) rfl) (r_mulI _ _)))) (xp_m (xo_p (xo_p (x_var (at1 : Int) rfl) (xg_p (x_c (1 : Int) rfl) (r_addI _ _))) (xg_p (x_var (x3.a : Int) rfl) (r_mulI _ _)))) (fun _ _ _ => r_slS _ _ _)) fun x9 => (xf_m (x_sl_m (x_var (x6.b : List Nat) rfl) (xp_m (xo_p (x_var (at1 : Int) rfl) (xg_p (x_var (x3.a : Int) rfl) (r_mulI _ _)))) (xp_m (xo_p (xo_p (x_var (at1 : Int) rfl) (xg_p (x_c (1 : Int) rfl) (r_addI _ _))) (xg_p (x_var (x3.a : Int) rfl) (r_mulI _ _)))) (fun _ _ _ => r_slS _ _ _)) fun x10 => (xf_nil (r_tup2 _ _))))))) (fun _ => rfl) (lt_ok rfl) (fun (rows : List (P2 (List Nat) (List Nat))) => (xc_sk (xs_seq (xs_if_m (xu (xg_m (xa (xf_m (xa (xf_m (xa (xf_p (x_var (x.a : List Nat) rfl) (xf_p (x_var (x.b : List Nat) rfl) (xf_p (x_var (x3.a : Int) rfl) (xf_nil (t_period_of _ _ _)))))) fun x11 => (xf_m (xa (xf_p (x_var (x.a : List Nat) rfl) (xf_p (x_var (x.b : List Nat) rfl) (xf_p (x_var (x3.a : Int) rfl) (xf_p (x_var (x3.b : Int) rfl) (xf_nil (t_rounds_of _ _ _ _))))))) fun x12 => (xf_nil (r_tup2 _ _))))) fun x13 => (xf_p (xa (xf_p (x_var (s : Int) rfl) (xf_p (xu (xg_p (x_sl_p (x_var (rows : List (P2 (List Nat) (List Nat))) rfl) xp_no (xp_p (x_var (x3.b : Int) rfl)) (r_slL _ _ _)) (r_tupL _))) (xf_nil (r_tup2 _ _))))) (xf_nil (r_sameT (α := P2 Int (Tp (P2 (List Nat) (List Nat)))) _ _))))) fun x14 => (r_not _))) (xs_ret (x_c false rfl) (fun _ => rfl)) (xs_nil (xc_sk (xs_seq (xs_asg (fun (at2 : Int) => [some (.fz (En.e (Cup.mk : Cup))), some (.fz (En.e (x.a : List Nat))), some (.fz (En.e (x.b : List Nat))), some (.fz (En.e (x3.a : Int))), some (.fz (En.e (x3.b : Int))), some (.fz (En.e (size : Int))), some (.fz (En.e (s : Int))), some (.fz (En.e (long : Int))), some (.fz (En.e (x6.a : List Nat))), some (.fz (En.e (x6.b : List Nat))), some (.fz (En.e (at2 : Int))), some (.fz (En.e (rows : List (P2 (List Nat) (List Nat))))), some .no, some .no, some .no, some .no, some .no, some .no, some .no, some .no, some .no, some .no, some .no, some .no, some .no, some .no]) (xa (xf_p (x_var (Cup.mk : Cup) rfl) (xf_p (xu (xg_p (x_var (rows : List (P2 (List Nat) (List Nat))) rfl) (r_lenL _))) (xf_nil (r_roll _ _))))) (fun _ => rfl) (lt_ok rfl) (fun (at2 : Int) => (xc_sk (xs_seq (xs_asg (fun (alike : Tp Int) => [some (.fz (En.e (Cup.mk : Cup))), some (.fz (En.e (x.a : List Nat))), some (.fz (En.e (x.b : List Nat))), some (.fz (En.e (x3.a : Int))), some (.fz (En.e (x3.b : Int))), some (.fz (En.e (size : Int))), some (.fz (En.e (s : Int))), some (.fz (En.e (long : Int))), some (.fz (En.e (x6.a : List Nat))), some (.fz (En.e (x6.b : List Nat))), some (.fz (En.e (at2 : Int))), some (.fz (En.e (rows : List (P2 (List Nat) (List Nat))))), some (.fz (En.e (alike : Tp Int))), some .no, some .no, some .no, some .no, some .no, some .no, some .no, some .no, some .no, some .no, some .no, some .no, some .no]) (xu (xg_m (x_lcG (p' := fun (stake : Int) => [some (.fz (En.e (Cup.mk : Cup))), some (.fz (En.e (x.a : List Nat))), some (.fz (En.e (x.b : List Nat))), some (.fz (En.e (x3.a : Int))), some (.fz (En.e (x3.b : Int))), some (.fz (En.e (size : Int))), some (.fz (En.e (s : Int))), some (.fz (En.e (long : Int))), some (.fz (En.e (x6.a : List Nat))), some (.fz (En.e (x6.b : List Nat))), some (.fz (En.e (at2 : Int))), some (.fz (En.e (rows : List (P2 (List Nat) (List Nat))))), some .no, some .no, some .no, some .no, some .no, some .no, some .no, some .no, some .no, some .no, some .no, some .no, some .no, some (.fz (En.e (stake : Int)))]) (wi_r1 (x_var (x3.a : Int) rfl)) (xt_name (fun _ => rfl) (lt_ok rfl)) (fun (stake : Int) => (xo_m (xo_m (xo_m (xo_p (x_var (rows : List (P2 (List Nat) (List Nat))) rfl) (xg_p (x_var (at2 : Int) rfl) (r_ixL _ _))) fun x15 => xg_p (x_c (0 : Int) rfl) (r_ix21 _)) fun x16 => xg_p (x_var (stake : Int) rfl) (r_ixS _ _)) fun x19 => xg_m (xo_m (xo_m (xo_p (x_var (rows : List (P2 (List Nat) (List Nat))) rfl) (xg_p (x_var (at2 : Int) rfl) (r_ixL _ _))) fun x17 => xg_p (x_c (1 : Int) rfl) (r_ix22 _)) fun x18 => xg_p (x_var (stake : Int) rfl) (r_ixS _ _)) fun y2 => (r_eq (α := Ch) _ _))) (fun (stake : Int) => (x_var (stake : Int) rfl))) fun x20 => (r_tupL _))) (fun _ => rfl) (lt_ok rfl) (fun (alike : Tp Int) => (xc_sk (xs_seq (xs_asg (fun (far : Int) => [some (.fz (En.e (Cup.mk : Cup))), some (.fz (En.e (x.a : List Nat))), some (.fz (En.e (x.b : List Nat))), some (.fz (En.e (x3.a : Int))), some (.fz (En.e (x3.b : Int))), some (.fz (En.e (size : Int))), some (.fz (En.e (s : Int))), some (.fz (En.e (long : Int))), some (.fz (En.e (x6.a : List Nat))), some (.fz (En.e (x6.b : List Nat))), some (.fz (En.e (at2 : Int))), some (.fz (En.e (rows : List (P2 (List Nat) (List Nat))))), some (.fz (En.e (alike : Tp Int))), some (.fz (En.e (far : Int))), some .no, some .no, some .no, some .no, some .no, some .no, some .no, some .no, some .no, some .no, some .no, some .no]) (xo_m (xo_p (x_var (at2 : Int) rfl) (xg_p (x_var (s : Int) rfl) (r_modI _ _))) fun x21 => xg_m (xo_p (x_var (s : Int) rfl) (xg_m (xa (xf_p (x_var (Cup.mk : Cup) rfl) (xf_p (x_c (1000000 : Int) rfl) (xf_nil (r_roll _ _))))) fun y3 => (r_mulI _ _))) fun y4 => (r_addI _ _)) (fun _ => rfl) (lt_ok rfl) (fun (far : Int) => (xc_sk (xs_seq (xs_asg (fun (told : P2 (Tp Int) (Tp Int)) => [some (.fz (En.e (Cup.mk : Cup))), some (.fz (En.e (x.a : List Nat))), some (.fz (En.e (x.b : List Nat))), some (.fz (En.e (x3.a : Int))), some (.fz (En.e (x3.b : Int))), some (.fz (En.e (size : Int))), some (.fz (En.e (s : Int))), some (.fz (En.e (long : Int))), some (.fz (En.e (x6.a : List Nat))), some (.fz (En.e (x6.b : List Nat))), some (.fz (En.e (at2 : Int))), some (.fz (En.e (rows : List (P2 (List Nat) (List Nat))))), some (.fz (En.e (alike : Tp Int))), some (.fz (En.e (far : Int))), some (.fz (En.e (told : P2 (Tp Int) (Tp Int)))), some .no, some .no, some .no, some .no, some .no, some .no, some .no, some .no, some .no, some .no, some .no]) (xa (xf_m (xa (xf_p (x_var (x.a : List Nat) rfl) (xf_p (x_var (x.b : List Nat) rfl) (xf_p (x_var (x3.a : Int) rfl) (xf_p (x_var (at2 : Int) rfl) (xf_nil (t_alike_stakes _ _ _ _))))))) fun x22 => (xf_m (xa (xf_p (x_var (x.a : List Nat) rfl) (xf_p (x_var (x.b : List Nat) rfl) (xf_p (x_var (x3.a : Int) rfl) (xf_p (x_var (far : Int) rfl) (xf_nil (t_alike_stakes _ _ _ _))))))) fun x23 => (xf_nil (r_tup2 _ _))))) (fun _ => rfl) (lt_ok rfl) (fun (told : P2 (Tp Int) (Tp Int)) => (xc_sk (xs_seq (xs_if_m (xu (xg_m (xa (xf_p (x_var (told : P2 (Tp Int) (Tp Int)) rfl) (xf_p (xa (xf_p (x_var (alike : Tp Int) rfl) (xf_p (x_var (alike : Tp Int) rfl) (xf_nil (r_tup2 _ _))))) (xf_nil (r_sameT (α := P2 (Tp Int) (Tp Int)) _ _))))) fun x24 => (r_not _))) (xs_ret (x_c false rfl) (fun _ => rfl)) (xs_nil (xc_sk (xs_seq (xs_asg (fun (many : Int) => [some (.fz (En.e (Cup.mk : Cup))), some (.fz (En.e (x.a : List Nat))), some (.fz (En.e (x.b : List Nat))), some (.fz (En.e (x3.a : Int))), some (.fz (En.e (x3.b : Int))), some (.fz (En.e (size : Int))), some (.fz (En.e (s : Int))), some (.fz (En.e (long : Int))), some (.fz (En.e (x6.a : List Nat))), some (.fz (En.e (x6.b : List Nat))), some (.fz (En.e (at2 : Int))), some (.fz (En.e (rows : List (P2 (List Nat) (List Nat))))), some (.fz (En.e (alike : Tp Int))), some (.fz (En.e (far : Int))), some (.fz (En.e (told : P2 (Tp Int) (Tp Int)))), some .no, some .no, some (.fz (En.e (many : Int))), some .no, some .no, some .no, some .no, some .no, some .no, some .no, some .no]) (xu (xg_m (x_lcP (p' := fun (a : P2 Ch Ch) => [some (.fz (En.e (Cup.mk : Cup))), some (.fz (En.e (x.a : List Nat))), some (.fz (En.e (x.b : List Nat))), some (.fz (En.e (x3.a : Int))), some (.fz (En.e (x3.b : Int))), some (.fz (En.e (size : Int))), some (.fz (En.e (s : Int))), some (.fz (En.e (long : Int))), some (.fz (En.e (x6.a : List Nat))), some (.fz (En.e (x6.b : List Nat))), some (.fz (En.e (at2 : Int))), some (.fz (En.e (rows : List (P2 (List Nat) (List Nat))))), some (.fz (En.e (alike : Tp Int))), some (.fz (En.e (far : Int))), some (.fz (En.e (told : P2 (Tp Int) (Tp Int)))), some (.fz (En.e (a.a : Ch))), some (.fz (En.e (a.b : Ch))), some .no, some .no, some .no, some .no, some .no, some .no, some .no, some .no, some .no]) (wi_zip (x_sl_m (x_var (x6.a : List Nat) rfl) xp_no (xp_m (xo_p (x_var (x3.b : Int) rfl) (xg_p (x_var (x3.a : Int) rfl) (r_mulI _ _)))) (fun _ _ _ => r_slS _ _ _)) (x_sl_m (x_var (x6.b : List Nat) rfl) xp_no (xp_m (xo_p (x_var (x3.b : Int) rfl) (xg_p (x_var (x3.a : Int) rfl) (r_mulI _ _)))) (fun _ _ _ => r_slS _ _ _)) rf_chs rf_chs) (xt_two (fun _ => rfl) (lt_ok rfl) (lt_ok rfl)) (fun (a : P2 Ch Ch) => (xo_p (x_var (a.a : Ch) rfl) (xg_p (x_var (a.b : Ch) rfl) (r_eq (α := Ch) _ _)))) (fun (a : P2 Ch Ch) => (x_c (1 : Int) rfl))) fun x27 => (r_lenL _))) (fun _ => rfl) (lt_ok rfl) (fun (many : Int) => (xc_sk (xs_seq (xs_asg (fun (whole : Int) => [some (.fz (En.e (Cup.mk : Cup))), some (.fz (En.e (x.a : List Nat))), some (.fz (En.e (x.b : List Nat))), some (.fz (En.e (x3.a : Int))), some (.fz (En.e (x3.b : Int))), some (.fz (En.e (size : Int))), some (.fz (En.e (s : Int))), some (.fz (En.e (long : Int))), some (.fz (En.e (x6.a : List Nat))), some (.fz (En.e (x6.b : List Nat))), some (.fz (En.e (at2 : Int))), some (.fz (En.e (rows : List (P2 (List Nat) (List Nat))))), some (.fz (En.e (alike : Tp Int))), some (.fz (En.e (far : Int))), some (.fz (En.e (told : P2 (Tp Int) (Tp Int)))), some .no, some .no, some (.fz (En.e (many : Int))), some (.fz (En.e (whole : Int))), some .no, some .no, some .no, some .no, some .no, some .no, some .no]) (xu (xg_m (x_lcP (p' := fun (a1 : P2 Ch Ch) => [some (.fz (En.e (Cup.mk : Cup))), some (.fz (En.e (x.a : List Nat))), some (.fz (En.e (x.b : List Nat))), some (.fz (En.e (x3.a : Int))), some (.fz (En.e (x3.b : Int))), some (.fz (En.e (size : Int))), some (.fz (En.e (s : Int))), some (.fz (En.e (long : Int))), some (.fz (En.e (x6.a : List Nat))), some (.fz (En.e (x6.b : List Nat))), some (.fz (En.e (at2 : Int))), some (.fz (En.e (rows : List (P2 (List Nat) (List Nat))))), some (.fz (En.e (alike : Tp Int))), some (.fz (En.e (far : Int))), some (.fz (En.e (told : P2 (Tp Int) (Tp Int)))), some (.fz (En.e (a1.a : Ch))), some (.fz (En.e (a1.b : Ch))), some (.fz (En.e (many : Int))), some .no, some .no, some .no, some .no, some .no, some .no, some .no, some .no]) (wi_zip (xa (xf_p (x_var (x.a : List Nat) rfl) (xf_p (x_var (size : Int) rfl) (xf_nil (t_law_gone _ _))))) (xa (xf_p (x_var (x.b : List Nat) rfl) (xf_p (x_var (size : Int) rfl) (xf_nil (t_law_gone _ _))))) rf_chs rf_chs) (xt_two (fun _ => rfl) (lt_ok rfl) (lt_ok rfl)) (fun (a1 : P2 Ch Ch) => (xo_p (x_var (a1.a : Ch) rfl) (xg_p (x_var (a1.b : Ch) rfl) (r_eq (α := Ch) _ _)))) (fun (a1 : P2 Ch Ch) => (x_c (1 : Int) rfl))) fun x28 => (r_lenL _))) (fun _ => rfl) (lt_ok rfl) (fun (whole : Int) => (xc_sk (xs_seq (xs_asg (fun (times : Int) => [some (.fz (En.e (Cup.mk : Cup))), some (.fz (En.e (x.a : List Nat))), some (.fz (En.e (x.b : List Nat))), some (.fz (En.e (x3.a : Int))), some (.fz (En.e (x3.b : Int))), some (.fz (En.e (size : Int))), some (.fz (En.e (s : Int))), some (.fz (En.e (long : Int))), some (.fz (En.e (x6.a : List Nat))), some (.fz (En.e (x6.b : List Nat))), some (.fz (En.e (at2 : Int))), some (.fz (En.e (rows : List (P2 (List Nat) (List Nat))))), some (.fz (En.e (alike : Tp Int))), some (.fz (En.e (far : Int))), some (.fz (En.e (told : P2 (Tp Int) (Tp Int)))), some .no, some .no, some (.fz (En.e (many : Int))), some (.fz (En.e (whole : Int))), some (.fz (En.e (times : Int))), some .no, some .no, some .no, some .no, some .no, some .no]) (xa (xf_p (x_var (Cup.mk : Cup) rfl) (xf_p (x_c (1000000 : Int) rfl) (xf_nil (r_roll _ _))))) (fun _ => rfl) (lt_ok rfl) (fun (times : Int) => (xc_sk (xs_seq (xs_asg (fun (told1 : P2 Int Int) => [some (.fz (En.e (Cup.mk : Cup))), some (.fz (En.e (x.a : List Nat))), some (.fz (En.e (x.b : List Nat))), some (.fz (En.e (x3.a : Int))), some (.fz (En.e (x3.b : Int))), some (.fz (En.e (size : Int))), some (.fz (En.e (s : Int))), some (.fz (En.e (long : Int))), some (.fz (En.e (x6.a : List Nat))), some (.fz (En.e (x6.b : List Nat))), some (.fz (En.e (at2 : Int))), some (.fz (En.e (rows : List (P2 (List Nat) (List Nat))))), some (.fz (En.e (alike : Tp Int))), some (.fz (En.e (far : Int))), some (.fz (En.e (told1 : P2 Int Int))), some .no, some .no, some (.fz (En.e (many : Int))), some (.fz (En.e (whole : Int))), some (.fz (En.e (times : Int))), some .no, some .no, some .no, some .no, some .no, some .no]) (xa (xf_m (xa (xf_p (x_var (x.a : List Nat) rfl) (xf_p (x_var (x.b : List Nat) rfl) (xf_p (x_var (x3.a : Int) rfl) (xf_p (x_var (x3.b : Int) rfl) (xf_nil (t_alike_many _ _ _ _))))))) fun x30 => (xf_m (xa (xf_p (x_var (x.a : List Nat) rfl) (xf_p (x_var (x.b : List Nat) rfl) (xf_p (x_var (x3.a : Int) rfl) (xf_m (xo_p (x_var (s : Int) rfl) (xg_p (x_var (times : Int) rfl) (r_mulI _ _))) fun x29 => (xf_nil (t_alike_many _ _ _ _))))))) fun x31 => (xf_nil (r_tup2 _ _))))) (fun _ => rfl) (lt_ok rfl) (fun (told1 : P2 Int Int) => (xc_sk (xs_seq (xs_if_m (xu (xg_m (xa (xf_p (x_var (told1 : P2 Int Int) rfl) (xf_m (xa (xf_p (x_var (many : Int) rfl) (xf_m (xo_m (xo_m (xo_m (xo_p (x_var (s : Int) rfl) (xg_p (x_var (times : Int) rfl) (r_mulI _ _))) fun x32 => xg_p (x_var (x3.a : Int) rfl) (r_mulI _ _)) fun x33 => xg_p (x_var (size : Int) rfl) (r_divI _ _)) fun x34 => xg_p (x_var (whole : Int) rfl) (r_mulI _ _)) fun x35 => (xf_nil (r_tup2 _ _))))) fun x36 => (xf_nil (r_sameT (α := P2 Int Int) _ _))))) fun x37 => (r_not _))) (xs_ret (x_c false rfl) (fun _ => rfl)) (xs_nil (xc_sk (xs_seq (xs_asgT (fun (x55 : P3 (List (List Nat)) (Option Int) (Tp Int)) => [some (.fz (En.e (Cup.mk : Cup))), some (.fz (En.e (x.a : List Nat))), some (.fz (En.e (x.b : List Nat))), some (.fz (En.e (x3.a : Int))), some (.fz (En.e (x3.b : Int))), some (.fz (En.e (size : Int))), some (.fz (En.e (s : Int))), some (.fz (En.e (long : Int))), some (.fz (En.e (x6.a : List Nat))), some (.fz (En.e (x6.b : List Nat))), some (.fz (En.e (at2 : Int))), some (.fz (En.e (rows : List (P2 (List Nat) (List Nat))))), some (.fz (En.e (alike : Tp Int))), some (.fz (En.e (far : Int))), some (.fz (En.e (told1 : P2 Int Int))), some .no, some .no, some (.fz (En.e (many : Int))), some (.fz (En.e (whole : Int))), some (.fz (En.e (times : Int))), some (.fz (En.e (x55.a : List (List Nat)))), some (.fz (En.e (x55.b : Option Int))), some (.fz (En.e (x55.c : Tp Int))), some .no, some .no, some .no]) (xa (xf_m (xo_p (xa (xf_p (x_c ([] : List Nat) rfl) (xf_nil (r_lst ([([] : List Nat)] : List (List Nat)) rfl)))) (xg_p (x_var (x3.a : Int) rfl) (r_repL _ _))) fun x54 => (xf_p (x_cast (a := (() : Unit)) (b := ((none : Option Int) : Option Int)) rfl (x_c () rfl)) (xf_p (x_cast (a := ((⟨[]⟩ : Tp Unit) : Tp Unit)) (b := ((⟨[]⟩ : Tp Int) : Tp Int)) rfl (xa (xf_nil r_tup0))) (xf_nil (r_tup3 _ _ _)))))) (xt_three (fun _ => rfl) (lt_ok rfl) (lt_ok rfl) (lt_ok rfl)) (fun (x55 : P3 (List (List Nat)) (Option Int) (Tp Int)) => (xc_sk (xs_seq (xs_forN (σ := (List (List Nat)) × (Option Int) × (Tp Int)) (x55.a, x55.b, x55.c) (fun (s3 : (List (List Nat)) × (Option Int) × (Tp Int)) => [some (.fz (En.e (Cup.mk : Cup))), some (.fz (En.e (x.a : List Nat))), some (.fz (En.e (x.b : List Nat))), some (.fz (En.e (x3.a : Int))), some (.fz (En.e (x3.b : Int))), some (.fz (En.e (size : Int))), some (.fz (En.e (s : Int))), some (.fz (En.e (long : Int))), some (.fz (En.e (x6.a : List Nat))), some (.fz (En.e (x6.b : List Nat))), some (.fz (En.e (at2 : Int))), some (.fz (En.e (rows : List (P2 (List Nat) (List Nat))))), some (.fz (En.e (alike : Tp Int))), some (.fz (En.e (far : Int))), some (.fz (En.e (told1 : P2 Int Int))), none, none, some (.fz (En.e (many : Int))), some (.fz (En.e (whole : Int))), some (.fz (En.e (times : Int))), some (.fz (En.e (s3.1 : List (List Nat)))), some (.fz (En.e (s3.2.1 : Option Int))), some (.fz (En.e (s3.2.2 : Tp Int))), none, none, some .no]) (fun (count : P2 Int (P2 (List Nat) (List Nat))) (s3 : (List (List Nat)) × (Option Int) × (Tp Int)) => [some (.fz (En.e (Cup.mk : Cup))), some (.fz (En.e (x.a : List Nat))), some (.fz (En.e (x.b : List Nat))), some (.fz (En.e (x3.a : Int))), some (.fz (En.e (x3.b : Int))), some (.fz (En.e (size : Int))), some (.fz (En.e (s : Int))), some (.fz (En.e (long : Int))), some (.fz (En.e (x6.a : List Nat))), some (.fz (En.e (x6.b : List Nat))), some (.fz (En.e (at2 : Int))), some (.fz (En.e (rows : List (P2 (List Nat) (List Nat))))), some (.fz (En.e (alike : Tp Int))), some (.fz (En.e (far : Int))), some (.fz (En.e (told1 : P2 Int Int))), some (.fz (En.e (count.b.a : List Nat))), some (.fz (En.e (count.b.b : List Nat))), some (.fz (En.e (many : Int))), some (.fz (En.e (whole : Int))), some (.fz (En.e (times : Int))), some (.fz (En.e (s3.1 : List (List Nat)))), some (.fz (En.e (s3.2.1 : Option Int))), some (.fz (En.e (s3.2.2 : Tp Int))), some (.fz (En.e (count.a : Int))), none, some .no]) (wi_enum (wi_lst (x_var (rows : List (P2 (List Nat) (List Nat))) rfl))) (.k (.k (.k (.k (.k (.k (.k (.k (.k (.k (.k (.k (.k (.k (.k (.d (.d (.k (.k (.k (.k (.k (.k (.d (.d (.k .n)))))))))))))))))))))))))) (fun _ => (xt_nest (fun _ => rfl) (lt_ok rfl) (lt_ok rfl) (lt_ok rfl))) (fun (count : P2 Int (P2 (List Nat) (List Nat))) (s3 : (List (List Nat)) × (Option Int) × (Tp Int)) => (xs_seq (xs_asg (fun (seen5 : List (List Nat)) => [some (.fz (En.e (Cup.mk : Cup))), some (.fz (En.e (x.a : List Nat))), some (.fz (En.e (x.b : List Nat))), some (.fz (En.e (x3.a : Int))), some (.fz (En.e (x3.b : Int))), some (.fz (En.e (size : Int))), some (.fz (En.e (s : Int))), some (.fz (En.e (long : Int))), some (.fz (En.e (x6.a : List Nat))), some (.fz (En.e (x6.b : List Nat))), some (.fz (En.e (at2 : Int))), some (.fz (En.e (rows : List (P2 (List Nat) (List Nat))))), some (.fz (En.e (alike : Tp Int))), some (.fz (En.e (far : Int))), some (.fz (En.e (told1 : P2 Int Int))), some (.fz (En.e (count.b.a : List Nat))), some (.fz (En.e (count.b.b : List Nat))), some (.fz (En.e (many : Int))), some (.fz (En.e (whole : Int))), some (.fz (En.e (times : Int))), some (.fz (En.e (seen5 : List (List Nat)))), some (.fz (En.e (s3.2.1 : Option Int))), some (.fz (En.e (s3.2.2 : Tp Int))), some (.fz (En.e (count.a : Int))), none, some .no]) (x_lcG (p' := fun (stake11 : Int) => [some (.fz (En.e (Cup.mk : Cup))), some (.fz (En.e (x.a : List Nat))), some (.fz (En.e (x.b : List Nat))), some (.fz (En.e (x3.a : Int))), some (.fz (En.e (x3.b : Int))), some (.fz (En.e (size : Int))), some (.fz (En.e (s : Int))), some (.fz (En.e (long : Int))), some (.fz (En.e (x6.a : List Nat))), some (.fz (En.e (x6.b : List Nat))), some (.fz (En.e (at2 : Int))), some (.fz (En.e (rows : List (P2 (List Nat) (List Nat))))), some (.fz (En.e (alike : Tp Int))), some (.fz (En.e (far : Int))), some (.fz (En.e (told1 : P2 Int Int))), some (.fz (En.e (count.b.a : List Nat))), some (.fz (En.e (count.b.b : List Nat))), some (.fz (En.e (many : Int))), some (.fz (En.e (whole : Int))), some (.fz (En.e (times : Int))), some (.fz (En.e (s3.1 : List (List Nat)))), some (.fz (En.e (s3.2.1 : Option Int))), some (.fz (En.e (s3.2.2 : Tp Int))), some (.fz (En.e (count.a : Int))), none, some (.fz (En.e (stake11 : Int)))]) (wi_r1 (x_var (x3.a : Int) rfl)) (xt_name (fun _ => rfl) (lt_ok rfl)) (fun (stake11 : Int) => x_c true rfl) (fun (stake11 : Int) => (xo_m (xo_m (xo_p (x_var (s3.1 : List (List Nat)) rfl) (xg_p (x_var (stake11 : Int) rfl) (r_ixL _ _))) fun x59 => xg_m (x_castM (fun (x_ : Ch) => ([x_.c] : List Nat)) (fun _ => rfl) (xo_p (x_var (count.b.a : List Nat) rfl) (xg_p (x_var (stake11 : Int) rfl) (r_ixS _ _)))) fun y25 => (r_addS _ _)) fun x60 => xg_m (x_castM (fun (x_ : Ch) => ([x_.c] : List Nat)) (fun _ => rfl) (xo_p (x_var (count.b.b : List Nat) rfl) (xg_p (x_var (stake11 : Int) rfl) (r_ixS _ _)))) fun y26 => (r_addS _ _)))) (fun _ => rfl) (lt_ok rfl) (fun (seen5 : List (List Nat)) => (xc_sk (xs_seq (xs_asg (fun (now5 : Tp Int) => [some (.fz (En.e (Cup.mk : Cup))), some (.fz (En.e (x.a : List Nat))), some (.fz (En.e (x.b : List Nat))), some (.fz (En.e (x3.a : Int))), some (.fz (En.e (x3.b : Int))), some (.fz (En.e (size : Int))), some (.fz (En.e (s : Int))), some (.fz (En.e (long : Int))), some (.fz (En.e (x6.a : List Nat))), some (.fz (En.e (x6.b : List Nat))), some (.fz (En.e (at2 : Int))), some (.fz (En.e (rows : List (P2 (List Nat) (List Nat))))), some (.fz (En.e (alike : Tp Int))), some (.fz (En.e (far : Int))), some (.fz (En.e (told1 : P2 Int Int))), some (.fz (En.e (count.b.a : List Nat))), some (.fz (En.e (count.b.b : List Nat))), some (.fz (En.e (many : Int))), some (.fz (En.e (whole : Int))), some (.fz (En.e (times : Int))), some (.fz (En.e (seen5 : List (List Nat)))), some (.fz (En.e (s3.2.1 : Option Int))), some (.fz (En.e (s3.2.2 : Tp Int))), some (.fz (En.e (count.a : Int))), some (.fz (En.e (now5 : Tp Int))), some .no]) (xu (xg_m (x_lcG (p' := fun (stake12 : Int) => [some (.fz (En.e (Cup.mk : Cup))), some (.fz (En.e (x.a : List Nat))), some (.fz (En.e (x.b : List Nat))), some (.fz (En.e (x3.a : Int))), some (.fz (En.e (x3.b : Int))), some (.fz (En.e (size : Int))), some (.fz (En.e (s : Int))), some (.fz (En.e (long : Int))), some (.fz (En.e (x6.a : List Nat))), some (.fz (En.e (x6.b : List Nat))), some (.fz (En.e (at2 : Int))), some (.fz (En.e (rows : List (P2 (List Nat) (List Nat))))), some (.fz (En.e (alike : Tp Int))), some (.fz (En.e (far : Int))), some (.fz (En.e (told1 : P2 Int Int))), some (.fz (En.e (count.b.a : List Nat))), some (.fz (En.e (count.b.b : List Nat))), some (.fz (En.e (many : Int))), some (.fz (En.e (whole : Int))), some (.fz (En.e (times : Int))), some (.fz (En.e (seen5 : List (List Nat)))), some (.fz (En.e (s3.2.1 : Option Int))), some (.fz (En.e (s3.2.2 : Tp Int))), some (.fz (En.e (count.a : Int))), none, some (.fz (En.e (stake12 : Int)))]) (wi_r1 (x_var (x3.a : Int) rfl)) (xt_name (fun _ => rfl) (lt_ok rfl)) (fun (stake12 : Int) => (xn_m (xo_p (x_c (Ch.mk 105) rfl) (xg_m (xo_p (x_var (seen5 : List (List Nat)) rfl) (xg_p (x_var (stake12 : Int) rfl) (r_ixL _ _))) fun y27 => (r_inS _ _))) (xo_p (x_c (Ch.mk 111) rfl) (xg_m (xo_p (x_var (seen5 : List (List Nat)) rfl) (xg_p (x_var (stake12 : Int) rfl) (r_ixL _ _))) fun y28 => (r_inS _ _))))) (fun (stake12 : Int) => (x_var (stake12 : Int) rfl))) fun x61 => (r_tupL _))) (fun _ => rfl) (lt_ok rfl) (fun (now5 : Tp Int) => (xc_sk (xs_seq (xs_asg (fun (holds5 : Option Int) => [some (.fz (En.e (Cup.mk : Cup))), some (.fz (En.e (x.a : List Nat))), some (.fz (En.e (x.b : List Nat))), some (.fz (En.e (x3.a : Int))), some (.fz (En.e (x3.b : Int))), some (.fz (En.e (size : Int))), some (.fz (En.e (s : Int))), some (.fz (En.e (long : Int))), some (.fz (En.e (x6.a : List Nat))), some (.fz (En.e (x6.b : List Nat))), some (.fz (En.e (at2 : Int))), some (.fz (En.e (rows : List (P2 (List Nat) (List Nat))))), some (.fz (En.e (alike : Tp Int))), some (.fz (En.e (far : Int))), some (.fz (En.e (told1 : P2 Int Int))), some (.fz (En.e (count.b.a : List Nat))), some (.fz (En.e (count.b.b : List Nat))), some (.fz (En.e (many : Int))), some (.fz (En.e (whole : Int))), some (.fz (En.e (times : Int))), some (.fz (En.e (seen5 : List (List Nat)))), some (.fz (En.e (holds5 : Option Int))), some (.fz (En.e (s3.2.2 : Tp Int))), some (.fz (En.e (count.a : Int))), some (.fz (En.e (now5 : Tp Int))), some .no]) (xi_pp (xn_pp (xo_p (x_var (s3.2.1 : Option Int) rfl) (xg_p (x_c () rfl) (r_isO _ _))) (xn_pp (xo_p (xu (xg_p (x_var (now5 : Tp Int) rfl) (r_lenT _))) (xg_p (x_var (x3.a : Int) rfl) (r_eq (α := Int) _ _))) (xo_p (x_var (count.a : Int) rfl) (xg_p (x_var (s : Int) rfl) (r_ltXI _ _))))) (x_cast (a := ((count.a + (1 : Int)) : Int)) (b := ((some (count.a + (1 : Int)) : Option Int) : Option Int)) rfl (xo_p (x_var (count.a : Int) rfl) (xg_p (x_c (1 : Int) rfl) (r_addI _ _)))) (x_var (s3.2.1 : Option Int) rfl)) (fun _ => rfl) (lt_ok rfl) (fun (holds5 : Option Int) => (xc_sk (xs_asg (fun (firm5 : Tp Int) => [some (.fz (En.e (Cup.mk : Cup))), some (.fz (En.e (x.a : List Nat))), some (.fz (En.e (x.b : List Nat))), some (.fz (En.e (x3.a : Int))), some (.fz (En.e (x3.b : Int))), some (.fz (En.e (size : Int))), some (.fz (En.e (s : Int))), some (.fz (En.e (long : Int))), some (.fz (En.e (x6.a : List Nat))), some (.fz (En.e (x6.b : List Nat))), some (.fz (En.e (at2 : Int))), some (.fz (En.e (rows : List (P2 (List Nat) (List Nat))))), some (.fz (En.e (alike : Tp Int))), some (.fz (En.e (far : Int))), some (.fz (En.e (told1 : P2 Int Int))), some (.fz (En.e (count.b.a : List Nat))), some (.fz (En.e (count.b.b : List Nat))), some (.fz (En.e (many : Int))), some (.fz (En.e (whole : Int))), some (.fz (En.e (times : Int))), some (.fz (En.e (seen5 : List (List Nat)))), some (.fz (En.e (holds5 : Option Int))), some (.fz (En.e (firm5 : Tp Int))), some (.fz (En.e (count.a : Int))), some (.fz (En.e (now5 : Tp Int))), some .no]) (xi_pp (xo_p (x_var (count.a : Int) rfl) (xg_p (xo_p (x_var (x3.b : Int) rfl) (xg_p (x_c (1 : Int) rfl) (r_subI _ _))) (r_eq (α := Int) _ _))) (x_var (now5 : Tp Int) rfl) (x_var (s3.2.2 : Tp Int) rfl)) (fun _ => rfl) (lt_ok rfl) (fun (firm5 : Tp Int) => (xc_nxN (s := (seen5, holds5, firm5)) (.k (.k (.k (.k (.k (.k (.k (.k (.k (.k (.k (.k (.k (.k (.k (.d (.d (.k (.k (.k (.k (.k (.k (.d (.d (.k .n)))))))))))))))))))))))))))))))))))))))))) (fun (s3 : (List (List Nat)) × (Option Int) × (Tp Int)) => (xc_sk (xs_ret (xa (xf_m (xa (xf_m (xa (xf_p (x_var (x.a : List Nat) rfl) (xf_p (x_var (x.b : List Nat) rfl) (xf_p (x_var (x3.a : Int) rfl) (xf_p (x_var (x3.b : Int) rfl) (xf_nil (t_firm_behind _ _ _ _))))))) fun x62 => (xf_m (xa (xf_p (x_var (x.a : List Nat) rfl) (xf_p (x_var (x.b : List Nat) rfl) (xf_p (x_var (x3.a : Int) rfl) (xf_nil (t_rounds_to_firm _ _ _)))))) fun x63 => (xf_nil (r_tup2 _ _))))) fun x64 => (xf_p (xa (xf_p (x_var (s3.2.2 : Tp Int) rfl) (xf_p (x_var (s3.2.1 : Option Int) rfl) (xf_nil (r_tup2 _ _))))) (xf_nil (r_sameT (α := P2 (Tp Int) (Option Int)) _ _))))) (fun _ => rfl)))))))))))))))))))))))))))))))))))))))))))))))))))))))))))))))))))))))))))))))))) rfl rfl
def T_law : M Bool := (rg1 (3 : Int)).bind fun (xs2 : List Int) => (forT (σ := Unit) (ρ := Bool) (fun (turn : Int) (s : Unit) => ((T_law_right).bind fun x1 => M.ret (!x1)).bind fun b_ => if b_ = true then M.ret (.rt false) else M.ret (.nx ())) xs2 ()).bind (Ct.on (fun (s : Unit) => ((roll (22 : Int)).bind fun y => M.ret ((3 : Int) + y)).bind fun (stakes : Int) => (((roll (12 : Int)).bind fun y1 => M.ret ((1 : Int) + y1)).bind fun x2 => T_law_signs x2).bind fun (word : List Nat) => (((chs word).bind fun xs => lcA xs (fun (sign : Ch) => if (decide (sign = (Ch.mk 105))) = true then (Ch.mk 111) else (Ch.mk 105))).bind fun x3 => joinC x3).bind fun (other : List Nat) => ((T_rounds_to_firm word other stakes).bind fun x4 => (T_alike_many word other stakes (1000000000 : Int)).bind fun x5 => (T_alike_stakes word word stakes (1000000000 : Int)).bind fun x6 => M.ret (⟨x4, x5, x6⟩ : P3 (Option Int) Int (Tp Int))).bind fun (told : P3 (Option Int) Int (Tp Int)) => (((((rg1 stakes).bind fun xs1 => lcA xs1 (fun (at1 : Int) => at1)).bind fun x7 => M.ret (⟨x7⟩ : Tp Int)).bind fun x8 => M.ret (⟨(1 : Int), (0 : Int), x8⟩ : P3 Int Int (Tp Int))).bind fun (x_ : P3 Int Int (Tp Int)) => M.ret (⟨(some x_.a : Option Int), x_.b, x_.c⟩ : P3 (Option Int) Int (Tp Int))).bind fun x9 => same (α := P3 (Option Int) Int (Tp Int)) told x9) (fun (r_ : Bool) => M.ret r_))
theorem t_law : XS RE [some .no, some (.fz (En.e (Cup.mk : Cup))), some .no, some .no, some .no, some .no, some .no, some .no, some .no] B_law finish T_law := by
  unfold T_law
  exact (xs_seq (xs_for (σ := Unit) (R := Bool) () (fun (s : Unit) => [some .no, some (.fz (En.e (Cup.mk : Cup))), none, some .no, some .no, some .no, some .no, some .no, some .no]) (fun (turn : Int) (s : Unit) => [some .no, some (.fz (En.e (Cup.mk : Cup))), some (.fz (En.e (turn : Int))), some .no, some .no, some .no, some .no, some .no, some .no]) (wi_r1 (x_c (3 : Int) rfl)) (.k (.k (.d (.k (.k (.k (.k (.k (.k .n))))))))) (fun _ => (xt_name (fun _ => rfl) (lt_ok rfl))) (fun (turn : Int) (s : Unit) => (xs_if_m (xu (xg_m (xa (xf_p (x_var (Cup.mk : Cup) rfl) (xf_nil (t_law_right)))) fun x1 => (r_not _))) (xs_retC_p (x_c false rfl) (fun _ => rfl)) (xs_nil (xc_nx (s := ()) (.k (.k (.d (.k (.k (.k (.k (.k (.k .n))))))))))))) (fun (s : Unit) => (xc_sk (xs_seq (xs_par (fun (stakes : Int) (word : List Nat) => [some .no, some (.fz (En.e (Cup.mk : Cup))), none, some (.fz (En.e (stakes : Int))), some (.fz (En.e (word : List Nat))), some .no, some .no, some .no, some .no]) (xo_p (x_c (3 : Int) rfl) (xg_m (xa (xf_p (x_var (Cup.mk : Cup) rfl) (xf_p (x_c (22 : Int) rfl) (xf_nil (r_roll _ _))))) fun y => (r_addI _ _))) (xa (xf_p (x_var (Cup.mk : Cup) rfl) (xf_m (xo_p (x_c (1 : Int) rfl) (xg_m (xa (xf_p (x_var (Cup.mk : Cup) rfl) (xf_p (x_c (12 : Int) rfl) (xf_nil (r_roll _ _))))) fun y1 => (r_addI _ _))) fun x2 => (xf_nil (t_law_signs _))))) (fun _ _ => rfl) (lt_ok rfl) (lt_ok rfl) (fun (stakes : Int) (word : List Nat) => (xc_sk (xs_seq (xs_asg (fun (other : List Nat) => [some .no, some (.fz (En.e (Cup.mk : Cup))), none, some (.fz (En.e (stakes : Int))), some (.fz (En.e (word : List Nat))), some (.fz (En.e (other : List Nat))), some .no, some .no, some .no]) (xu (xg_m (x_lcA (p' := fun (sign : Ch) => [some .no, some (.fz (En.e (Cup.mk : Cup))), none, some (.fz (En.e (stakes : Int))), some (.fz (En.e (word : List Nat))), some .no, some .no, some (.fz (En.e (sign : Ch))), some .no]) (wi_str (x_var (word : List Nat) rfl)) (xt_name (fun _ => rfl) (lt_ok rfl)) (fun (sign : Ch) => (xi_pp (xo_p (x_var (sign : Ch) rfl) (xg_p (x_c (Ch.mk 105) rfl) (r_eq (α := Ch) _ _))) (x_c (Ch.mk 111) rfl) (x_c (Ch.mk 105) rfl)))) fun x3 => (r_joinC _))) (fun _ => rfl) (lt_ok rfl) (fun (other : List Nat) => (xc_sk (xs_seq (xs_asg (fun (told : P3 (Option Int) Int (Tp Int)) => [some .no, some (.fz (En.e (Cup.mk : Cup))), none, some (.fz (En.e (stakes : Int))), some (.fz (En.e (word : List Nat))), some (.fz (En.e (other : List Nat))), some (.fz (En.e (told : P3 (Option Int) Int (Tp Int)))), some .no, some .no]) (xa (xf_m (xa (xf_p (x_var (word : List Nat) rfl) (xf_p (x_var (other : List Nat) rfl) (xf_p (x_var (stakes : Int) rfl) (xf_nil (t_rounds_to_firm _ _ _)))))) fun x4 => (xf_m (xa (xf_p (x_var (word : List Nat) rfl) (xf_p (x_var (other : List Nat) rfl) (xf_p (x_var (stakes : Int) rfl) (xf_p (x_c (1000000000 : Int) rfl) (xf_nil (t_alike_many _ _ _ _))))))) fun x5 => (xf_m (xa (xf_p (x_var (word : List Nat) rfl) (xf_p (x_var (word : List Nat) rfl) (xf_p (x_var (stakes : Int) rfl) (xf_p (x_c (1000000000 : Int) rfl) (xf_nil (t_alike_stakes _ _ _ _))))))) fun x6 => (xf_nil (r_tup3 _ _ _)))))) (fun _ => rfl) (lt_ok rfl) (fun (told : P3 (Option Int) Int (Tp Int)) => (xc_sk (xs_ret (xa (xf_p (x_var (told : P3 (Option Int) Int (Tp Int)) rfl) (xf_m (x_castM (fun (x_ : P3 Int Int (Tp Int)) => ((⟨(some x_.a : Option Int), x_.b, x_.c⟩ : P3 (Option Int) Int (Tp Int)) : P3 (Option Int) Int (Tp Int))) (fun _ => rfl) (xa (xf_p (x_c (1 : Int) rfl) (xf_p (x_c (0 : Int) rfl) (xf_m (xu (xg_m (x_lcA (p' := fun (at1 : Int) => [some .no, some (.fz (En.e (Cup.mk : Cup))), none, some (.fz (En.e (stakes : Int))), some (.fz (En.e (word : List Nat))), some (.fz (En.e (other : List Nat))), some (.fz (En.e (told : P3 (Option Int) Int (Tp Int)))), some .no, some (.fz (En.e (at1 : Int)))]) (wi_r1 (x_var (stakes : Int) rfl)) (xt_name (fun _ => rfl) (lt_ok rfl)) (fun (at1 : Int) => (x_var (at1 : Int) rfl))) fun x7 => (r_tupL _))) fun x8 => (xf_nil (r_tup3 _ _ _))))))) fun x9 => (xf_nil (r_sameT (α := P3 (Option Int) Int (Tp Int)) _ _))))) (fun _ => rfl)))))))))))))))) (fun _ => rf_e rfl)))
theorem plain_of (h : T_law.All fun b => b = true) : (lawM 7 B_law).All isTrue1 := law_goT (n := 7) t_law h
end K93
end

section
set_option Elab.async false
set_option linter.all false
set_option maxRecDepth 100000
/-! signs and numbers, shared -/
namespace WK
/-- a value that came, if one did -/
def M.got {α : Type} : M α → Option α
  | .ret a => some a
  | _ => none
theorem M.of_got {α : Type} {m : M α} {a : α} (h : m.got = some a) : m = .ret a := by
  cases m with
  | ret b => exact congrArg M.ret (Option.some.inj h)
  | bad => cases h
  | draw n k => cases h
/-- so many signs -/
structure Sg (n : Nat) (s : List Nat) : Prop where
  len : s.length = n
  io : ∀ c, c ∈ s → c = 105 ∨ c = 111
def isSg (s : List Nat) : Bool := s.all fun c => c == 105 || c == 111
theorem Sg.of {s : List Nat} (h : isSg s = true) : Sg s.length s := ⟨rfl, fun c hc => by
  have := List.all_eq_true.mp h c hc
  simpa using this⟩
theorem Sg.nil : Sg 0 [] := ⟨rfl, by simp⟩
theorem Sg.cons {n c : Nat} {s : List Nat} (hc : c = 105 ∨ c = 111) (h : Sg n s) : Sg (n + 1) (c :: s) := ⟨by simp [h.len], fun x hx => by
  rcases List.mem_cons.mp hx with e | e
  · rw [e]; exact hc
  · exact h.io x e⟩
theorem Sg.app {n m : Nat} {s t : List Nat} (h : Sg n s) (k : Sg m t) : Sg (n + m) (s ++ t) := ⟨by simp [h.len, k.len], fun x hx => by
  rcases List.mem_append.mp hx with e | e
  · exact h.io x e
  · exact k.io x e⟩
theorem Sg.mem {n : Nat} {s : List Nat} (h : Sg n s) (c : Nat) (hc : c ∈ s) : decide (c ∈ ([105, 111] : List Nat)) = true := by
  rcases h.io c hc with e | e <;> subst e <;> decide
/-- the number of signs: i for 0, o for 1, the first the greatest -/
def bit (c : Nat) : Nat := if c = 111 then 1 else 0
def num (s : List Nat) : Nat := s.foldl (fun n c => 2 * n + bit c) 0
theorem num_from : ∀ (s : List Nat) (n : Nat), s.foldl (fun n c => 2 * n + bit c) n = n * 2 ^ s.length + num s
  | [], n => by simp [num]
  | c :: s, n => by
    unfold num
    rw [List.foldl_cons, List.foldl_cons, num_from s, num_from s]
    rw [List.length_cons, Nat.pow_succ]
    simp only [Nat.add_mul, Nat.mul_zero, Nat.zero_add]
    rw [Nat.mul_comm 2 n, Nat.mul_assoc, Nat.mul_comm 2 (2 ^ _), Nat.add_assoc]
theorem num_app (s t : List Nat) : num (s ++ t) = num s * 2 ^ t.length + num t := by
  show (s ++ t).foldl _ 0 = _
  rw [List.foldl_append, num_from]
  rfl
theorem num_cons (c : Nat) (s : List Nat) : num (c :: s) = bit c * 2 ^ s.length + num s := by
  have := num_app [c] s
  simpa [num] using this
theorem bit_le (c : Nat) : bit c ≤ 1 := by unfold bit; split <;> omega
theorem num_lt : ∀ s : List Nat, num s < 2 ^ s.length
  | [] => by simp [num]
  | c :: s => by
    rw [num_cons, List.length_cons, Nat.pow_succ]
    have := num_lt s
    have h := bit_le c
    have : bit c * 2 ^ s.length ≤ 1 * 2 ^ s.length := Nat.mul_le_mul_right _ h
    omega
theorem num_snoc (s : List Nat) (c : Nat) : num (s ++ [c]) = 2 * num s + bit c := by
  rw [num_app]
  simp [num]
  omega
/-- the signs of a number -/
def sg (b : Nat) : Nat := if b % 2 = 1 then 111 else 105
def rb : Nat → Nat → List Nat
  | 0, _ => []
  | n + 1, m => rb n (m / 2) ++ [sg m]
theorem rb_sg : ∀ n m, Sg n (rb n m)
  | 0, _ => .nil
  | n + 1, m => (rb_sg n _).app ⟨rfl, fun c hc => by
    simp at hc
    subst hc
    unfold sg
    split <;> simp⟩
theorem bit_sg (m : Nat) : bit (sg m) = m % 2 := by
  unfold bit sg
  have : m % 2 < 2 := Nat.mod_lt _ (by decide)
  split <;> simp <;> omega
theorem num_rb : ∀ n m, num (rb n m) = m % 2 ^ n
  | 0, m => by simp [rb, num, Nat.mod_one]
  | n + 1, m => by
    rw [rb, num_snoc, num_rb n, bit_sg, Nat.pow_succ, Nat.mul_comm (2 ^ n) 2, Nat.mod_mul]
    omega
theorem rb_num : ∀ (n : Nat) (s : List Nat), Sg n s → rb n (num s) = s
  | 0, s, h => by have := h.len; simp at this; subst this; rfl
  | n + 1, s, h => by
    rcases List.eq_nil_or_concat s with e | ⟨s, c, e⟩
    · subst e; have := h.len; simp at this
    rw [List.concat_eq_append] at e
    subst e
    have hl := h.len
    rw [List.length_append, List.length_singleton] at hl
    have hs : Sg n s := ⟨by omega, fun x hx => h.io x (List.mem_append_left _ hx)⟩
    have hc := h.io c (by simp)
    rw [num_snoc, rb]
    have hb := bit_le c
    rw [show (2 * num s + bit c) / 2 = num s by omega, rb_num n s hs]
    congr 2
    unfold sg
    rcases hc with e | e <;> subst e <;> simp [bit] <;> omega
theorem num_inj {n : Nat} {s t : List Nat} (hs : Sg n s) (ht : Sg n t) (h : num s = num t) : s = t := by
  rw [← rb_num n s hs, ← rb_num n t ht, h]
/-- order by number is order by signs -/
theorem lt_num : ∀ {n : Nat} {s t : List Nat}, Sg n s → Sg n t → (s < t ↔ num s < num t)
  | 0, s, t, hs, ht => by
    have h1 := hs.len
    have h2 := ht.len
    simp at h1 h2
    subst h1 h2
    simp [num]
  | n + 1, s, t, hs, ht => by
    cases s with
    | nil => have := hs.len; simp at this
    | cons c s =>
      cases t with
      | nil => have := ht.len; simp at this
      | cons d t =>
        have ls : s.length = n := by have := hs.len; simpa using this
        have lt : t.length = n := by have := ht.len; simpa using this
        have hs' : Sg n s := ⟨ls, fun x hx => hs.io x (List.mem_cons_of_mem _ hx)⟩
        have ht' : Sg n t := ⟨lt, fun x hx => ht.io x (List.mem_cons_of_mem _ hx)⟩
        have n1 := num_lt s
        have n2 := num_lt t
        rw [ls] at n1
        rw [lt] at n2
        rw [List.cons_lt_cons_iff, num_cons, num_cons, ls, lt, lt_num hs' ht']
        rcases hs.io c List.mem_cons_self with e | e <;> rcases ht.io d List.mem_cons_self with e' | e' <;> subst e e' <;> simp [bit] <;> omega
theorem lcG_map {α β γ : Type} (f : γ → α) (tt : α → M Bool) (te : α → M β) : ∀ xs : List γ, lcG tt te (xs.map f) = lcG (fun x => tt (f x)) (fun x => te (f x)) xs
  | [] => rfl
  | x :: xs => by
    rw [List.map_cons]
    unfold lcG
    rw [lcG_map f tt te xs]
theorem rngI_map (lo : Int) (n : Nat) : rngI lo n = (rngN n).map fun k => lo + k := by
  unfold rngI rngN
  rw [List.map_map]
  rfl
theorem lcM_rngI {β : Type} {lo : Int} {n : Nat} {tt : Int → M Bool} {te : Int → M β} (t : Nat → Bool) (g : Nat → β) (z : n < 16000000) (h1 : ∀ i : Nat, i < n → tt (lo + (i : Int)) = .ret (t i)) (h2 : ∀ i : Nat, i < n → t i = true → te (lo + (i : Int)) = .ret (g i)) : lcM (rngI lo n) tt te = .ret (((List.range n).filter t).map g) := by
  have e : lcM (rngI lo n) tt te = lcM (rngN n) (fun k => tt (lo + k)) (fun k => te (lo + k)) := by
    unfold lcM
    rw [rngI_map, lcG_map, List.length_map]
  rw [e]
  exact lcM_rng t g z h1 h2
theorem rg2_nat {a b : Nat} (h1 : a ≤ 4000000) (h2 : b ≤ 4000000) : rg2 (a : Int) (b : Int) = .ret (rngI a (b - a)) := by
  rw [rg2_ok (by omega) (by omega)]
  congr 2
  omega
/-- a loop that looks for the first -/
theorem forT_findSome {α ρ : Type} {tb : α → Unit → M (Ct Unit ρ)} (g : α → Option ρ) : ∀ xs : List α, (∀ x, x ∈ xs → tb x () = .ret (match g x with
    | some r => .rt r
    | none => .nx ())) → forT tb xs () = .ret (match xs.findSome? g with
    | some r => .rt r
    | none => .nx ())
  | [], _ => rfl
  | x :: xs, h => by
    rw [forT_cons, h x List.mem_cons_self, M.ret_bind, List.findSome?_cons]
    cases g x with
    | some r => rfl
    | none => exact forT_findSome g xs fun y hy => h y (List.mem_cons_of_mem _ hy)
theorem cut_from {α : Type} (xs : List α) (i : Nat) : cut xs (some (i : Int)) none = xs.drop i := by
  unfold cut cutIx
  simp only [show ¬ ((i : Int) < 0) by omega, if_false, Int.toNat_natCast]
  rw [List.take_of_length_le (by simp)]
  by_cases h : i ≤ xs.length
  · rw [Nat.min_eq_left h]
  · rw [Nat.min_eq_right (by omega), List.drop_of_length_le (by omega), List.drop_of_length_le (by omega)]
theorem cut_to {α : Type} (xs : List α) (i : Nat) : cut xs none (some (i : Int)) = xs.take i := by
  unfold cut cutIx
  simp only [show ¬ ((i : Int) < 0) by omega, if_false, Int.toNat_natCast, List.drop_zero, Nat.sub_zero]
  by_cases h : i ≤ xs.length
  · rw [Nat.min_eq_left h]
  · rw [Nat.min_eq_right (by omega), List.take_of_length_le (by omega), List.take_of_length_le (by omega)]
theorem cut_mid {α : Type} (xs : List α) (i j : Nat) : cut xs (some (i : Int)) (some (j : Int)) = (xs.drop i).take (j - i) := by
  unfold cut cutIx
  simp only [show ¬ ((i : Int) < 0) by omega, show ¬ ((j : Int) < 0) by omega, if_false, Int.toNat_natCast]
  by_cases h : i ≤ xs.length
  · rw [Nat.min_eq_left h]
    by_cases k : j ≤ xs.length
    · rw [Nat.min_eq_left k]
    · rw [Nat.min_eq_right (by omega), List.take_of_length_le (by simp), List.take_of_length_le (by simp; omega)]
  · rw [Nat.min_eq_right (show xs.length ≤ i by omega), List.drop_of_length_le (by omega), List.drop_of_length_le (by omega)]
    simp
/-- the signs of a text, as they are walked -/
theorem chs_sg {n : Nat} {s : List Nat} (h : Sg n s) (hn : n ≤ 16000000) : chs s = .ret (s.map Ch.mk) := chs_ok (by rw [h.len]; exact hn)
theorem lcA_ret {α β : Type} {xs : List α} {g : α → β} (z : xs.length < 16000000) : lcA xs g = .ret (xs.map g) := lcA_ok z
end WK
end

section
set_option Elab.async false
set_option linter.all false
set_option maxRecDepth 100000
/-! k79, plain: rods wound again and again -/
namespace WK
theorem once_step {α : Type} [DecidableEq α] (xs : List α) (k : α) : once (xs ++ [k]) = if k ∈ once xs then once xs else once xs ++ [k] := by
  unfold once
  rw [List.foldl_append]
  rfl
theorem mem_once {α : Type} [DecidableEq α] (xs : List α) : ∀ x, x ∈ once xs ↔ x ∈ xs := by
  suffices h : ∀ (xs l : List α) (x : α), x ∈ xs.foldl (fun l k => if k ∈ l then l else l ++ [k]) l ↔ x ∈ l ∨ x ∈ xs by
    intro x; have := h xs [] x; simpa [once] using this
  intro xs
  induction xs with
  | nil => intro l x; simp
  | cons y ys ih =>
    intro l x
    rw [List.foldl_cons, ih]
    split
    · constructor
      · rintro (h | h)
        · exact .inl h
        · exact .inr (List.mem_cons_of_mem _ h)
      · rintro (h | h)
        · exact .inl h
        · rcases List.mem_cons.mp h with e | e
          · subst e; exact .inl (by assumption)
          · exact .inr e
    · simp [List.mem_append, or_assoc]
theorem nodup_once {α : Type} [DecidableEq α] (xs : List α) : (once xs).Nodup := by
  suffices h : ∀ (xs l : List α), l.Nodup → (xs.foldl (fun l k => if k ∈ l then l else l ++ [k]) l).Nodup from h xs [] .nil
  intro xs
  induction xs with
  | nil => intro l h; exact h
  | cons y ys ih =>
    intro l h
    rw [List.foldl_cons]
    refine ih _ ?_
    split
    · exact h
    · rename_i hy
      rw [List.nodup_append]
      refine ⟨h, by simp, fun a ha b hb e => ?_⟩
      simp at hb
      subst hb e
      exact hy ha
/-- what is met again does not count -/
theorem once_app {α : Type} [DecidableEq α] (xs ys : List α) (h : ∀ y, y ∈ ys → y ∈ xs) : once (xs ++ ys) = once xs := by
  suffices k : ∀ (ys l : List α), (∀ y, y ∈ ys → y ∈ l) → ys.foldl (fun l k => if k ∈ l then l else l ++ [k]) l = l by
    unfold once
    rw [List.foldl_append]
    exact k ys _ fun y hy => (mem_once xs y).mpr (h y hy)
  intro ys
  induction ys with
  | nil => intro l _; rfl
  | cons y ys ih =>
    intro l k
    rw [List.foldl_cons, if_pos (k y List.mem_cons_self)]
    exact ih l fun z hz => k z (List.mem_cons_of_mem _ hz)
/-- one sign alone -/
theorem once_one {α : Type} [DecidableEq α] {a b : α} (hab : a ≠ b) {xs : List α} (hne : xs ≠ []) (h : ∀ x, x ∈ xs → x = a ∨ x = b) : ((once xs).length = 1) ↔ ¬ (a ∈ xs ∧ b ∈ xs) := by
  have nd := nodup_once xs
  have mm := mem_once xs
  constructor
  · intro hl ⟨ha, hb⟩
    obtain ⟨c, hc⟩ := List.length_eq_one_iff.mp hl
    have h1 := (mm a).mpr ha
    have h2 := (mm b).mpr hb
    rw [hc] at h1 h2
    simp at h1 h2
    exact hab (h1.trans h2.symm)
  · intro hn
    obtain ⟨x, hx⟩ := List.exists_mem_of_ne_nil xs hne
    have all : ∀ y, y ∈ xs → y = x := fun y hy => by
      rcases h y hy with e | e <;> rcases h x hx with e' | e'
      · rw [e, e']
      · exact absurd ⟨e ▸ hy, e' ▸ hx⟩ hn
      · exact absurd ⟨e' ▸ hx, e ▸ hy⟩ hn
      · rw [e, e']
    cases ho : once xs with
    | nil => have := (mm x).mpr hx; rw [ho] at this; cases this
    | cons y l =>
      cases l with
      | nil => rfl
      | cons z l =>
        have h1 : y = x := all y ((mm y).mp (by rw [ho]; simp))
        have h2 : z = x := all z ((mm z).mp (by rw [ho]; simp))
        rw [ho] at nd
        simp [h1, h2] at nd
/-- a word's sign, gone through again and again -/
def wat (w : List Nat) (i : Nat) : Nat := w.getD (i % w.length) 0
def cell (w : List Nat) (s r c : Nat) : Nat := wat w (r * s + c)
def rowN (w : List Nat) (s r : Nat) : List Nat := (List.range s).map (cell w s r)
def wall (w : List Nat) (s R : Nat) : List (List Nat) := (List.range R).map (rowN w s)
def colN (w : List Nat) (s R c : Nat) : List Nat := (List.range R).map fun r => cell w s r c
def mixN (w : List Nat) (s R c : Nat) : Bool := decide (105 ∈ colN w s R c) && decide (111 ∈ colN w s R c)
def holdsN (w : List Nat) (s R : Nat) : Bool := (List.range s).all (mixN w s R)
def looseN (w : List Nat) (s R : Nat) : List Nat := (List.range s).filter fun c => !mixN w s R c
theorem wat_sg {n : Nat} {w : List Nat} (h : Sg n w) (hn : 0 < n) (i : Nat) : wat w i = 105 ∨ wat w i = 111 := by
  unfold wat
  have hl : i % w.length < w.length := Nat.mod_lt _ (by rw [h.len]; exact hn)
  rw [List.getD_eq_getElem?_getD, List.getElem?_eq_getElem hl]
  exact h.io _ (List.getElem_mem _)
theorem wat_at {w : List Nat} (i : Nat) (h : 0 < w.length) : w[i % w.length]? = some (wat w i) := by
  unfold wat
  have hl : i % w.length < w.length := Nat.mod_lt _ h
  rw [List.getD_eq_getElem?_getD, List.getElem?_eq_getElem hl]
  rfl
theorem wat_mod {w : List Nat} (i : Nat) : wat w (i % w.length) = wat w i := by
  unfold wat
  rw [Nat.mod_mod]
theorem cell_mod {w : List Nat} {s r c : Nat} : cell w s (r % w.length) c = cell w s r c := by
  unfold cell
  rw [← wat_mod, ← wat_mod (r * s + c)]
  congr 1
  rw [Nat.add_mod, Nat.mul_mod, Nat.mod_mod, ← Nat.mul_mod, ← Nat.add_mod]
theorem row_mod {w : List Nat} {s r : Nat} : rowN w s (r % w.length) = rowN w s r := by
  unfold rowN
  exact List.map_congr_left fun c _ => cell_mod
theorem mem_col {w : List Nat} {s R c x : Nat} : x ∈ colN w s R c ↔ ∃ r, r < R ∧ cell w s r c = x := by
  unfold colN
  rw [List.mem_map]
  exact ⟨fun ⟨r, h, e⟩ => ⟨r, List.mem_range.mp h, e⟩, fun ⟨r, h, e⟩ => ⟨r, List.mem_range.mpr h, e⟩⟩
theorem mem_mono {w : List Nat} {s R R' c x : Nat} (h : R ≤ R') (k : x ∈ colN w s R c) : x ∈ colN w s R' c := by
  obtain ⟨r, hr, e⟩ := mem_col.mp k
  exact mem_col.mpr ⟨r, by omega, e⟩
theorem mem_back {w : List Nat} {s R c x : Nat} (hw : 0 < w.length) (k : x ∈ colN w s R c) : x ∈ colN w s w.length c := by
  obtain ⟨r, hr, e⟩ := mem_col.mp k
  exact mem_col.mpr ⟨r % w.length, Nat.mod_lt _ hw, by rw [cell_mod, e]⟩
theorem mix_mono {w : List Nat} {s R R' c : Nat} (h : R ≤ R') (k : mixN w s R c = true) : mixN w s R' c = true := by
  unfold mixN at *
  simp only [Bool.and_eq_true, decide_eq_true_eq] at *
  exact ⟨mem_mono h k.1, mem_mono h k.2⟩
theorem mix_back {w : List Nat} {s R c : Nat} (hw : 0 < w.length) (k : mixN w s R c = true) : mixN w s w.length c = true := by
  unfold mixN at *
  simp only [Bool.and_eq_true, decide_eq_true_eq] at *
  exact ⟨mem_back hw k.1, mem_back hw k.2⟩
theorem holds_mono {w : List Nat} {s R R' : Nat} (h : R ≤ R') (k : holdsN w s R = true) : holdsN w s R' = true := by
  unfold holdsN at *
  rw [List.all_eq_true] at *
  exact fun c hc => mix_mono h (k c hc)
theorem holds_back {w : List Nat} {s R : Nat} (hw : 0 < w.length) (k : holdsN w s R = true) : holdsN w s w.length = true := by
  unfold holdsN at *
  rw [List.all_eq_true] at *
  exact fun c hc => mix_back hw (k c hc)
/-- behind as many rounds as signs nothing new comes -/
theorem holds_far {w : List Nat} {s R : Nat} (hw : 0 < w.length) (h : w.length ≤ R) : holdsN w s R = holdsN w s w.length := by
  rw [Bool.eq_iff_iff]
  exact ⟨holds_back hw, holds_mono h⟩
theorem loose_nil {w : List Nat} {s R : Nat} : (looseN w s R = []) ↔ holdsN w s R = true := by
  unfold looseN holdsN
  rw [List.filter_eq_nil_iff, List.all_eq_true]
  simp
theorem loose_len {w : List Nat} {s R : Nat} : (looseN w s R).length = 0 ↔ holdsN w s R = true := by
  rw [List.length_eq_zero_iff, loose_nil]
/-- the first of a row of numbers -/
theorem find_far {w : List Nat} {s : Nat} (hw : 0 < w.length) (n : Nat) (h : w.length ≤ n) : ((List.range n).filter fun i => holdsN w s (i + 1)).head? = ((List.range w.length).filter fun i => holdsN w s (i + 1)).head? := by
  have e : List.range n = List.range w.length ++ (List.range (n - w.length)).map (w.length + ·) := by
    conv => lhs; rw [show n = w.length + (n - w.length) by omega]
    exact List.range_add
  rw [e, List.filter_append]
  cases hc : (List.range w.length).filter fun i => holdsN w s (i + 1) with
  | cons x l => rfl
  | nil =>
    have hh : ¬ holdsN w s w.length = true := fun k => by
      have : w.length - 1 ∈ (List.range w.length).filter fun i => holdsN w s (i + 1) := List.mem_filter.mpr ⟨List.mem_range.mpr (by omega), by rw [show w.length - 1 + 1 = w.length by omega]; exact k⟩
      rw [hc] at this
      cases this
    rw [List.filter_eq_nil_iff.mpr]
    · rfl
    · intro x hx k
      exact hh (holds_back hw k)
/-- all words of a length -/
def words : Nat → List (List Nat)
  | 0 => [[]]
  | n + 1 => (words n).flatMap fun w => [w ++ [105], w ++ [111]]
theorem words_sg : ∀ (n : Nat) (w : List Nat), w ∈ words n → Sg n w
  | 0, w, h => by simp [words] at h; subst h; exact .nil
  | n + 1, w, h => by
    obtain ⟨v, hv, hw⟩ := List.mem_flatMap.mp h
    have := words_sg n v hv
    simp at hw
    rcases hw with e | e <;> subst e
    · exact this.app ⟨rfl, by simp⟩
    · exact this.app ⟨rfl, by simp⟩
theorem words_len : ∀ n : Nat, (words n).length = 2 ^ n
  | 0 => rfl
  | n + 1 => by
    rw [words, List.length_flatMap]
    have : ∀ l : List (List Nat), (l.map fun w => [w ++ [105], w ++ [111]].length).sum = l.length * 2 := by
      intro l
      induction l with
      | nil => rfl
      | cons x l ih => rw [List.map_cons, List.sum_cons, ih]; simp; omega
    rw [this, words_len n, Nat.pow_succ]
end WK
end

section
set_option Elab.async false
set_option linter.all false
set_option maxRecDepth 100000
/-! rounds begun anywhere -/
namespace WK
def rot (x : List Nat) (i : Nat) : List Nat := x.drop i ++ x.take i
def rots (x : List Nat) : List (List Nat) := (List.range x.length).map (rot x)
theorem rot_len {x : List Nat} {i : Nat} : (rot x i).length = x.length := by
  unfold rot
  rw [List.length_append, List.length_drop, List.length_take]
  omega
theorem get_rot {x : List Nat} {i k : Nat} (hi : i < x.length) (hk : k < x.length) : (rot x i)[k]? = x[(i + k) % x.length]? := by
  unfold rot
  by_cases h : k < x.length - i
  · rw [List.getElem?_append_left (by rw [List.length_drop]; exact h), List.getElem?_drop, Nat.mod_eq_of_lt (by omega)]
  · rw [List.getElem?_append_right (by rw [List.length_drop]; omega), List.length_drop, List.getElem?_take, if_pos (by omega)]
    have e : (i + k) % x.length = k - (x.length - i) := by
      rw [show i + k = k - (x.length - i) + x.length by omega, Nat.add_mod_right, Nat.mod_eq_of_lt (by omega)]
    rw [e]
theorem rot_ext {x y : List Nat} (hl : x.length = y.length) (h : ∀ k, k < x.length → x[k]? = y[k]?) : x = y := by
  apply List.ext_getElem?
  intro k
  by_cases hk : k < x.length
  · exact h k hk
  · rw [List.getElem?_eq_none (by omega), List.getElem?_eq_none (by omega)]
theorem rot_rot {x : List Nat} {i j : Nat} (hi : i < x.length) (hj : j < x.length) : rot (rot x i) j = rot x ((i + j) % x.length) := by
  refine rot_ext (by rw [rot_len, rot_len, rot_len]) fun k hk => ?_
  rw [rot_len, rot_len] at hk
  have hm : (j + k) % x.length < x.length := Nat.mod_lt _ (by omega)
  rw [get_rot (by rw [rot_len]; exact hj) (by rw [rot_len]; exact hk), rot_len, get_rot hi hm, get_rot (Nat.mod_lt _ (by omega)) hk]
  congr 1
  rw [Nat.add_mod_mod, Nat.mod_add_mod, Nat.add_assoc]
theorem mem_rots {x y : List Nat} : y ∈ rots x ↔ ∃ i, i < x.length ∧ rot x i = y := by
  unfold rots
  rw [List.mem_map]
  exact ⟨fun ⟨i, h, e⟩ => ⟨i, List.mem_range.mp h, e⟩, fun ⟨i, h, e⟩ => ⟨i, List.mem_range.mpr h, e⟩⟩
theorem rot_zero {x : List Nat} : rot x 0 = x := by simp [rot]
theorem self_rots {x : List Nat} (h : 0 < x.length) : x ∈ rots x := mem_rots.mpr ⟨0, h, rot_zero⟩
/-- a round begun elsewhere: the same ones -/
theorem rots_same {x y : List Nat} (h : y ∈ rots x) (z : List Nat) : z ∈ rots y ↔ z ∈ rots x := by
  obtain ⟨i, hi, e⟩ := mem_rots.mp h
  subst e
  constructor
  · intro hz
    obtain ⟨j, hj, e⟩ := mem_rots.mp hz
    rw [rot_len] at hj
    rw [← e, rot_rot hi hj]
    exact mem_rots.mpr ⟨_, Nat.mod_lt _ (by omega), rfl⟩
  · intro hz
    obtain ⟨j, hj, e⟩ := mem_rots.mp hz
    have hm : (j + x.length - i) % x.length < x.length := Nat.mod_lt _ (by omega)
    refine mem_rots.mpr ⟨(j + x.length - i) % x.length, by rw [rot_len]; exact hm, ?_⟩
    rw [rot_rot hi hm, ← e]
    congr 1
    rw [Nat.add_mod_mod, show i + (j + x.length - i) = j + x.length by omega, Nat.add_mod_right, Nat.mod_eq_of_lt hj]
/-- the least of texts -/
theorem minO_mem (x : List Nat) : ∀ xs : List (List Nat), minO x xs ∈ x :: xs := by
  intro xs
  unfold minO
  induction xs generalizing x with
  | nil => simp
  | cons y ys ih =>
    rw [List.foldl_cons]
    have := ih (if Od.lt y x = true then y else x)
    rcases List.mem_cons.mp this with e | e
    · rw [e]
      split <;> simp
    · simp [e]
theorem minO_le (x : List Nat) : ∀ xs : List (List Nat), ∀ y, y ∈ x :: xs → ¬ y < minO x xs := by
  intro xs
  unfold minO
  induction xs generalizing x with
  | nil => intro y hy; simp at hy; subst hy; exact List.lt_irrefl _
  | cons z zs ih =>
    intro y hy
    rw [List.foldl_cons]
    have hlt : ∀ a b : List Nat, Od.lt a b = decide (a < b) := fun _ _ => rfl
    have h1 := ih (if Od.lt z x = true then z else x)
    rcases List.mem_cons.mp hy with e | hy
    · subst e
      by_cases q : z < y
      · have e : (if Od.lt z y = true then z else y) = z := if_pos (by rw [hlt]; exact decide_eq_true q)
        rw [e] at h1 ⊢
        intro k
        exact h1 z (by simp) (List.lt_trans q k)
      · have e : (if Od.lt z y = true then z else y) = y := if_neg (by rw [hlt]; simpa using q)
        rw [e] at h1 ⊢
        exact h1 y (by simp)
    · rcases List.mem_cons.mp hy with e | hy
      · subst e
        by_cases q : y < x
        · have e : (if Od.lt y x = true then y else x) = y := if_pos (by rw [hlt]; exact decide_eq_true q)
          rw [e] at h1 ⊢
          exact h1 y (by simp)
        · have e : (if Od.lt y x = true then y else x) = x := if_neg (by rw [hlt]; simpa using q)
          rw [e] at h1 ⊢
          intro k
          have h2 := h1 x (by simp)
          have h3 := List.not_lt.mp q
          have h4 := List.not_lt.mp h2
          exact absurd k (List.not_lt.mpr (List.le_trans h4 h3))
      · exact h1 y (List.mem_cons_of_mem _ hy)
def least (x : List Nat) : List Nat := match rots x with
  | [] => []
  | y :: ys => minO y ys
theorem least_t {x : List Nat} (h : 0 < x.length) : minT (rots x) = .ret (least x) ∧ least x ∈ rots x ∧ ∀ y, y ∈ rots x → ¬ y < least x := by
  unfold least
  cases hr : rots x with
  | nil =>
    have := self_rots h
    rw [hr] at this
    cases this
  | cons y ys => exact ⟨rfl, minO_mem y ys, minO_le y ys⟩
/-- alike up to their beginning -/
theorem least_iff {x y : List Nat} (hx : 0 < x.length) (hy : 0 < y.length) : least x = least y ↔ y ∈ rots x := by
  obtain ⟨_, m1, l1⟩ := least_t hx
  obtain ⟨_, m2, l2⟩ := least_t hy
  constructor
  · intro e
    rw [← e] at m2
    have h1 := rots_same m1
    have h2 := rots_same m2
    exact (h1 y).mp ((h2 y).mpr (self_rots hy))
  · intro h
    have hs := rots_same h
    have a := l1 _ ((hs _).mp m2)
    have b := l2 _ ((hs _).mpr m1)
    exact List.le_antisymm (List.not_lt.mp a) (List.not_lt.mp b)
end WK
end

section
set_option Elab.async false
set_option linter.all false
set_option maxRecDepth 100000
/-! two rods: signs gone through again and again, where both are alike -/
namespace WK
structure Wd (n : Nat) (w : List Nat) : Prop where
  sg : Sg n w
  n1 : 1 ≤ n
  n2 : n ≤ 12
theorem Wd.pos {n : Nat} {w : List Nat} (h : Wd n w) : 0 < w.length := by rw [h.sg.len]; exact h.n1
theorem Wd.le {n : Nat} {w : List Nat} (h : Wd n w) : w.length ≤ 12 := by rw [h.sg.len]; exact h.n2
def gone (w : List Nat) (m : Nat) : List Nat := (List.range m).map (wat w)
theorem gone_len {w : List Nat} {m : Nat} : (gone w m).length = m := by simp [gone]
theorem gone_at {w : List Nat} {m i : Nat} (h : i < m) : (gone w m)[i]? = some (wat w i) := by
  unfold gone
  rw [List.getElem?_map, List.getElem?_range h]
  rfl
theorem gone_io {n : Nat} {w : List Nat} (h : Wd n w) {m : Nat} : Sg m (gone w m) := ⟨gone_len, fun c hc => by
  obtain ⟨i, _, rfl⟩ := List.mem_map.mp hc
  exact wat_sg h.sg h.n1 i⟩
theorem rep_at {w : List Nat} (h : 0 < w.length) : ∀ (k i : Nat), i < k * w.length → ((List.replicate k w).flatten)[i]? = some (wat w i)
  | 0, i, hi => by omega
  | k + 1, i, hi => by
    rw [List.replicate_succ, List.flatten_cons]
    by_cases h1 : i < w.length
    · rw [List.getElem?_append_left h1, ← wat_at i h, Nat.mod_eq_of_lt h1]
    · rw [List.getElem?_append_right (by omega), rep_at h k (i - w.length) (by rw [Nat.add_mul, Nat.one_mul] at hi; omega), ← wat_mod i, Nat.mod_eq_sub_mod (by omega), wat_mod]
theorem rep_len {w : List Nat} (k : Nat) : ((List.replicate k w).flatten).length = k * w.length := by simp
theorem take_rep {w : List Nat} (h : 0 < w.length) {k m : Nat} (hm : m ≤ k * w.length) : ((List.replicate k w).flatten).take m = gone w m := by
  apply List.ext_getElem?
  intro i
  by_cases hi : i < m
  · rw [List.getElem?_take, if_pos hi, rep_at h k i (by omega), gone_at hi]
  · rw [List.getElem?_eq_none (by rw [List.length_take]; omega), List.getElem?_eq_none (by rw [gone_len]; omega)]
theorem wd_rot {n : Nat} {w : List Nat} (h : Wd n w) (i : Nat) : Wd n (rot w i) := ⟨⟨by rw [rot_len]; exact h.sg.len, fun c hc => by
  unfold rot at hc
  rcases List.mem_append.mp hc with e | e
  · exact h.sg.io c (List.mem_of_mem_drop e)
  · exact h.sg.io c (List.mem_of_mem_take e)⟩, h.n1, h.n2⟩
/-- the places at which both are alike -/
def al (u v : List Nat) (L : Nat) : List Nat := (List.range L).filter fun i => decide (wat u i = wat v i)
theorem al_mem {u v : List Nat} {L i : Nat} : i ∈ al u v L ↔ i < L ∧ wat u i = wat v i := by
  unfold al
  rw [List.mem_filter, List.mem_range, decide_eq_true_eq]
theorem al_len {u v : List Nat} {L : Nat} : (al u v L).length ≤ L := by
  unfold al
  exact Nat.le_trans (List.length_filter_le _ _) (by rw [List.length_range]; exact Nat.le_refl _)
/-- the marks: + for alike -/
def mk2 (u v : List Nat) (L : Nat) : List Nat := (List.range L).map fun i => if wat u i = wat v i then 43 else 45
theorem mk2_len {u v : List Nat} {L : Nat} : (mk2 u v L).length = L := by simp [mk2]
theorem mk2_at {u v : List Nat} {L i : Nat} (h : i < L) : (mk2 u v L)[i]? = some (if wat u i = wat v i then 43 else 45) := by
  unfold mk2
  rw [List.getElem?_map, List.getElem?_range h]
  rfl
theorem al_none {u v : List Nat} {L : Nat} : (al u v L = []) ↔ ¬ 43 ∈ mk2 u v L := by
  constructor
  · intro h hm
    obtain ⟨i, hi, e⟩ := List.mem_map.mp hm
    have : i ∈ al u v L := al_mem.mpr ⟨List.mem_range.mp hi, by
      by_cases z : wat u i = wat v i
      · exact z
      · rw [if_neg z] at e; omega⟩
    rw [h] at this
    cases this
  · intro h
    refine List.filter_eq_nil_iff.mpr fun i hi z => h (List.mem_map.mpr ⟨i, hi, ?_⟩)
    rw [if_pos (of_decide_eq_true z)]
theorem al_all {u v : List Nat} {L : Nat} : ((al u v L).length = L) ↔ ¬ 45 ∈ mk2 u v L := by
  have e : (al u v L).length = L ↔ ∀ i, i < L → wat u i = wat v i := by
    constructor
    · intro h i hi
      have h2 : (al u v L).length = (List.range L).length := by rw [h, List.length_range]
      have := (List.length_filter_eq_length_iff.mp h2) i (List.mem_range.mpr hi)
      exact of_decide_eq_true this
    · intro h
      unfold al
      rw [List.filter_eq_self.mpr fun i hi => decide_eq_true (h i (List.mem_range.mp hi)), List.length_range]
  rw [e]
  constructor
  · intro h hm
    obtain ⟨i, hi, e⟩ := List.mem_map.mp hm
    rw [if_pos (h i (List.mem_range.mp hi))] at e
    omega
  · intro h i hi
    by_cases z : wat u i = wat v i
    · exact z
    · exact absurd (List.mem_map.mpr ⟨i, List.mem_range.mpr hi, by rw [if_neg z]⟩) h
/-! longest stretches -/
def mxl : List (List Nat) → Nat
  | [] => 0
  | p :: ps => max p.length (mxl ps)
def mxf (m : Nat) : List (List Nat) → Nat
  | [] => m
  | p :: ps => max (m + p.length) (mxl ps)
def stp (s : Nat × Nat) (b : Bool) : Nat × Nat := (max s.1 (if b then s.2 + 1 else 0), if b then s.2 + 1 else 0)
theorem mxf_zero {ps : List (List Nat)} (h : ps ≠ []) : mxf 0 ps = mxl ps := by
  cases ps with
  | nil => exact absurd rfl h
  | cons p ps => show max (0 + p.length) (mxl ps) = _; rw [Nat.zero_add]; rfl
theorem sp_ne (c : Nat) : ∀ xs : List Nat, splitN c xs ≠ []
  | [] => by simp [splitN]
  | x :: xs => by
    unfold splitN
    split
    · simp
    · cases h : splitN c xs with
      | nil => exact absurd h (sp_ne c xs)
      | cons p ps => simp
theorem sp_c (c : Nat) (xs : List Nat) : splitN c (c :: xs) = [] :: splitN c xs := by rw [splitN, if_pos rfl]
theorem sp_n {c x : Nat} (h : x ≠ c) {xs p : List Nat} {ps : List (List Nat)} (e : splitN c xs = p :: ps) : splitN c (x :: xs) = (x :: p) :: ps := by rw [splitN, if_neg h, e]
theorem sp_some (c : Nat) (xs : List Nat) : ∃ p ps, splitN c xs = p :: ps := by
  cases h : splitN c xs with
  | nil => exact absurd h (sp_ne c xs)
  | cons p ps => exact ⟨p, ps, rfl⟩
theorem stretch (c : Nat) : ∀ (xs : List Nat) (b m : Nat), m ≤ b → ((xs.map fun x => decide (x ≠ c)).foldl stp (b, m)).1 = max b (mxf m (splitN c xs))
  | [], b, m, h => by
    show b = max b (max (m + 0) 0)
    omega
  | x :: xs, b, m, h => by
    rw [List.map_cons, List.foldl_cons]
    by_cases e : x = c
    · have e1 : stp (b, m) (decide (x ≠ c)) = (b, 0) := by
        unfold stp
        rw [if_neg (by simp [e])]
        simp
      rw [e1, stretch c xs b 0 (Nat.zero_le _), mxf_zero (sp_ne c xs), e, sp_c]
      show _ = max b (max (m + 0) (mxl (splitN c xs)))
      omega
    · have e1 : stp (b, m) (decide (x ≠ c)) = (max b (m + 1), m + 1) := by
        unfold stp
        rw [if_pos (by simp [e])]
      obtain ⟨p, ps, hs⟩ := sp_some c xs
      rw [e1, stretch c xs _ _ (Nat.le_max_right _ _), sp_n e hs, hs]
      show max (max b (m + 1)) (max (m + 1 + p.length) (mxl ps)) = max b (max (m + (p.length + 1)) (mxl ps))
      omega
theorem mxl_le (c : Nat) : ∀ xs : List Nat, mxl (splitN c xs) ≤ xs.length
  | [] => Nat.le_refl _
  | x :: xs => by
    have ih := mxl_le c xs
    by_cases e : x = c
    · rw [e, sp_c]
      show max 0 (mxl (splitN c xs)) ≤ xs.length + 1
      omega
    · obtain ⟨p, ps, hs⟩ := sp_some c xs
      rw [sp_n e hs]
      rw [hs] at ih
      have ih : max p.length (mxl ps) ≤ xs.length := ih
      show max (p.length + 1) (mxl ps) ≤ xs.length + 1
      omega
theorem sp_cut (c : Nat) : ∀ p r : List Nat, splitN c (p ++ c :: r) = splitN c p ++ splitN c r
  | [], r => sp_c c r
  | y :: p, r => by
    have ih := sp_cut c p r
    by_cases e : y = c
    · rw [e, sp_c]
      show splitN c (c :: (p ++ c :: r)) = _
      rw [sp_c, ih]
      rfl
    · obtain ⟨b, bs, hs⟩ := sp_some c p
      rw [sp_n e hs]
      rw [hs] at ih
      exact sp_n e ih
theorem mxl_app : ∀ as bs : List (List Nat), mxl (as ++ bs) = max (mxl as) (mxl bs)
  | [], bs => by show mxl bs = max 0 _; omega
  | a :: as, bs => by show max a.length (mxl (as ++ bs)) = max (max a.length (mxl as)) _; rw [mxl_app as bs]; omega
theorem mxl_cut (c : Nat) (p r : List Nat) : mxl (splitN c (p ++ c :: r)) = max (mxl (splitN c p)) (mxl (splitN c r)) := by rw [sp_cut, mxl_app]
/-- round a ring: no longer than the ring -/
theorem ring_le {c : Nat} {xs : List Nat} (h : c ∈ xs) : mxl (splitN c (xs ++ xs)) ≤ xs.length := by
  obtain ⟨p, q, rfl⟩ := List.append_of_mem h
  have e : (p ++ c :: q) ++ (p ++ c :: q) = p ++ c :: ((q ++ p) ++ c :: q) := by simp
  rw [e, mxl_cut, mxl_cut]
  have h1 := mxl_le c p
  have h2 := mxl_le c (q ++ p)
  have h3 := mxl_le c q
  rw [List.length_append] at h2
  rw [List.length_append, List.length_cons]
  omega
theorem mxl_free {c : Nat} {xs : List Nat} (h : c ∉ xs) : mxl (splitN c xs) = xs.length := by
  have : ∀ p : List Nat, c ∉ p → splitN c p = [p] := by
    intro p
    induction p with
    | nil => intro _; rfl
    | cons x p ih =>
      intro h
      have h1 : x ≠ c := fun z => h (by rw [z]; exact List.mem_cons_self)
      unfold splitN
      rw [if_neg h1, ih fun z => h (List.mem_cons_of_mem _ z)]
  rw [this xs h]
  show max xs.length 0 = _
  omega
/-- the longest stretch of what is no c, round a ring -/
def ringN (c : Nat) (xs : List Nat) : Nat := min (mxl (splitN c (xs ++ xs))) xs.length
theorem ring_all {c : Nat} {xs : List Nat} (h : c ∉ xs) : ringN c xs = xs.length := by
  unfold ringN
  rw [mxl_free (by simp [h]), List.length_append]
  omega
theorem ring_some {c : Nat} {xs : List Nat} (h : c ∈ xs) : ringN c xs = mxl (splitN c (xs ++ xs)) := by
  unfold ringN
  exact Nat.min_eq_left (ring_le h)
/-! lengths without a divisor in common -/
theorem crt_tab : ((List.range 11).all fun a => ((List.range ((1 + a) * (2 + a))).map fun i => (i % (1 + a), i % (2 + a))).isPerm ((List.range (1 + a)).flatMap fun i => (List.range (2 + a)).map fun j => (i, j))) = true := by decide +kernel
theorem crt {a : Nat} (h : a < 11) : ((List.range ((1 + a) * (2 + a))).map fun i => (i % (1 + a), i % (2 + a))).Perm ((List.range (1 + a)).flatMap fun i => (List.range (2 + a)).map fun j => (i, j)) :=
  List.isPerm_iff.mp (List.all_eq_true.mp crt_tab a (List.mem_range.mpr h))
theorem range_getD (w : List Nat) : (List.range w.length).map (fun i => w.getD i 0) = w := by
  apply List.ext_getElem?
  intro i
  by_cases h : i < w.length
  · rw [List.getElem?_map, List.getElem?_range h]
    show some (w.getD i 0) = _
    rw [List.getD_eq_getElem?_getD, List.getElem?_eq_getElem h]
    rfl
  · rw [List.getElem?_eq_none (by simp; omega), List.getElem?_eq_none (by omega)]
theorem cross {n m : Nat} {u v : List Nat} (hu : Sg n u) (hv : Sg m v) : ((u.flatMap fun x => v.map fun y => (x, y)).countP fun p => decide (p.1 = p.2)) = u.count 111 * v.count 111 + u.count 105 * v.count 105 := by
  have one : ∀ (v : List Nat) (x : Nat), ((v.map fun y => (x, y)).countP fun p => decide (p.1 = p.2)) = v.count x := by
    intro v x
    rw [List.countP_map, List.count]
    refine List.countP_congr fun y _ => ?_
    show decide (x = y) = true ↔ (y == x) = true
    rw [decide_eq_true_eq, beq_iff_eq]
    exact eq_comm
  have io : ∀ c, c ∈ u → c = 105 ∨ c = 111 := hu.io
  clear hu
  induction u with
  | nil => simp
  | cons x u ih =>
    rw [List.flatMap_cons, List.countP_append, ih fun c hc => io c (List.mem_cons_of_mem _ hc), one]
    rcases io x List.mem_cons_self with e | e
    · subst e
      rw [List.count_cons, List.count_cons, if_neg (by decide), if_pos (by decide), Nat.add_mul, Nat.add_mul]
      omega
    · subst e
      rw [List.count_cons, List.count_cons, if_pos (by decide), if_neg (by decide), Nat.add_mul, Nat.add_mul]
      omega
theorem al_coprime {a : Nat} (h : a < 11) {u v : List Nat} (hu : Sg (1 + a) u) (hv : Sg (2 + a) v) : (al u v ((1 + a) * (2 + a))).length = u.count 111 * v.count 111 + u.count 105 * v.count 105 := by
  rw [← cross hu hv]
  have e1 : (al u v ((1 + a) * (2 + a))).length = ((List.range ((1 + a) * (2 + a))).map fun i => (i % (1 + a), i % (2 + a))).countP fun p => decide (u.getD p.1 0 = v.getD p.2 0) := by
    rw [List.countP_map, al, ← List.countP_eq_length_filter]
    refine List.countP_congr fun i _ => ?_
    show decide (wat u i = wat v i) = true ↔ decide (u.getD (i % (1 + a)) 0 = v.getD (i % (2 + a)) 0) = true
    unfold wat
    rw [hu.len, hv.len]
  rw [e1, (crt h).countP_eq]
  have e2 : (u.flatMap fun x => v.map fun y => (x, y)) = ((List.range (1 + a)).flatMap fun i => (List.range (2 + a)).map fun j => (i, j)).map fun p => (u.getD p.1 0, v.getD p.2 0) := by
    have hv' := range_getD v
    have hu' := range_getD u
    rw [hu.len] at hu'
    rw [hv.len] at hv'
    rw [List.map_flatMap]
    conv => lhs; rw [← hu', List.flatMap_map]
    congr 1
    funext i
    rw [List.map_map]
    conv => lhs; rw [← hv', List.map_map]
    rfl
  rw [e2, List.countP_map]
  rfl
theorem rot_count {x : List Nat} {i c : Nat} : (rot x i).count c = x.count c := by
  unfold rot
  conv => rhs; rw [← List.take_append_drop i x]
  rw [List.count_append, List.count_append]
  omega
end WK
end

section
set_option Elab.async false
set_option linter.all false
set_option maxRecDepth 100000
/-! rounds of two rods -/
namespace WK
theorem wat_add {w : List Nat} (i k : Nat) (h : w.length ∣ k) : wat w (i + k) = wat w i := by
  rw [← wat_mod (i + k), ← wat_mod i]
  obtain ⟨q, rfl⟩ := h
  congr 1
  rw [Nat.add_mul_mod_self_left]
theorem cell_add {w : List Nat} {s P r t c : Nat} (h : w.length ∣ P * s) : cell w s (r + P * t) c = cell w s r c := by
  unfold cell
  rw [Nat.add_mul, show r * s + P * t * s + c = (r * s + c) + P * s * t by rw [Nat.mul_right_comm]; omega]
  exact wat_add _ _ (Nat.dvd_trans h (Nat.dvd_mul_right _ _))
/-- stakes on one side in a round -/
def alS (u v : List Nat) (s r : Nat) : List Nat := (List.range s).filter fun c => decide (cell u s r c = cell v s r c)
theorem alS_far {u v : List Nat} {s P r t : Nat} (hu : u.length ∣ P * s) (hv : v.length ∣ P * s) : alS u v s (r % P + P * t) = alS u v s r := by
  unfold alS
  refine List.filter_congr fun c _ => ?_
  have e : ∀ w : List Nat, w.length ∣ P * s → cell w s (r % P + P * t) c = cell w s r c := fun w hw => by
    rw [cell_add hw, ← cell_add (r := r % P) (t := r / P) hw, Nat.mod_add_div]
  rw [e u hu, e v hv]
/-- over whole periods and a rest -/
theorem al_step {u v : List Nat} {L : Nat} (hu : u.length ∣ L) (hv : v.length ∣ L) (r : Nat) : (al u v (L + r)).length = (al u v L).length + (al u v r).length := by
  unfold al
  rw [List.range_add, List.filter_append, List.length_append, List.filter_map, List.length_map]
  congr 2
  refine List.filter_congr fun i _ => ?_
  show decide (wat u (L + i) = wat v (L + i)) = _
  rw [Nat.add_comm L i, wat_add i L hu, wat_add i L hv]
theorem al_many {u v : List Nat} {L : Nat} (hu : u.length ∣ L) (hv : v.length ∣ L) (r : Nat) : ∀ q : Nat, (al u v (q * L + r)).length = q * (al u v L).length + (al u v r).length
  | 0 => by simp
  | q + 1 => by
    rw [Nat.add_mul, Nat.one_mul, show q * L + L + r = L + (q * L + r) by omega, al_step hu hv, al_many hu hv r q, Nat.add_mul, Nat.one_mul]
    omega
theorem al_cut {u v : List Nat} {L r : Nat} (h : r ≤ L) : ((al u v L).filter fun i => decide (i < r)).length = (al u v r).length := by
  unfold al
  rw [List.filter_filter]
  have e : L = r + (L - r) := by omega
  rw [e, List.range_add, List.filter_append, List.length_append]
  have e2 : (((List.range (L - r)).map fun x => r + x).filter fun a => decide (a < r) && decide (wat u a = wat v a)) = [] := by
    refine List.filter_eq_nil_iff.mpr fun a ha => ?_
    obtain ⟨i, _, rfl⟩ := List.mem_map.mp ha
    rw [decide_eq_false (by omega), Bool.false_and]
    decide
  rw [e2, List.length_nil, Nat.add_zero]
  congr 1
  refine List.filter_congr fun i hi => ?_
  rw [decide_eq_true (List.mem_range.mp hi), Bool.true_and]
theorem al_div {u v : List Nat} {L : Nat} (hL : 0 < L) (hu : u.length ∣ L) (hv : v.length ∣ L) (k : Nat) : k / L * (al u v L).length + ((al u v L).filter fun i => decide (i < k % L)).length = (al u v k).length := by
  rw [al_cut (Nat.le_of_lt (Nat.mod_lt _ hL)), ← al_many hu hv, Nat.mul_comm, Nat.div_add_mod]
theorem once_two {α : Type} [DecidableEq α] {a b : α} (hab : a ≠ b) {xs : List α} (h : ∀ x, x ∈ xs → x = a ∨ x = b) : ((once xs).length = 2) ↔ (a ∈ xs ∧ b ∈ xs) := by
  have nd := nodup_once xs
  have me := mem_once xs
  rw [← me a, ← me b]
  have h : ∀ x, x ∈ once xs → x = a ∨ x = b := fun x hx => h x ((me x).mp hx)
  generalize once xs = l at nd h ⊢
  clear me
  match l, nd, h with
  | [], _, _ => simp
  | [x], _, h =>
    constructor
    · intro z; simp at z
    · rintro ⟨h1, h2⟩
      rw [List.mem_singleton] at h1 h2
      exact absurd (h1.trans h2.symm) hab
  | [x, y], nd, h =>
    refine ⟨fun _ => ?_, fun _ => rfl⟩
    have hxy : x ≠ y := by
      intro z
      subst z
      simp at nd
    have h1 := h x (by simp)
    have h2 := h y (by simp)
    rcases h1 with rfl | rfl <;> rcases h2 with rfl | rfl
    · exact absurd rfl hxy
    · simp
    · simp
    · exact absurd rfl hxy
  | x :: y :: z :: t, nd, h =>
    exfalso
    have h1 := h x (by simp)
    have h2 := h y (by simp)
    have h3 := h z (by simp)
    have n1 : x ≠ y ∧ x ≠ z ∧ y ≠ z := by
      simp only [List.nodup_cons, List.mem_cons, not_or] at nd
      exact ⟨nd.1.1, nd.1.2.1, nd.2.1.1⟩
    rcases h1 with rfl | rfl <;> rcases h2 with rfl | rfl <;> rcases h3 with rfl | rfl <;> simp_all
/-! what is seen at a stake -/
def seenN (u v : List Nat) (s k c : Nat) : List Nat := (List.range k).flatMap fun r => [cell u s r c, cell v s r c]
theorem seen_succ {u v : List Nat} {s k c : Nat} : seenN u v s (k + 1) c = seenN u v s k c ++ [cell u s k c] ++ [cell v s k c] := by
  unfold seenN
  rw [List.range_succ, List.flatMap_append]
  simp
theorem seen_len {u v : List Nat} {s c : Nat} : ∀ k, (seenN u v s k c).length = 2 * k
  | 0 => rfl
  | k + 1 => by rw [seen_succ, List.length_append, List.length_append, seen_len k]; simp; omega
def bothN (u v : List Nat) (s k c : Nat) : Bool := decide (105 ∈ seenN u v s k c) && decide (111 ∈ seenN u v s k c)
def nowN (u v : List Nat) (s k : Nat) : List Nat := (List.range s).filter (bothN u v s k)
def fullN (u v : List Nat) (s k : Nat) : Bool := (List.range s).all (bothN u v s k)
theorem now_len {u v : List Nat} {s k : Nat} : (nowN u v s k).length = s ↔ fullN u v s k = true := by
  unfold nowN fullN
  rw [List.all_eq_true]
  have := @List.length_filter_eq_length_iff _ (bothN u v s k) (List.range s)
  rw [List.length_range] at this
  exact this
/-- behind how few rounds all is firm -/
def firstN (u v : List Nat) (s P : Nat) : Option Int := ((List.range P).find? fun k => fullN u v s (k + 1)).map fun k => ((k + 1 : Nat) : Int)
theorem first_succ {u v : List Nat} {s P : Nat} : firstN u v s (P + 1) = if firstN u v s P = none ∧ fullN u v s (P + 1) = true then some ((P + 1 : Nat) : Int) else firstN u v s P := by
  unfold firstN
  rw [List.range_succ, List.find?_append]
  cases h : (List.range P).find? fun k => fullN u v s (k + 1) with
  | some k => simp
  | none =>
    by_cases hf : fullN u v s (P + 1) = true
    · rw [if_pos ⟨rfl, hf⟩]
      simp [hf]
    · rw [if_neg (fun z => hf z.2)]
      simp [hf]
theorem seen_io {n m : Nat} {u v : List Nat} (hu : Wd n u) (hv : Wd m v) {s k c : Nat} : ∀ x, x ∈ seenN u v s k c → x = 105 ∨ x = 111 := by
  intro x hx
  unfold seenN at hx
  obtain ⟨r, _, h⟩ := List.mem_flatMap.mp hx
  simp only [List.mem_cons, List.not_mem_nil, or_false] at h
  rcases h with e | e
  · rw [e]; exact wat_sg hu.sg hu.n1 _
  · rw [e]; exact wat_sg hv.sg hv.n1 _
end WK
end

section
set_option Elab.async false
set_option linter.all false
set_option maxHeartbeats 4000000
set_option maxRecDepth 100000
namespace K93
open WK
theorem fits_signs_t {n lo hi : Nat} {s : List Nat} (h : Sg n s) (h1 : lo ≤ n) (h2 : n ≤ hi) (h3 : n ≤ 1000) : T_fits_signs s lo hi = .ret true := by
  have hl := h.len
  unfold T_fits_signs
  simp (disch := first | assumption | omega) only [M.ret_bind, M.bad_bind, M.bind_assoc, if_true, if_false, ite_true, ite_false, Bool.not_true, Bool.not_false, Bool.and_true, Bool.true_and, Bool.and_false, Bool.false_and, Bool.or_true, Bool.or_false, Bool.true_or, Bool.false_or, decide_true, decide_false, Bool.false_eq_true, Bool.true_eq_false, Bool.not_eq_true, Bool.not_eq_false, Bool.and_eq_true, Bool.or_eq_true, Bool.not_eq_true', Bool.not_eq_eq_eq_not, decide_eq_true_eq, decide_eq_false_iff_not, Option.isSome_some, Option.isSome_none, Option.isNone_some, Option.isNone_none, ofOp_some, ofOp_none, asB_ret, asI_ret, asS_ret, un2_two, neg_one, ixL_zero, ixL_one, foldT_nil, forT_nil, on_nx, on_rt, rngN_len, rngI_len, List.length_map, List.length_cons, List.length_nil, List.length_append, List.length_range, List.length_reverse, Int.toNat_natCast, not_true_eq_false, not_false_eq_true, and_true, true_and, and_false, false_and, or_true, true_or, or_false, false_or, modI_ok, divI_ok, mulI_l, mulI_r, rg1_nat, rg1_ok, rg2_ok, fitM_ok, addS_ok, addL_ok, addT_ok, lenS_ok, slS_ok, revS_ok, chs_ok, push_ok, lcP_ok, lcA_ok, if_pos, if_neg, hl, show (lo : Int) ≤ (n : Int) by omega, show (n : Int) ≤ (hi : Int) by omega, chs_sg h (by omega)]
  rw [lcA_ok (by simp; omega), M.ret_bind]
  refine congrArg _ (List.all_eq_true.mpr fun b hb => ?_)
  obtain ⟨x, hx, rfl⟩ := List.mem_map.mp hb
  obtain ⟨c, hc, rfl⟩ := List.mem_map.mp hx
  exact h.mem c hc
theorem need_word_t {n : Nat} {w : List Nat} (h : Wd n w) : T_need_word w = .ret () := by
  unfold T_need_word T_fits_word
  rw [show (1 : Int) = ((1 : Nat) : Int) from rfl, show (12 : Int) = ((12 : Nat) : Int) from rfl, fits_signs_t h.sg h.n1 h.n2 (by have := h.n2; omega)]
  rfl
theorem need_words_t {n m : Nat} {u v : List Nat} (hu : Wd n u) (hv : Wd m v) : T_need_words u v = .ret () := by
  unfold T_need_words
  rw [need_word_t hu, M.ret_bind, need_word_t hv]
  rfl
theorem tog_tab : ((List.range 12).all fun (a : Nat) => (List.range 12).all fun (b : Nat) => (T_together ((1 + a : Nat) : Int) ((1 + b : Nat) : Int)).got == some ((Nat.lcm (1 + a) (1 + b) : Nat) : Int)) = true := by decide +kernel
theorem lcm_tab : ((List.range 12).all fun (a : Nat) => (List.range 12).all fun (b : Nat) => decide (Nat.lcm (1 + a) (1 + b) ≤ 132) && decide (0 < Nat.lcm (1 + a) (1 + b))) = true := by decide +kernel
theorem together_t {a b : Nat} (ha : 1 ≤ a) (ha2 : a ≤ 12) (hb : 1 ≤ b) (hb2 : b ≤ 12) : T_together a b = .ret ((Nat.lcm a b : Nat) : Int) := by
  have := List.all_eq_true.mp (List.all_eq_true.mp tog_tab (a - 1) (List.mem_range.mpr (by omega))) (b - 1) (List.mem_range.mpr (by omega))
  rw [show 1 + (a - 1) = a by omega, show 1 + (b - 1) = b by omega] at this
  exact M.of_got (eq_of_beq this)
theorem lcm_le {a b : Nat} (ha : 1 ≤ a) (ha2 : a ≤ 12) (hb : 1 ≤ b) (hb2 : b ≤ 12) : Nat.lcm a b ≤ 132 ∧ 0 < Nat.lcm a b := by
  have := List.all_eq_true.mp (List.all_eq_true.mp lcm_tab (a - 1) (List.mem_range.mpr (by omega))) (b - 1) (List.mem_range.mpr (by omega))
  rw [show 1 + (a - 1) = a by omega, show 1 + (b - 1) = b by omega, Bool.and_eq_true, decide_eq_true_eq, decide_eq_true_eq] at this
  exact this
section
variable {n m : Nat} {u v : List Nat}
theorem size_t (hu : Wd n u) (hv : Wd m v) : ((lenS u).bind fun x => (lenS v).bind fun x1 => T_together x x1) = .ret ((Nat.lcm n m : Nat) : Int) := by
  have h1 := hu.sg.len
  have h2 := hv.sg.len
  have h3 := hu.n2
  have h4 := hv.n2
  rw [lenS_ok (by omega), M.ret_bind, lenS_ok (by omega), M.ret_bind, h1, h2, together_t hu.n1 hu.n2 hv.n1 hv.n2]
theorem L_le (hu : Wd n u) (hv : Wd m v) : Nat.lcm n m ≤ 132 ∧ 0 < Nat.lcm n m := lcm_le hu.n1 hu.n2 hv.n1 hv.n2
theorem signs_in_t (hu : Wd n u) {L : Nat} (hL : L ≤ 10000) : T_signs_in u L = .ret (gone u L) := by
  have h1 := hu.pos
  have h2 := hu.le
  unfold T_signs_in
  rw [lenS_ok (by omega), M.ret_bind, divI_ok (by omega) (by omega), M.ret_bind, M.ret_bind]
  have hm : L ≤ (L / u.length + 1) * u.length := by
    have := Nat.div_add_mod L u.length
    have h := Nat.mod_lt L h1
    rw [Nat.add_mul, Nat.one_mul, Nat.mul_comm]
    omega
  have hd : L / u.length ≤ L := Nat.div_le_self _ _
  have e : ((L : Int) / (u.length : Int) + 1) = ((L / u.length + 1 : Nat) : Int) := by simp
  rw [e]
  have em : mulS u ((L / u.length + 1 : Nat) : Int) = .ret (List.replicate (L / u.length + 1) u).flatten := by
    unfold mulS
    generalize hk : L / u.length + 1 = k
    rw [if_pos ⟨by omega, by omega, by omega⟩]
    rfl
  have hz : (L / u.length + 1) * u.length ≤ 10001 * 12 := Nat.mul_le_mul (by omega) h2
  rw [em, M.ret_bind, M.ret_bind, M.ret_bind, slS_ok (by rw [rep_len]; omega), cut_to, take_rep h1 hm]
theorem zip_gone (hu : Wd n u) (hv : Wd m v) {L : Nat} (hL : L ≤ 10000) : zipS (gone u L) (gone v L) = .ret ((List.range L).map fun i => (⟨⟨wat u i⟩, ⟨wat v i⟩⟩ : P2 Ch Ch)) := by
  unfold zipS
  rw [if_pos ⟨by rw [gone_len, zM]; omega, by rw [gone_len, zM]; omega⟩]
  unfold gone
  rw [List.zipWith_map, List.zipWith_self]
theorem en_rng {α β : Type} (L : Nat) (f : Nat → α) (t : α → Bool) (hL : L ≤ 10000) : ((M.ret ((List.range L).map f)).bind enT).bind (fun xs => lcP xs (fun at1 => t at1.b) (fun at1 => at1.a)) = .ret (((List.range L).filter fun i => t (f i)).map fun (i : Nat) => (i : Int)) := by
  rw [M.ret_bind]
  unfold enT
  rw [if_pos (by rw [List.length_map, List.length_range, zM]; omega), M.ret_bind, lcP_ok (by rw [List.length_mapIdx, List.length_map, List.length_range]; omega)]
  have e : ((List.range L).map f).mapIdx (fun i x => (⟨(i : Int), x⟩ : P2 Int α)) = (List.range L).map fun (i : Nat) => (⟨(i : Int), f i⟩ : P2 Int α) := by
    apply List.ext_getElem?
    intro i
    rw [List.getElem?_mapIdx, List.getElem?_map, List.getElem?_map]
    by_cases h : i < L
    · rw [List.getElem?_range h]; rfl
    · rw [List.getElem?_eq_none (by rw [List.length_range]; omega)]; rfl
  rw [e, List.filter_map, List.map_map]
  rfl
abbrev alI (u v : List Nat) (L : Nat) : List Int := (al u v L).map fun (i : Nat) => (i : Int)
theorem alike_in_t (hu : Wd n u) (hv : Wd m v) : T_alike_in u v = .ret (alI u v (Nat.lcm n m)) := by
  have hL := (L_le hu hv).1
  unfold T_alike_in
  rw [size_t hu hv, M.ret_bind, signs_in_t hu (by omega), M.ret_bind, signs_in_t hv (by omega), M.ret_bind, zip_gone hu hv (by omega), M.ret_bind]
  exact en_rng (α := P2 Ch Ch) (β := Int) (Nat.lcm n m) (fun i => ⟨⟨wat u i⟩, ⟨wat v i⟩⟩) (fun p => decide (p.a = p.b)) (by omega) |>.trans (by
    unfold alI al
    congr 2
    refine List.filter_congr fun i _ => ?_
    show decide ((⟨wat u i⟩ : Ch) = ⟨wat v i⟩) = _
    exact decide_eq_decide.mpr (by rw [Ch.mk.injEq]))
end
theorem some_t : Al (fun c : Ch => c.c = 105 ∨ c.c = 111) (T_law_some [105, 111]) := by
  unfold T_law_some
  simp (disch := first | assumption | omega) only [M.ret_bind, M.bad_bind, M.bind_assoc, if_true, if_false, ite_true, ite_false, Bool.not_true, Bool.not_false, Bool.and_true, Bool.true_and, Bool.and_false, Bool.false_and, Bool.or_true, Bool.or_false, Bool.true_or, Bool.false_or, decide_true, decide_false, Bool.false_eq_true, Bool.true_eq_false, Bool.not_eq_true, Bool.not_eq_false, Bool.and_eq_true, Bool.or_eq_true, Bool.not_eq_true', Bool.not_eq_eq_eq_not, decide_eq_true_eq, decide_eq_false_iff_not, Option.isSome_some, Option.isSome_none, Option.isNone_some, Option.isNone_none, ofOp_some, ofOp_none, asB_ret, asI_ret, asS_ret, un2_two, neg_one, ixL_zero, ixL_one, foldT_nil, forT_nil, on_nx, on_rt, rngN_len, rngI_len, List.length_map, List.length_cons, List.length_nil, List.length_append, List.length_range, List.length_reverse, Int.toNat_natCast, not_true_eq_false, not_false_eq_true, and_true, true_and, and_false, false_and, or_true, true_or, or_false, false_or, modI_ok, divI_ok, mulI_l, mulI_r, rg1_nat, rg1_ok, rg2_ok, fitM_ok, addS_ok, addL_ok, addT_ok, lenS_ok, slS_ok, revS_ok, chs_ok, push_ok, lcP_ok, lcA_ok, if_pos, if_neg]
  refine a_roll 2 rfl (by decide) (by decide) fun i hi => ?_
  match i, hi with
  | 0, _ => exact ⟨.inl rfl⟩
  | 1, _ => exact ⟨.inr rfl⟩
theorem signs_t {n : Nat} (h : n ≤ 1000) : Al (Sg n) (T_law_signs n) := by
  unfold T_law_signs
  rw [rg1_nat (by omega), M.ret_bind]
  refine a_all (lcM_all' (P := fun c : Ch => c.c = 105 ∨ c.c = 111) (by rw [rngN_len]; omega) fun x _ => some_t) fun ys ⟨hl, hy⟩ => ?_
  rw [rngN_len] at hl
  unfold joinC
  rw [fitM_ok (by omega)]
  refine ⟨⟨by simp [hl], fun c hc => ?_⟩⟩
  obtain ⟨x, hx, rfl⟩ := List.mem_map.mp hc
  exact hy x hx
theorem pick_t {P : List Nat → Prop} {a b c d : List Nat} (ha : P a) (hb : P b) (hc : P c) (hd : P d) : Al P (T_law_some_LS [a, b, c, d]) := by
  unfold T_law_some_LS
  refine a_roll 4 rfl (by decide) (by decide) fun i hi => ?_
  match i, hi with
  | 0, _ => exact ⟨ha⟩
  | 1, _ => exact ⟨hb⟩
  | 2, _ => exact ⟨hc⟩
  | 3, _ => exact ⟨hd⟩
def nx (w : List Nat) (i : Nat) : Nat := if i + 1 < w.length then i + 1 else 0
theorem nx_mod {w : List Nat} (i : Nat) (h : 0 < w.length) : nx w (i % w.length) = (i + 1) % w.length := by
  unfold nx
  have hm := Nat.mod_lt i h
  rw [Nat.add_mod]
  by_cases h1 : w.length = 1
  · rw [h1]; simp [Nat.mod_one]
  · rw [Nat.mod_eq_of_lt (a := 1) (by omega)]
    split
    · exact (Nat.mod_eq_of_lt (by assumption)).symm
    · rw [show i % w.length + 1 = w.length by omega, Nat.mod_self]
theorem nx_t {n : Nat} {w : List Nat} (h : Wd n w) (i : Nat) : (((lenS w).bind fun y => M.ret (decide (((i % w.length : Nat) : Int) + 1 < y))).bind fun b_ => if b_ = true then M.ret (((i % w.length : Nat) : Int) + 1) else M.ret (0 : Int)) = .ret ((((i + 1) % w.length : Nat)) : Int) := by
  have hl := h.sg.len
  have := h.n2
  rw [lenS_ok (by omega), M.ret_bind, M.ret_bind, ← nx_mod i h.pos]
  unfold nx
  by_cases hx : i % w.length + 1 < w.length
  · rw [if_pos hx, if_pos (by simp; omega)]
    rfl
  · rw [if_neg hx, if_neg (by simp; omega)]
    rfl
theorem law_gone_t {n : Nat} {w : List Nat} (h : Wd n w) {m : Nat} (hm : m ≤ 100000) : T_law_gone w m = .ret (gone w m) := by
  have hl := h.sg.len
  have := h.n2
  unfold T_law_gone
  rw [M.ret_bind, rg1_nat (by omega), M.ret_bind]
  rw [foldT_rng (fun k => (gone w k, ((k % w.length : Nat) : Int))) m (by simp [gone]) fun k hk => by
    dsimp only
    rw [ixS_nat (by omega) (wat_at k h.pos), M.ret_bind, M.ret_bind, addS_ok (by rw [gone_len]; simp; omega), M.ret_bind, nx_t h, M.ret_bind]
    unfold gone
    rw [List.range_succ, List.map_append]
    rfl]
  rfl
def perN (a b : Int) : M Int := (whileN (σ := Int) (fun (s : Int) => ((modI s a).bind fun x => M.ret (!decide (x = (0 : Int)))).bind fun b_ => if b_ = true then M.ret true else (modI s b).bind fun x1 => M.ret (!decide (x1 = (0 : Int)))) (fun (s : Int) => M.ret (s + (1 : Int))) 400 (1 : Int))
theorem per_tab : ((List.range 12).all fun (a : Nat) => (List.range 12).all fun (b : Nat) => (perN ((1 + a : Nat) : Int) ((1 + b : Nat) : Int)).got == some ((Nat.lcm (1 + a) (1 + b) : Nat) : Int)) = true := by decide +kernel
theorem law_period_t {n m : Nat} {u v : List Nat} (hu : Wd n u) (hv : Wd m v) : T_law_period u v = .ret ((Nat.lcm n m : Nat) : Int) := by
  have h1 := hu.sg.len
  have h2 := hv.sg.len
  have h3 := hu.n2
  have h4 := hv.n2
  have h5 := hu.n1
  have h6 := hv.n1
  have := List.all_eq_true.mp (List.all_eq_true.mp per_tab (n - 1) (List.mem_range.mpr (by omega))) (m - 1) (List.mem_range.mpr (by omega))
  rw [show 1 + (n - 1) = n by omega, show 1 + (m - 1) = m by omega] at this
  have this := M.of_got (eq_of_beq this)
  unfold perN at this
  unfold T_law_period
  rw [lenS_ok (s := u) (by omega), lenS_ok (s := v) (by omega), h1, h2, M.bind_ret]
  simpa only [M.ret_bind] using this
theorem flip_t {n : Nat} {u : List Nat} (hu : Wd n u) : ∃ w, ((((chs u).bind fun xs => lcM xs (fun (sign : Ch) => M.ret true) (fun (sign : Ch) => (M.ret (dictT ([⟨[111], [105]⟩, ⟨[105], [111]⟩] : List (P2 (List Nat) (List Nat))))).bind fun m_ => (M.ret [sign.c]).bind fun k_ => getM m_ k_)).bind fun x4 => joinS x4)) = .ret w ∧ Wd n w := by
  have hl := hu.sg.len
  have h2 := hu.n2
  refine ⟨u.map fun c => if c = 105 then 111 else 105, ?_, ⟨⟨by simp [hl], fun c hc => ?_⟩, hu.n1, hu.n2⟩⟩
  · rw [chs_ok (by omega), M.ret_bind, lcM_okA (fun c : Ch => [if c.c = 105 then 111 else 105]) (by simp; omega) fun c hc => ?_, M.ret_bind]
    · unfold joinS
      rw [List.map_map, List.map_map, fitM_ok]
      · congr 1
        clear hu hl h2
        induction u with
        | nil => rfl
        | cons x u ih => rw [List.map_cons, List.map_cons, List.flatten_cons, ih]; rfl
      · have : ∀ u : List Nat, (u.map ((List.length ∘ (fun c : Ch => [if c.c = 105 then 111 else 105])) ∘ Ch.mk)).sum = u.length := by
          intro u
          induction u with
          | nil => rfl
          | cons x u ih => rw [List.map_cons, List.sum_cons, ih]; simp; omega
        rw [this]
        omega
    · obtain ⟨x, hx, rfl⟩ := List.mem_map.mp hc
      rw [M.ret_bind, M.ret_bind]
      rcases hu.sg.io x hx with e | e <;> subst e <;> rfl
  · obtain ⟨x, hx, rfl⟩ := List.mem_map.mp hc
    split <;> simp
theorem a_eq2 {α β γ : Type} {Q : γ → Prop} {m : M α} {f : α → M β} {g : β → M γ} {b : β} (e : m.bind f = .ret b) (h : Al Q (g b)) : Al Q (m.bind fun x => (f x).bind g) := by
  rw [← M.bind_assoc, e]
  exact h
theorem two_t : Al (fun p : P2 (List Nat) (List Nat) => ∃ n m, Wd n p.a ∧ Wd m p.b) T_law_two := by
  unfold T_law_two
  simp only [M.bind_assoc, M.ret_bind]
  refine a_roll 12 rfl (by decide) (by decide) fun i hi => ?_
  rw [show (1 : Int) + (i : Int) = ((1 + i : Nat) : Int) by omega]
  refine a_all (signs_t (by omega)) fun u hu => ?_
  have hu : Wd (1 + i) u := ⟨hu, by omega, by omega⟩
  have hl := hu.sg.len
  rw [lenS_ok (by omega), M.ret_bind]
  refine a_roll u.length rfl hu.pos (by omega) fun j hj => ?_
  refine a_roll 12 rfl (by decide) (by decide) fun k hk => ?_
  rw [show (1 : Int) + (k : Int) = ((1 + k : Nat) : Int) by omega]
  refine a_all (signs_t (by omega)) fun v hv => ?_
  rw [slS_ok (by omega), M.ret_bind, slS_ok (by omega), M.ret_bind, cut_from, cut_to, addS_ok (by simp; omega), M.ret_bind]
  obtain ⟨w, e, hw⟩ := flip_t hu
  simp only [M.bind_assoc, M.ret_bind] at e
  rw [chs_ok (by omega), M.ret_bind] at e ⊢
  refine a_eq2 e ?_
  rw [slS_ok (by omega), M.ret_bind]
  have e6 : cut u none (some (6 : Int)) = u.take 6 := cut_to u 6
  have em : mulS (u.take 6) (2 : Int) = .ret (u.take 6 ++ u.take 6) := by
    unfold mulS
    rw [if_pos ⟨by decide, by rw [List.length_take]; omega, by decide⟩]
    simp [List.replicate]
  have ht : (u.take 6).length = min 6 u.length := List.length_take
  have h6 : Wd (min 6 u.length + min 6 u.length) (u.take 6 ++ u.take 6) := ⟨⟨by rw [List.length_append, ht], fun c hc => by
    rcases List.mem_append.mp hc with e | e <;> exact hu.sg.io c (List.mem_of_mem_take e)⟩, by have := hu.pos; omega, by omega⟩
  rw [e6, em, M.ret_bind]
  refine a_all (pick_t (P := fun w => ∃ n, Wd n w) ⟨_, hv, by omega, by omega⟩ ⟨_, wd_rot hu j⟩ ⟨_, hw⟩ ⟨_, h6⟩) fun x ⟨m, hx⟩ => ?_
  exact ⟨⟨_, _, hu, hx⟩⟩
section
variable {n m : Nat} {u v : List Nat}
theorem zp_gone {L : Nat} (hL : L ≤ 10000) : ((chs (gone u L)).bind fun xs_ => (chs (gone v L)).bind fun ys_ => zpT xs_ ys_) = .ret ((List.range L).map fun i => (⟨⟨wat u i⟩, ⟨wat v i⟩⟩ : P2 Ch Ch)) := by
  rw [chs_ok (by rw [gone_len]; omega), M.ret_bind, chs_ok (by rw [gone_len]; omega), M.ret_bind]
  have e : List.zipWith P2.mk ((gone u L).map Ch.mk) ((gone v L).map Ch.mk) = (List.range L).map fun i => (⟨⟨wat u i⟩, ⟨wat v i⟩⟩ : P2 Ch Ch) := by
    unfold gone
    rw [List.map_map, List.map_map, List.zipWith_map, List.zipWith_self]
    rfl
  unfold zpT
  rw [e, if_pos (by rw [List.length_map, List.length_range, zM]; omega)]
end
end K93
end

section
set_option Elab.async false
set_option linter.all false
set_option maxHeartbeats 4000000
set_option maxRecDepth 100000
namespace K93
open WK
theorem fits_whole_t {v lo hi : Int} (h1 : lo ≤ v) (h2 : v ≤ hi) : T_fits_whole v lo hi = .ret true := by
  unfold T_fits_whole T_is_whole
  simp (disch := first | assumption | omega) only [M.ret_bind, M.bad_bind, M.bind_assoc, if_true, if_false, ite_true, ite_false, Bool.not_true, Bool.not_false, Bool.and_true, Bool.true_and, Bool.and_false, Bool.false_and, Bool.or_true, Bool.or_false, Bool.true_or, Bool.false_or, decide_true, decide_false, Bool.false_eq_true, Bool.true_eq_false, Bool.not_eq_true, Bool.not_eq_false, Bool.and_eq_true, Bool.or_eq_true, Bool.not_eq_true', Bool.not_eq_eq_eq_not, decide_eq_true_eq, decide_eq_false_iff_not, Option.isSome_some, Option.isSome_none, Option.isNone_some, Option.isNone_none, ofOp_some, ofOp_none, asB_ret, asI_ret, asS_ret, un2_two, neg_one, ixL_zero, ixL_one, foldT_nil, forT_nil, on_nx, on_rt, rngN_len, rngI_len, List.length_map, List.length_cons, List.length_nil, List.length_append, List.length_range, List.length_reverse, Int.toNat_natCast, not_true_eq_false, not_false_eq_true, and_true, true_and, and_false, false_and, or_true, true_or, or_false, false_or, modI_ok, divI_ok, mulI_l, mulI_r, rg1_nat, rg1_ok, rg2_ok, fitM_ok, addS_ok, addL_ok, addT_ok, lenS_ok, slS_ok, revS_ok, chs_ok, push_ok, lcP_ok, lcA_ok, if_pos, if_neg, h1, h2]
theorem need_stakes_t {s : Nat} (h1 : 3 ≤ s) (h2 : s ≤ 24) : T_need_stakes s = .ret () := by
  unfold T_need_stakes
  simp (disch := first | assumption | omega) only [M.ret_bind, M.bad_bind, M.bind_assoc, if_true, if_false, ite_true, ite_false, Bool.not_true, Bool.not_false, Bool.and_true, Bool.true_and, Bool.and_false, Bool.false_and, Bool.or_true, Bool.or_false, Bool.true_or, Bool.false_or, decide_true, decide_false, Bool.false_eq_true, Bool.true_eq_false, Bool.not_eq_true, Bool.not_eq_false, Bool.and_eq_true, Bool.or_eq_true, Bool.not_eq_true', Bool.not_eq_eq_eq_not, decide_eq_true_eq, decide_eq_false_iff_not, Option.isSome_some, Option.isSome_none, Option.isNone_some, Option.isNone_none, ofOp_some, ofOp_none, asB_ret, asI_ret, asS_ret, un2_two, neg_one, ixL_zero, ixL_one, foldT_nil, forT_nil, on_nx, on_rt, rngN_len, rngI_len, List.length_map, List.length_cons, List.length_nil, List.length_append, List.length_range, List.length_reverse, Int.toNat_natCast, not_true_eq_false, not_false_eq_true, and_true, true_and, and_false, false_and, or_true, true_or, or_false, false_or, modI_ok, divI_ok, mulI_l, mulI_r, rg1_nat, rg1_ok, rg2_ok, fitM_ok, addS_ok, addL_ok, addT_ok, lenS_ok, slS_ok, revS_ok, chs_ok, push_ok, lcP_ok, lcA_ok, if_pos, if_neg, fits_whole_t (show (3 : Int) ≤ s by omega) (show (s : Int) ≤ 24 by omega)]
theorem need_rounds_t {s : Nat} (h1 : 1 ≤ s) (h2 : s ≤ 40) : T_need_rounds s = .ret () := by
  unfold T_need_rounds
  simp (disch := first | assumption | omega) only [M.ret_bind, M.bad_bind, M.bind_assoc, if_true, if_false, ite_true, ite_false, Bool.not_true, Bool.not_false, Bool.and_true, Bool.true_and, Bool.and_false, Bool.false_and, Bool.or_true, Bool.or_false, Bool.true_or, Bool.false_or, decide_true, decide_false, Bool.false_eq_true, Bool.true_eq_false, Bool.not_eq_true, Bool.not_eq_false, Bool.and_eq_true, Bool.or_eq_true, Bool.not_eq_true', Bool.not_eq_eq_eq_not, decide_eq_true_eq, decide_eq_false_iff_not, Option.isSome_some, Option.isSome_none, Option.isNone_some, Option.isNone_none, ofOp_some, ofOp_none, asB_ret, asI_ret, asS_ret, un2_two, neg_one, ixL_zero, ixL_one, foldT_nil, forT_nil, on_nx, on_rt, rngN_len, rngI_len, List.length_map, List.length_cons, List.length_nil, List.length_append, List.length_range, List.length_reverse, Int.toNat_natCast, not_true_eq_false, not_false_eq_true, and_true, true_and, and_false, false_and, or_true, true_or, or_false, false_or, modI_ok, divI_ok, mulI_l, mulI_r, rg1_nat, rg1_ok, rg2_ok, fitM_ok, addS_ok, addL_ok, addT_ok, lenS_ok, slS_ok, revS_ok, chs_ok, push_ok, lcP_ok, lcA_ok, if_pos, if_neg, fits_whole_t (show (1 : Int) ≤ s by omega) (show (s : Int) ≤ 40 by omega)]
theorem need_ticks_t {s : Nat} (h2 : s ≤ 1000000000) : T_need_ticks s 1000000000 = .ret () := by
  unfold T_need_ticks
  simp (disch := first | assumption | omega) only [M.ret_bind, M.bad_bind, M.bind_assoc, if_true, if_false, ite_true, ite_false, Bool.not_true, Bool.not_false, Bool.and_true, Bool.true_and, Bool.and_false, Bool.false_and, Bool.or_true, Bool.or_false, Bool.true_or, Bool.false_or, decide_true, decide_false, Bool.false_eq_true, Bool.true_eq_false, Bool.not_eq_true, Bool.not_eq_false, Bool.and_eq_true, Bool.or_eq_true, Bool.not_eq_true', Bool.not_eq_eq_eq_not, decide_eq_true_eq, decide_eq_false_iff_not, Option.isSome_some, Option.isSome_none, Option.isNone_some, Option.isNone_none, ofOp_some, ofOp_none, asB_ret, asI_ret, asS_ret, un2_two, neg_one, ixL_zero, ixL_one, foldT_nil, forT_nil, on_nx, on_rt, rngN_len, rngI_len, List.length_map, List.length_cons, List.length_nil, List.length_append, List.length_range, List.length_reverse, Int.toNat_natCast, not_true_eq_false, not_false_eq_true, and_true, true_and, and_false, false_and, or_true, true_or, or_false, false_or, modI_ok, divI_ok, mulI_l, mulI_r, rg1_nat, rg1_ok, rg2_ok, fitM_ok, addS_ok, addL_ok, addT_ok, lenS_ok, slS_ok, revS_ok, chs_ok, push_ok, lcP_ok, lcA_ok, if_pos, if_neg, fits_whole_t (show (0 : Int) ≤ s by omega) (show (s : Int) ≤ 1000000000 by omega)]
theorem div_tab : ((List.range 25).all fun (s : Nat) => (List.range 13).all fun (q : Nat) => s < 3 || q < 1 || (T_divisor (s : Int) (q : Int)).got == some ((Nat.gcd s q : Nat) : Int)) = true := by decide +kernel
theorem divisor_t {s q : Nat} (h1 : 3 ≤ s) (h2 : s ≤ 24) (h3 : 1 ≤ q) (h4 : q ≤ 12) : T_divisor s q = .ret ((Nat.gcd s q : Nat) : Int) := by
  have := List.all_eq_true.mp (List.all_eq_true.mp div_tab s (List.mem_range.mpr (by omega))) q (List.mem_range.mpr (by omega))
  rw [Bool.or_eq_true, Bool.or_eq_true, decide_eq_true_eq, decide_eq_true_eq] at this
  rcases this with (h | h) | h
  · omega
  · omega
  · exact M.of_got (eq_of_beq h)
/-- behind how few rounds both begin anew -/
def perS (s a b : Nat) : Nat := Nat.lcm (a / Nat.gcd s a) (b / Nat.gcd s b)
section
variable {n m : Nat} {u v : List Nat} {s : Nat}
theorem div_le {s a : Nat} (h : 1 ≤ a) : 1 ≤ a / Nat.gcd s a ∧ a / Nat.gcd s a ≤ a := ⟨Nat.div_pos (Nat.gcd_le_right _ h) (Nat.gcd_pos_of_pos_right _ h), Nat.div_le_self _ _⟩
theorem perS_le {s a b : Nat} (h1 : 1 ≤ a) (h2 : a ≤ 12) (h3 : 1 ≤ b) (h4 : b ≤ 12) : perS s a b ≤ 132 ∧ 0 < perS s a b := by
  have ha := div_le (s := s) h1
  have hb := div_le (s := s) h3
  exact lcm_le ha.1 (by omega) hb.1 (by omega)
theorem per_dvd {s a b : Nat} : a ∣ perS s a b * s ∧ b ∣ perS s a b * s := by
  have one : ∀ a P : Nat, a / Nat.gcd s a ∣ P → a ∣ P * s := fun a P h => by
    obtain ⟨q, rfl⟩ := h
    have h1 : Nat.gcd s a ∣ a := Nat.gcd_dvd_right _ _
    have h2 : Nat.gcd s a ∣ s := Nat.gcd_dvd_left _ _
    obtain ⟨t, ht⟩ := h2
    generalize hg : Nat.gcd s a = g at h1 ht ⊢
    rw [ht, show a / g * q * (g * t) = (a / g * g) * (q * t) by ac_rfl, Nat.div_mul_cancel h1]
    exact Nat.dvd_mul_right _ _
  exact ⟨one a _ (Nat.dvd_lcm_left _ _), one b _ (Nat.dvd_lcm_right _ _)⟩
theorem part_t (hu : Wd n u) (h1 : 3 ≤ s) (h2 : s ≤ 24) : ((lenS u).bind fun x1 => ((lenS u).bind fun x => T_divisor s x).bind fun y => divI x1 y) = .ret ((n / Nat.gcd s n : Nat) : Int) := by
  have hl := hu.sg.len
  have h3 := hu.n1
  have h4 := hu.n2
  have hg := Nat.gcd_pos_of_pos_right s h3
  have hg2 := Nat.gcd_le_right s h3
  rw [lenS_ok (by omega), M.ret_bind, M.ret_bind, hl, divisor_t h1 h2 h3 h4, M.ret_bind, divI_ok (by omega) (by omega)]
  rfl
theorem period_in_t (hu : Wd n u) (hv : Wd m v) (h1 : 3 ≤ s) (h2 : s ≤ 24) : T_period_in u v s = .ret ((perS s n m : Nat) : Int) := by
  have ha := div_le (s := s) hu.n1
  have hb := div_le (s := s) hv.n1
  have := hu.n2
  have := hv.n2
  unfold T_period_in
  have e : lcM ((⟨[u, v]⟩ : Tp (List Nat)).l) (fun (word : List Nat) => M.ret true) (fun (word : List Nat) => (lenS word).bind fun x1 => ((lenS word).bind fun x => T_divisor s x).bind fun y => divI x1 y) = .ret [((n / Nat.gcd s n : Nat) : Int), ((m / Nat.gcd s m : Nat) : Int)] := by
    unfold lcM
    rw [if_pos (show (⟨[u, v]⟩ : Tp (List Nat)).l.length < sizeMax from (by decide : (2 : Nat) < sizeMax))]
    unfold lcG lcG lcG
    rw [M.ret_bind, if_pos rfl, M.bind_assoc, part_t hu h1 h2]
    simp only [M.ret_bind]
    rw [if_pos trivial, part_t hv h1 h2]
    rfl
  rw [e, M.ret_bind, un2_two, M.ret_bind]
  exact together_t ha.1 (by omega) hb.1 (by omega)
theorem period_of_t (hu : Wd n u) (hv : Wd m v) (h1 : 3 ≤ s) (h2 : s ≤ 24) : T_period_of u v s = .ret ((perS s n m : Nat) : Int) := by
  unfold T_period_of
  rw [need_words_t hu hv, M.ret_bind, need_stakes_t h1 h2, M.ret_bind, period_in_t hu hv h1 h2]
theorem wat_t (hu : Wd n u) (i : Nat) : (modI (i : Int) (u.length : Int)).bind (fun j => ixS u j) = .ret ⟨wat u i⟩ := by
  have hp := hu.pos
  have hl := hu.le
  rw [modI_ok (by omega), M.ret_bind, ← Int.natCast_emod, ixS_nat (by omega) (wat_at i hp)]
theorem wound_in_t (hu : Wd n u) {st : Nat} (hs : s ≤ 1000) : T_wound_in u s st = .ret ((List.range s).map fun c => wat u (st + c)) := by
  have hl := hu.le
  unfold T_wound_in
  rw [rg1_nat (by omega), M.ret_bind, lcM_rngA (fun c => Ch.mk (wat u (st + c))) (by omega) fun c hc => by
    rw [lenS_ok (by omega), M.ret_bind, ← Int.natCast_add, wat_t hu], M.ret_bind]
  unfold joinC
  rw [fitM_ok (by simp; omega), List.map_map]
  rfl
theorem round_in_t (hu : Wd n u) {r : Nat} (hs : s ≤ 1000) : T_round_in u s r = .ret (rowN u s r) := by
  have hl := hu.le
  have hp := hu.pos
  unfold T_round_in
  rw [mulI_r (by omega), M.ret_bind, lenS_ok (by omega), M.ret_bind, modI_ok (by omega), M.ret_bind, ← Int.natCast_mul, ← Int.natCast_emod, wound_in_t hu hs]
  unfold rowN cell
  congr 1
  refine List.map_congr_left fun c _ => ?_
  rw [← wat_mod, ← wat_mod (r * s + c)]
  congr 1
  rw [Nat.add_mod, Nat.mod_mod, ← Nat.add_mod]
def rowsP (u v : List Nat) (s k : Nat) : List (P2 (List Nat) (List Nat)) := (List.range k).map fun r => ⟨rowN u s r, rowN v s r⟩
theorem rounds_of_t (hu : Wd n u) (hv : Wd m v) (h1 : 3 ≤ s) (h2 : s ≤ 24) {R : Nat} (r1 : 1 ≤ R) (r2 : R ≤ 40) : T_rounds_of u v s R = .ret ⟨rowsP u v s R⟩ := by
  unfold T_rounds_of
  rw [need_words_t hu hv, M.ret_bind, need_stakes_t h1 h2, M.ret_bind, need_rounds_t r1 r2, M.ret_bind, rg1_nat (by omega), M.ret_bind, lcM_rngA (fun r => (⟨rowN u s r, rowN v s r⟩ : P2 (List Nat) (List Nat))) (by omega) fun r hr => by
    rw [round_in_t hu (by omega), M.ret_bind, round_in_t hv (by omega), M.ret_bind], M.ret_bind]
  rfl
theorem row_len {w : List Nat} {s r : Nat} : (rowN w s r).length = s := by simp [rowN]
theorem row_at {w : List Nat} {s r c : Nat} (hs : s ≤ 1000) (hc : c < s) : ixS (rowN w s r) (c : Int) = .ret ⟨cell w s r c⟩ := ixS_nat (by rw [row_len]; omega) (by unfold rowN; rw [List.getElem?_map, List.getElem?_range hc]; rfl)
abbrev asI (xs : List Nat) : List Int := xs.map fun (i : Nat) => (i : Int)
theorem alike_stakes_t (hu : Wd n u) (hv : Wd m v) (h1 : 3 ≤ s) (h2 : s ≤ 24) {r : Nat} (hr : r ≤ 1000000000) : T_alike_stakes u v s r = .ret ⟨asI (alS u v s r)⟩ := by
  unfold T_alike_stakes
  rw [need_words_t hu hv, M.ret_bind, need_stakes_t h1 h2, M.ret_bind, need_ticks_t hr, M.ret_bind, round_in_t hu (by omega), M.ret_bind, round_in_t hv (by omega), M.ret_bind]
  have e : zipS (rowN u s r) (rowN v s r) = .ret ((List.range s).map fun c => (⟨⟨cell u s r c⟩, ⟨cell v s r c⟩⟩ : P2 Ch Ch)) := by
    unfold zipS
    rw [if_pos ⟨by rw [row_len, zM]; omega, by rw [row_len, zM]; omega⟩]
    unfold rowN
    rw [List.zipWith_map, List.zipWith_self]
  rw [e, M.ret_bind, en_rng (α := P2 Ch Ch) (β := Int) s (fun c => ⟨⟨cell u s r c⟩, ⟨cell v s r c⟩⟩) (fun p => decide (p.a = p.b)) (by omega), M.ret_bind]
  congr 2
  unfold alS
  congr 1
  refine List.filter_congr fun c _ => ?_
  exact decide_eq_decide.mpr (by rw [Ch.mk.injEq])
theorem alike_many_t (hu : Wd n u) (hv : Wd m v) (h1 : 3 ≤ s) (h2 : s ≤ 24) {R : Nat} (hR : R ≤ 1000000000) : T_alike_many u v s R = .ret ((al u v (R * s)).length : Int) := by
  have hL := L_le hu hv
  have hd : u.length ∣ Nat.lcm n m := by rw [hu.sg.len]; exact Nat.dvd_lcm_left _ _
  have hd2 : v.length ∣ Nat.lcm n m := by rw [hv.sg.len]; exact Nat.dvd_lcm_right _ _
  have hal := al_len (u := u) (v := v) (L := Nat.lcm n m)
  unfold T_alike_many
  rw [need_words_t hu hv, M.ret_bind, need_stakes_t h1 h2, M.ret_bind, need_ticks_t hR, M.ret_bind, size_t hu hv, M.ret_bind, alike_in_t hu hv, M.ret_bind, mulI_r (by omega), M.ret_bind, divI_ok (by omega) (by omega), M.ret_bind, M.ret_bind, modI_ok (by omega), M.ret_bind, M.ret_bind]
  dsimp only
  rw [List.length_map, mulI_r (by omega), M.ret_bind, lcP_ok (by rw [List.length_map]; omega), M.ret_bind, M.ret_bind]
  rw [← al_div hL.2 hd hd2 (R * s)]
  congr 1
  rw [List.length_map, List.filter_map, List.length_map]
  rw [← Int.natCast_mul, ← Int.natCast_ediv, ← Int.natCast_emod, ← Int.natCast_mul, ← Int.natCast_add]
  congr 3
  refine List.filter_congr fun i _ => ?_
  exact decide_eq_decide.mpr Int.ofNat_lt
/-! firm ones -/
def rowsN (u v : List Nat) (s k : Nat) : List (List Nat) := (List.range k).flatMap fun r => [rowN u s r, rowN v s r]
theorem rows_len {k : Nat} : (rowsN u v s k).length = 2 * k := by
  unfold rowsN
  induction k with
  | zero => rfl
  | succ k ih => rw [List.range_succ, List.flatMap_append, List.length_append, ih]; simp; omega
theorem rows_succ {k : Nat} : rowsN u v s (k + 1) = rowsN u v s k ++ [rowN u s k, rowN v s k] := by
  unfold rowsN
  rw [List.range_succ, List.flatMap_append]
  simp
theorem set_t (hu : Wd n u) (hv : Wd m v) {k c : Nat} (hs : s ≤ 24) (hk : k ≤ 200) (hc : c < s) : (((lcM (rowsN u v s k) (fun (row : List Nat) => M.ret true) (fun (row : List Nat) => ixS row (c : Int))).bind fun x => lenSet (x.map fun c => [c.c])).bind fun x1 => M.ret (decide (x1 = (2 : Int)))) = .ret (bothN u v s k c) := by
  rw [lcM_okA (fun row => Ch.mk (row.getD c 0)) (by rw [rows_len]; omega) fun row hr => ?_, M.ret_bind]
  · have e : ((rowsN u v s k).map fun row => Ch.mk (row.getD c 0)).map (fun c => [c.c]) = (seenN u v s k c).map fun x => [x] := by
      unfold rowsN seenN
      rw [List.map_map, List.map_flatMap, List.map_flatMap]
      congr 1
      funext r
      simp only [List.map_cons, List.map_nil, Function.comp]
      have : ∀ w : List Nat, (rowN w s r).getD c 0 = cell w s r c := fun w => by
        unfold rowN
        rw [List.getD_eq_getElem?_getD, List.getElem?_map, List.getElem?_range hc]
        rfl
      rw [this, this]
    rw [e]
    unfold lenSet
    rw [if_pos (by rw [List.length_map, seen_len]; omega), M.ret_bind]
    congr 1
    have h2 := once_two (a := [105]) (b := [111]) (by decide) (xs := (seenN u v s k c).map fun x => [x]) fun x hx => by
      obtain ⟨y, hy, rfl⟩ := List.mem_map.mp hx
      rcases seen_io hu hv y hy with e | e
      · left; rw [e]
      · right; rw [e]
    have mem : ∀ a : Nat, ([a] ∈ (seenN u v s k c).map fun x => [x]) ↔ a ∈ seenN u v s k c := fun a => by
      rw [List.mem_map]
      constructor
      · rintro ⟨y, hy, e⟩
        cases e
        exact hy
      · intro h; exact ⟨a, h, rfl⟩
    rw [mem, mem] at h2
    unfold bothN
    rw [← Bool.decide_and]
    refine decide_eq_decide.mpr ?_
    rw [← h2]
    omega
  · unfold rowsN at hr
    obtain ⟨r, _, h⟩ := List.mem_flatMap.mp hr
    simp only [List.mem_cons, List.not_mem_nil, or_false] at h
    have : ∀ w : List Nat, ixS (rowN w s r) (c : Int) = .ret ⟨(rowN w s r).getD c 0⟩ := fun w => by
      rw [row_at (by omega) hc]
      unfold rowN
      rw [List.getD_eq_getElem?_getD, List.getElem?_map, List.getElem?_range hc]
      rfl
    rcases h with e | e <;> rw [e, this]
theorem lc2_rows {R : Nat} {inn : Int → M (List (List Nat))} (h : ∀ r : Nat, r < R → inn (r : Int) = .ret [rowN u s r, rowN v s r]) (hR : R ≤ 1000) : lc2M (rngN R) (fun _ => M.ret true) inn = .ret (rowsN u v s R) := by
  have g : ∀ (xs : List Nat), (∀ x, x ∈ xs → x < R) → lc2G (fun _ => M.ret true) inn (xs.map fun (i : Nat) => (i : Int)) = .ret (xs.flatMap fun r => [rowN u s r, rowN v s r]) := by
    intro xs
    induction xs with
    | nil => intro _; rfl
    | cons x xs ih =>
      intro hx
      show ((M.ret true).bind fun b => (if b = true then inn (x : Int) else .ret []).bind fun ys => (lc2G _ inn (xs.map fun (i : Nat) => (i : Int))).bind fun zs => .ret (ys ++ zs)) = _
      rw [M.ret_bind, if_pos rfl, h x (hx x List.mem_cons_self), M.ret_bind, ih fun y hy => hx y (List.mem_cons_of_mem _ hy), M.ret_bind]
      rfl
  unfold lc2M
  rw [if_pos (by rw [rngN_len, zM]; omega)]
  unfold rngN
  rw [g _ fun x hx => List.mem_range.mp hx, M.ret_bind]
  have := rows_len (u := u) (v := v) (s := s) (k := R)
  unfold rowsN at this
  rw [if_pos (by rw [this, zM]; omega)]
  rfl
theorem firm_behind_t (hu : Wd n u) (hv : Wd m v) (h1 : 3 ≤ s) (h2 : s ≤ 24) {R : Nat} (r1 : 1 ≤ R) (r2 : R ≤ 40) : T_firm_behind u v s R = .ret ⟨asI (nowN u v s R)⟩ := by
  unfold T_firm_behind
  rw [need_words_t hu hv, M.ret_bind, need_stakes_t h1 h2, M.ret_bind, need_rounds_t r1 r2, M.ret_bind, rg1_nat (by omega), M.ret_bind]
  rw [lc2_rows (u := u) (v := v) (s := s) (fun r hr => ?_) (by omega), M.ret_bind, rg1_nat (by omega), M.ret_bind]
  · rw [lcM_rng (bothN u v s R) (fun c => (c : Int)) (by omega) (fun c hc => set_t hu hv h2 (by omega) hc) fun _ _ _ => rfl]
    rfl
  · rw [M.ret_bind]
    unfold lc2I lcG lcG lcG
    rw [M.ret_bind, if_pos rfl, round_in_t hu (by omega)]
    simp only [M.ret_bind]
    rw [if_pos trivial, round_in_t hv (by omega)]
    rfl
theorem forT_find {σ ρ : Type} {tb : Int → σ → M (Ct σ ρ)} (F : Nat → σ) (p : Nat → Bool) (g : Nat → ρ) (N : Nat) (hs : ∀ k, k < N → tb (k : Int) (F k) = .ret (if p k then .rt (g k) else .nx (F (k + 1)))) :
    forT tb (rngN N) (F 0) = .ret (match (List.range N).find? p with
      | some k => .rt (g k)
      | none => .nx (F N)) := by
  suffices h : ∀ j i, i + j = N → forT tb ((List.range' i j).map fun (k : Nat) => (k : Int)) (F i) = .ret (match (List.range' i j).find? p with
      | some k => .rt (g k)
      | none => .nx (F N)) by
    have := h N 0 (by omega)
    unfold rngN
    rw [List.range_eq_range']
    exact this
  intro j
  induction j with
  | zero => intro i hi; rw [show i = N by omega]; rfl
  | succ j ih =>
    intro i hi
    rw [List.range'_succ, List.map_cons, forT_cons, hs i (by omega), M.ret_bind, List.find?_cons]
    cases p i with
    | true => rfl
    | false => exact ih (i + 1) (by omega)
theorem all_t (hu : Wd n u) (hv : Wd m v) {k : Nat} (hs : s ≤ 24) (hk : k ≤ 200) : (((rg1 (s : Int)).bind fun xs7 => lcM xs7 (fun (stake3 : Int) => M.ret true) (fun (stake3 : Int) => ((lcM (rowsN u v s k) (fun (row3 : List Nat) => M.ret true) (fun (row3 : List Nat) => ixS row3 stake3)).bind fun x21 => lenSet (x21.map fun c => [c.c])).bind fun x22 => M.ret (decide (x22 = (2 : Int))))).bind fun x23 => M.ret (x23.all id)) = .ret (fullN u v s k) := by
  rw [rg1_nat (by omega), M.ret_bind, lcM_rngA (bothN u v s k) (by omega) fun c hc => set_t hu hv hs hk hc, M.ret_bind]
  unfold fullN
  rw [List.all_map]
  rfl
theorem rounds_to_firm_t (hu : Wd n u) (hv : Wd m v) (h1 : 3 ≤ s) (h2 : s ≤ 24) : T_rounds_to_firm u v s = .ret (firstN u v s (perS s n m)) := by
  have hP := perS_le (s := s) hu.n1 hu.n2 hv.n1 hv.n2
  unfold T_rounds_to_firm
  rw [need_words_t hu hv, M.ret_bind, need_stakes_t h1 h2, M.ret_bind, period_in_t hu hv h1 h2, M.ret_bind, M.ret_bind]
  dsimp only
  generalize perS s n m = P at hP ⊢
  rw [rg1_nat (by omega), M.ret_bind]
  have := forT_find (σ := List (List Nat)) (ρ := Option Int) (tb := fun (at1 : Int) (s1 : List (List Nat)) => (((T_round_in u s at1).bind fun x19 => (T_round_in v s at1).bind fun x20 => M.ret ([x19, x20] : List (List Nat))).bind fun y3 => addL s1 y3).bind fun (rows3 : List (List Nat)) => (((rg1 (s : Int)).bind fun xs7 => lcM xs7 (fun (stake3 : Int) => M.ret true) (fun (stake3 : Int) => ((lcM rows3 (fun (row3 : List Nat) => M.ret true) (fun (row3 : List Nat) => ixS row3 stake3)).bind fun x21 => lenSet (x21.map fun c => [c.c])).bind fun x22 => M.ret (decide (x22 = (2 : Int))))).bind fun x23 => M.ret (x23.all id)).bind fun b_ => if b_ = true then M.ret (.rt (some (at1 + (1 : Int)) : Option Int)) else M.ret (.nx rows3))
    (rowsN u v s) (fun k => fullN u v s (k + 1)) (fun k => some ((k + 1 : Nat) : Int)) P fun k hk => by
    rw [round_in_t hu (by omega), M.ret_bind, round_in_t hv (by omega), M.ret_bind, M.ret_bind, addL_ok (by rw [rows_len]; simp; omega), M.ret_bind, ← rows_succ, all_t hu hv h2 (by omega), M.ret_bind]
    cases fullN u v s (k + 1) <;> rfl
  refine (congrArg (fun x => M.bind x _) this).trans ?_
  rw [M.ret_bind]
  unfold firstN
  cases (List.range P).find? fun k => fullN u v s (k + 1) <;> rfl
end
end K93
end

section
set_option Elab.async false
set_option linter.all false
set_option maxHeartbeats 4000000
set_option maxRecDepth 100000
namespace K93
open WK
def perW (st a b : Int) : M Int := whileN (σ := Int) (fun (s : Int) => ((mulI s st).bind fun x => (modI x a).bind fun x => M.ret (!decide (x = (0 : Int)))).bind fun b_ => if b_ = true then M.ret true else (mulI s st).bind fun x => (modI x b).bind fun x => M.ret (!decide (x = (0 : Int)))) (fun (s : Int) => M.ret (s + (1 : Int))) 400 (1 : Int)
theorem perW_tab : ((List.range 10).all fun (s : Nat) => (List.range 12).all fun (a : Nat) => (List.range 12).all fun (b : Nat) => (perW ((3 + s : Nat) : Int) ((1 + a : Nat) : Int) ((1 + b : Nat) : Int)).got == some ((perS (3 + s) (1 + a) (1 + b) : Nat) : Int)) = true := by decide +kernel
theorem perW_t {s a b : Nat} (h1 : 3 ≤ s) (h2 : s ≤ 12) (h3 : 1 ≤ a) (h4 : a ≤ 12) (h5 : 1 ≤ b) (h6 : b ≤ 12) : perW s a b = .ret ((perS s a b : Nat) : Int) := by
  have := List.all_eq_true.mp (List.all_eq_true.mp (List.all_eq_true.mp perW_tab (s - 3) (List.mem_range.mpr (by omega))) (a - 1) (List.mem_range.mpr (by omega))) (b - 1) (List.mem_range.mpr (by omega))
  rw [show 3 + (s - 3) = s by omega, show 1 + (a - 1) = a by omega, show 1 + (b - 1) = b by omega] at this
  exact M.of_got (eq_of_beq this)
section
variable {n m : Nat} {u v : List Nat} {s : Nat}
theorem while_t (hu : Wd n u) (hv : Wd m v) (h1 : 3 ≤ s) (h2 : s ≤ 12) : (whileN (σ := Int) (fun (s1 : Int) => (((mulI s1 (s : Int)).bind fun x65 => (lenS u).bind fun y29 => modI x65 y29).bind fun x66 => M.ret (!decide (x66 = (0 : Int)))).bind fun b_ => if b_ = true then M.ret true else ((mulI s1 (s : Int)).bind fun x67 => (lenS v).bind fun y30 => modI x67 y30).bind fun x68 => M.ret (!decide (x68 = (0 : Int)))) (fun (s : Int) => (M.ret (s + (1 : Int))).bind fun (period2 : Int) => M.ret period2) 400 (1 : Int)) = .ret ((perS s n m : Nat) : Int) := by
  have := perW_t h1 h2 hu.n1 hu.n2 hv.n1 hv.n2
  have l1 := hu.sg.len
  have l2 := hv.sg.len
  have := hu.n2
  have := hv.n2
  rw [← perW_t h1 h2 hu.n1 hu.n2 hv.n1 hv.n2]
  unfold perW
  rw [lenS_ok (s := u) (by omega), lenS_ok (s := v) (by omega), l1, l2]
  simp only [M.ret_bind, M.bind_assoc]
theorem gone_row {w : List Nat} {K r : Nat} (h : (r + 1) * s ≤ K) : ((gone w K).drop (r * s)).take ((r + 1) * s - r * s) = rowN w s r := by
  have e : (r + 1) * s = r * s + s := by rw [Nat.add_mul, Nat.one_mul]
  apply List.ext_getElem?
  intro i
  by_cases hi : i < s
  · rw [List.getElem?_take, if_pos (by omega), List.getElem?_drop, gone_at (by omega)]
    unfold rowN
    rw [List.getElem?_map, List.getElem?_range hi]
    rfl
  · rw [List.getElem?_eq_none (by rw [List.length_take, List.length_drop, gone_len]; omega), List.getElem?_eq_none (by rw [row_len]; omega)]
theorem gone_take {w : List Nat} {K k : Nat} (h : k ≤ K) : (gone w K).take k = gone w k := by
  unfold gone
  rw [← List.map_take, List.take_range, Nat.min_eq_left h]
theorem slice_t {w : List Nat} {K r : Nat} (hs : s ≤ 24) (hK : K ≤ 100000) (hr : (r + 1) * s ≤ K) : ((M.ret (gone w K)).bind fun x7 => ((mulI (r : Int) (s : Int)).bind fun i_ => M.ret (some i_)).bind fun lo => ((mulI ((r : Int) + (1 : Int)) (s : Int)).bind fun i_ => M.ret (some i_)).bind fun hi => slS x7 lo hi) = .ret (rowN w s r) := by
  rw [M.ret_bind, mulI_r (by omega), M.ret_bind, M.ret_bind, mulI_r (by omega), M.ret_bind, M.ret_bind, slS_ok (by rw [gone_len]; omega)]
  rw [show ((r : Int) + 1) = ((r + 1 : Nat) : Int) by omega, ← Int.natCast_mul, ← Int.natCast_mul, cut_mid, gone_row hr]
theorem foldT_mapr {α σ : Type} {tb : α → σ → M σ} (f : Nat → α) (F : Nat → σ) (N : Nat) {s0 : σ} (h0 : s0 = F 0) (hs : ∀ k, k < N → tb (f k) (F k) = .ret (F (k + 1))) : foldT tb ((List.range N).map f) s0 = .ret (F N) := by
  subst h0
  suffices h : ∀ j i, i + j = N → foldT tb ((List.range' i j).map f) (F i) = .ret (F N) by
    have := h N 0 (by omega)
    rw [List.range_eq_range']
    exact this
  intro j
  induction j with
  | zero => intro i hi; rw [show i = N by omega]; rfl
  | succ j ih =>
    intro i hi
    rw [List.range'_succ, List.map_cons, foldT_cons, hs i (by omega), M.ret_bind]
    exact ih (i + 1) (by omega)
theorem en_rows {α : Type} {K : Nat} (f : Nat → α) (hK : K ≤ 100000) : ((M.ret ((List.range K).map f)).bind enT) = .ret ((List.range K).map fun (r : Nat) => (⟨(r : Int), f r⟩ : P2 Int α)) := by
  rw [M.ret_bind]
  unfold enT
  rw [if_pos (by rw [List.length_map, List.length_range, zM]; omega)]
  congr 1
  apply List.ext_getElem?
  intro i
  rw [List.getElem?_mapIdx, List.getElem?_map, List.getElem?_map]
  by_cases h : i < K
  · rw [List.getElem?_range h]; rfl
  · rw [List.getElem?_eq_none (by rw [List.length_range]; omega)]; rfl
def stF (u v : List Nat) (s P R k : Nat) : (List (List Nat)) × (Option Int) × (Tp Int) := ((List.range s).map (seenN u v s k), firstN u v s (min k P), if R ≤ k then ⟨asI (nowN u v s R)⟩ else ⟨[]⟩)
theorem seen_at {k c : Nat} (hc : c < s) : ixL ((List.range s).map (seenN u v s k)) (c : Int) = .ret (seenN u v s k c) := ixL_nat (by rw [List.getElem?_map, List.getElem?_range hc]; rfl)
theorem turn_t {P R k : Nat} (hs : s ≤ 24) (hk : k ≤ 200) (hR : 1 ≤ R) : (((rg1 (s : Int)).bind fun xs14 => lcM xs14 (fun (stake11 : Int) => M.ret true) (fun (stake11 : Int) => ((ixL (stF u v s P R k).1 stake11).bind fun x59 => ((ixS (rowN u s k) stake11).bind fun (x_ : Ch) => M.ret [x_.c]).bind fun y25 => addS x59 y25).bind fun x60 => ((ixS (rowN v s k) stake11).bind fun (x_ : Ch) => M.ret [x_.c]).bind fun y26 => addS x60 y26)).bind fun (seen5 : List (List Nat)) => (((rg1 (s : Int)).bind fun xs15 => lcM xs15 (fun (stake12 : Int) => ((ixL seen5 stake12).bind fun y27 => M.ret (decide (105 ∈ y27))).bind fun b_ => if b_ = true then (ixL seen5 stake12).bind fun y28 => M.ret (decide (111 ∈ y28)) else M.ret false) (fun (stake12 : Int) => M.ret stake12)).bind fun x61 => M.ret (⟨x61⟩ : Tp Int)).bind fun (now5 : Tp Int) => (M.ret (if ((stF u v s P R k).2.1.isNone && ((decide ((now5.l.length : Int) = (s : Int))) && decide ((k : Int) < (P : Int)))) = true then (some ((k : Int) + (1 : Int)) : Option Int) else (stF u v s P R k).2.1)).bind fun (holds5 : Option Int) => (M.ret (if (decide ((k : Int) = ((R : Int) - (1 : Int)))) = true then now5 else (stF u v s P R k).2.2)).bind fun (firm5 : Tp Int) => M.ret (seen5, holds5, firm5)) = .ret (stF u v s P R (k + 1)) := by
  unfold stF
  dsimp only
  rw [rg1_nat (by omega), M.ret_bind, lcM_rngA (seenN u v s (k + 1)) (by omega) fun c hc => by
    rw [seen_at hc, M.ret_bind, row_at (by omega) hc, M.ret_bind, M.ret_bind, addS_ok (by rw [seen_len]; simp; omega), M.ret_bind, row_at (by omega) hc, M.ret_bind, M.ret_bind, addS_ok (by rw [List.length_append, seen_len]; simp; omega), seen_succ]]
  rw [M.ret_bind, M.ret_bind, lcM_rng (bothN u v s (k + 1)) (fun c => (c : Int)) (by omega) (fun c hc => by
    rw [seen_at hc, M.ret_bind, M.ret_bind, M.ret_bind]
    unfold bothN
    cases decide (105 ∈ seenN u v s (k + 1) c) <;> rfl) fun _ _ _ => rfl]
  rw [M.ret_bind, M.ret_bind, M.ret_bind, M.ret_bind]
  congr 1
  refine Prod.ext rfl (Prod.ext ?_ ?_)
  · dsimp only
    have e : decide (((List.map (fun (c : Nat) => (c : Int)) (List.filter (bothN u v s (k + 1)) (List.range s))).length : Int) = (s : Int)) = fullN u v s (k + 1) := by
      rw [List.length_map, Bool.eq_iff_iff, decide_eq_true_eq, ← now_len]
      unfold nowN
      omega
    rw [e]
    by_cases hP : k < P
    · rw [decide_eq_true (show (k : Int) < (P : Int) by omega), Bool.and_true, Nat.min_eq_left (by omega), Nat.min_eq_left (by omega), first_succ]
      cases hf : firstN u v s k with
      | none =>
        cases hg : fullN u v s (k + 1) <;> simp
      | some x => simp
    · rw [decide_eq_false (show ¬ (k : Int) < (P : Int) by omega), Bool.and_false, Bool.and_false, if_neg (by decide), Nat.min_eq_right (by omega), Nat.min_eq_right (by omega)]
  · dsimp only
    by_cases hk1 : k + 1 = R
    · rw [if_pos (decide_eq_true (by omega)), if_pos (by omega), ← hk1]
      rfl
    · rw [if_neg (by rw [decide_eq_true_eq]; omega)]
      by_cases h : R ≤ k
      · rw [if_pos h, if_pos (by omega)]
      · rw [if_neg h, if_neg (by omega)]
end
end K93
end

section
set_option Elab.async false
set_option linter.all false
set_option maxHeartbeats 4000000
set_option maxRecDepth 100000
namespace K93
open WK
theorem zp_map {u v : List Nat} {L : Nat} (hL : L ≤ 10000) : zpT ((gone u L).map Ch.mk) ((gone v L).map Ch.mk) = .ret ((List.range L).map fun i => (⟨⟨wat u i⟩, ⟨wat v i⟩⟩ : P2 Ch Ch)) := by
  have := zp_gone (u := u) (v := v) hL
  rwa [chs_ok (by rw [gone_len]; omega), M.ret_bind, chs_ok (by rw [gone_len]; omega), M.ret_bind] at this
theorem cnt_len {u v : List Nat} {L : Nat} : ((((List.range L).map fun i => (⟨⟨wat u i⟩, ⟨wat v i⟩⟩ : P2 Ch Ch)).filter fun a => decide (a.a = a.b)).map fun _ => (1 : Int)).length = (al u v L).length := by
  rw [List.length_map, List.filter_map, List.length_map]
  unfold al
  congr 1
  refine List.filter_congr fun i _ => ?_
  exact decide_eq_decide.mpr (by rw [Ch.mk.injEq])
set_option pp.maxSteps 4000 in
theorem right_t : Al (fun b => b = true) T_law_right := by
  unfold T_law_right
  refine a_all two_t fun x ⟨n, m, hu, hv⟩ => ?_
  obtain ⟨u, v⟩ := x
  dsimp only at hu hv ⊢
  simp only [M.bind_assoc, M.ret_bind]
  refine a_roll 10 rfl (by decide) (by decide) fun i hi => a_roll 8 rfl (by decide) (by decide) fun k hk => ?_
  rw [show (3 : Int) + (i : Int) = ((3 + i : Nat) : Int) by omega, show (1 : Int) + (k : Int) = ((1 + k : Nat) : Int) by omega]
  generalize hs : 3 + i = s
  generalize hR : 1 + k = R
  have s1 : 3 ≤ s := by omega
  have s2 : s ≤ 12 := by omega
  have r1 : 1 ≤ R := by omega
  have r2 : R ≤ 8 := by omega
  clear hs hR hi hk i k
  have hL := L_le hu hv
  have hP := perS_le (s := s) hu.n1 hu.n2 hv.n1 hv.n2
  have hw := while_t hu hv s1 s2
  simp only [M.bind_assoc, M.ret_bind] at hw
  refine a_eq (law_period_t hu hv) (a_eq hw ?_)
  generalize hPe : perS s n m = P at hP ⊢
  have hK : (if (P : Int) > (R : Int) then (P : Int) else (R : Int)) = ((max R P : Nat) : Int) := by split <;> omega
  rw [hK]
  generalize hKe : max R P = K
  have hKs : K * s ≤ 132 * 12 := Nat.mul_le_mul (by omega) s2
  rw [mulI_r (by omega), M.ret_bind, ← Int.natCast_mul]
  refine a_eq (law_gone_t hu (by omega)) (a_eq (law_gone_t hv (by omega)) ?_)
  refine a_eq (rg1_nat (by omega)) (a_eq (lcM_rngA (fun r => (⟨rowN u s r, rowN v s r⟩ : P2 (List Nat) (List Nat))) (by omega) fun r hr => ?_) ?_)
  · have h2 : (r + 1) * s ≤ K * s := Nat.mul_le_mul_right _ (by omega)
    have e1 := slice_t (w := u) (s := s) (r := r) (by omega) (by omega) h2
    have e2 := slice_t (w := v) (s := s) (r := r) (by omega) (by omega) h2
    simp only [M.bind_assoc, M.ret_bind] at e1 e2 ⊢
    have m1 : mulI (r : Int) (s : Int) = .ret ((r : Int) * (s : Int)) := mulI_r (by omega)
    have m2 : mulI ((r : Int) + 1) (s : Int) = .ret (((r : Int) + 1) * (s : Int)) := mulI_r (by omega)
    simp only [m1, m2, M.ret_bind] at e1 e2 ⊢
    rw [e1, M.ret_bind, e2, M.ret_bind]
  have hper := period_of_t hu hv s1 (show s ≤ 24 by omega)
  rw [hPe] at hper
  refine a_eq hper (a_eq (rounds_of_t hu hv s1 (by omega) r1 (by omega)) ?_)
  have hcut : cut ((List.range K).map fun r => (⟨rowN u s r, rowN v s r⟩ : P2 (List Nat) (List Nat))) none (some (R : Int)) = rowsP u v s R := by
    rw [cut_to]
    unfold rowsP
    rw [← List.map_take, List.take_range, Nat.min_eq_left (by omega)]
  rw [hcut]
  refine a_same rfl (plain_p2 (EnPl.l _ _) (plain_tp (by unfold rowsP; simp; omega) fun p _ => plain_p2 (EnPl.l _ _) (EnPl.l _ _))) ?_
  simp only [Bool.not_true, Bool.false_eq_true, if_false]
  rw [List.length_map, List.length_range]
  refine a_roll K rfl (by omega) (by omega) fun r hr => ?_
  have hrow : ixL ((List.range K).map fun r => (⟨rowN u s r, rowN v s r⟩ : P2 (List Nat) (List Nat))) (r : Int) = .ret ⟨rowN u s r, rowN v s r⟩ := ixL_nat (by rw [List.getElem?_map, List.getElem?_range hr]; rfl)
  refine a_eq (rg1_nat (by omega)) (a_eq (lcM_rng (fun c => decide (cell u s r c = cell v s r c)) (fun c => (c : Int)) (by omega) (fun c hc => by
    rw [hrow, M.ret_bind, row_at (by omega) hc, M.ret_bind, M.ret_bind, row_at (by omega) hc, M.ret_bind]
    congr 1
    exact decide_eq_decide.mpr (by rw [Ch.mk.injEq])) fun _ _ _ => rfl) ?_)
  have hd := per_dvd (s := s) (a := n) (b := m)
  rw [hPe] at hd
  have hd1 : u.length ∣ P * s := by rw [hu.sg.len]; exact hd.1
  have hd2 : v.length ∣ P * s := by rw [hv.sg.len]; exact hd.2
  have hdL : Nat.lcm n m ∣ P * s := Nat.lcm_dvd hd.1 hd.2
  refine a_eq (modI_ok (by omega)) (a_roll 1000000 rfl (by decide) (by decide) fun t ht => ?_)
  have hPt : P * t ≤ 132 * 1000000 := Nat.mul_le_mul hP.1 (by omega)
  have hrP : r % P ≤ r := Nat.mod_le _ _
  refine a_eq (mulI_l (by omega)) (a_eq (alike_stakes_t hu hv s1 (by omega) (by omega)) ?_)
  rw [show ((r : Int) % (P : Int) + (P : Int) * (t : Int)) = ((r % P + P * t : Nat) : Int) by simp]
  refine a_eq (alike_stakes_t hu hv s1 (by omega) (by omega)) ?_
  rw [alS_far hd1 hd2]
  have hal : (alS u v s r).length < 1000 := by
    unfold alS
    exact Nat.lt_of_le_of_lt (List.length_filter_le _ _) (by rw [List.length_range]; omega)
  refine a_same rfl (plain_p2 (plain_tpE (by rw [List.length_map]; exact hal)) (plain_tpE (by rw [List.length_map]; exact hal))) ?_
  simp only [Bool.not_true, Bool.false_eq_true, if_false]
  have hRK : R * s ≤ K * s := Nat.mul_le_mul_right _ (by omega)
  refine a_eq (mulI_r (by omega)) ?_
  rw [← Int.natCast_mul]
  refine a_eq (slS_ok (by rw [gone_len]; omega)) (a_eq (mulI_r (by omega)) ?_)
  rw [← Int.natCast_mul]
  refine a_eq (slS_ok (by rw [gone_len]; omega)) ?_
  rw [cut_to, cut_to, gone_take hRK, gone_take hRK]
  refine a_eq (chs_ok (by rw [gone_len]; omega)) (a_eq (chs_ok (by rw [gone_len]; omega)) (a_eq (zp_map (by omega)) (a_eq (lcP_ok (by simp; omega)) ?_)))
  refine a_eq (law_gone_t hu (by omega)) (a_eq (law_gone_t hv (by omega)) (a_eq (chs_ok (by rw [gone_len]; omega)) (a_eq (chs_ok (by rw [gone_len]; omega)) (a_eq (zp_map (by omega)) (a_eq (lcP_ok (by simp; omega)) ?_)))))
  rw [cnt_len, cnt_len]
  refine a_roll 1000000 rfl (by decide) (by decide) fun q hq => ?_
  have hPq : P * q ≤ 132 * 1000000 := Nat.mul_le_mul hP.1 (by omega)
  refine a_eq (alike_many_t hu hv s1 (by omega) (by omega)) (a_eq (mulI_l (by omega)) ?_)
  rw [← Int.natCast_mul]
  have hll := al_len (u := u) (v := v) (L := Nat.lcm n m)
  refine a_eq (alike_many_t hu hv s1 (by omega) (by omega)) (a_eq (mulI_l (by omega)) (a_eq (mulI_r (by omega)) (a_eq (divI_ok (by omega) (by omega)) (a_eq (mulI_r (by omega)) ?_))))
  have hmany : (al u v (P * q * s)).length = P * q * s / Nat.lcm n m * (al u v (Nat.lcm n m)).length := by
    have hdu : u.length ∣ Nat.lcm n m := by rw [hu.sg.len]; exact Nat.dvd_lcm_left _ _
    have hdv : v.length ∣ Nat.lcm n m := by rw [hv.sg.len]; exact Nat.dvd_lcm_right _ _
    obtain ⟨k, hk⟩ := hdL
    have e : P * q * s = (q * k) * Nat.lcm n m := by rw [Nat.mul_right_comm, hk]; ac_rfl
    rw [e, Nat.mul_div_cancel _ hL.2]
    have := al_many hdu hdv 0 (q * k)
    rw [Nat.add_zero] at this
    rw [this]
    simp [al]
  refine a_same (by rw [hmany]; simp) (plain_p2 (EnPl.l _ _) (EnPl.l _ _)) ?_
  simp only [Bool.not_true, Bool.false_eq_true, if_false]
  have hrep : mulL ([([] : List Nat)] : List (List Nat)) (s : Int) = .ret (List.replicate s []) := by
    unfold mulL
    first
      | (rw [if_pos ⟨by omega, by decide, by omega⟩, Int.toNat_natCast]; simp)
      | (rw [if_pos ⟨by omega, by decide, by omega, by decide⟩, Int.toNat_natCast]; simp)
      | (rw [if_pos ⟨by omega, by decide⟩, Int.toNat_natCast]; simp)
  refine a_eq hrep ?_
  have hen := en_rows (K := K) (fun r => (⟨rowN u s r, rowN v s r⟩ : P2 (List Nat) (List Nat))) (by omega)
  rw [M.ret_bind] at hen
  refine a_eq hen (a_eq (foldT_mapr (fun (r : Nat) => (⟨(r : Int), ⟨rowN u s r, rowN v s r⟩⟩ : P2 Int (P2 (List Nat) (List Nat)))) (stF u v s P R) K ?_ fun k hk => ?_) ?_)
  · unfold stF
    rw [Nat.zero_min, if_neg (by omega)]
    refine Prod.ext ?_ rfl
    show List.replicate s [] = (List.range s).map (seenN u v s 0)
    refine (List.eq_replicate_iff.mpr ⟨by simp, fun x hx => ?_⟩).symm
    obtain ⟨c, _, rfl⟩ := List.mem_map.mp hx
    rfl
  · have := turn_t (u := u) (v := v) (s := s) (P := P) (R := R) (k := k) (by omega) (by omega) r1
    simp only [M.bind_assoc, M.ret_bind, M.bind_ret] at this ⊢
    exact this
  have hrf := rounds_to_firm_t hu hv s1 (show s ≤ 24 by omega)
  rw [hPe] at hrf
  refine a_eq (firm_behind_t hu hv s1 (by omega) r1 (by omega)) (a_eq hrf ?_)
  refine a_tail (b := true) (same_ok ?_ ?_) rfl
  · unfold stF
    rw [if_pos (by omega), Nat.min_eq_right (by omega)]
  · refine plain_p2 (plain_tpE ?_) (EnPl.l _ _)
    rw [List.length_map]
    unfold nowN
    exact Nat.lt_of_le_of_lt (List.length_filter_le _ _) (by rw [List.length_range]; omega)
theorem flip2_t {n : Nat} {u : List Nat} (hu : Wd n u) : ∃ w, (((chs u).bind fun xs => lcA xs (fun (sign : Ch) => if (decide (sign = (Ch.mk 105))) = true then (Ch.mk 111) else (Ch.mk 105))).bind fun x3 => joinC x3) = .ret w ∧ Wd n w ∧ ∀ i, wat u i ≠ wat w i := by
  have hl := hu.sg.len
  have h2 := hu.n2
  refine ⟨u.map fun c => if c = 105 then 111 else 105, ?_, ⟨⟨by simp [hl], fun c hc => ?_⟩, hu.n1, hu.n2⟩, fun i => ?_⟩
  · rw [chs_ok (by omega), M.ret_bind, lcA_ok (by simp; omega), M.ret_bind]
    unfold joinC
    rw [fitM_ok (by simp; omega), List.map_map, List.map_map]
    congr 1
    refine List.map_congr_left fun c _ => ?_
    show (if (decide ((⟨c⟩ : Ch) = ⟨105⟩)) = true then (Ch.mk 111) else (Ch.mk 105)).c = _
    by_cases h : c = 105
    · rw [if_pos (by simp [h]), if_pos h]
    · rw [if_neg (by simp [h]), if_neg h]
  · obtain ⟨x, hx, rfl⟩ := List.mem_map.mp hc
    split <;> simp
  · have h1 := wat_at i hu.pos
    have h3 : (u.map fun c => if c = 105 then 111 else 105)[i % u.length]? = some (if wat u i = 105 then 111 else 105) := by
      rw [List.getElem?_map, h1]
      rfl
    have h4 := wat_at (w := u.map fun c => if c = 105 then 111 else 105) i (by rw [List.length_map]; exact hu.pos)
    rw [List.length_map, h3] at h4
    rw [← Option.some.inj h4]
    split <;> omega
theorem law_t : Al (fun b => b = true) T_law := by
  unfold T_law
  refine a_eq (rg1_ok (by decide)) (a_all (forT_all (fun _ => True) _ _ trivial fun x s hx _ => ?_) fun c ⟨s, e, _⟩ => ?_)
  · simp only [M.bind_assoc, M.ret_bind]
    exact a_all right_t fun b hb => by subst hb; exact a_fin ⟨(), rfl, trivial⟩
  · subst e
    simp only [Ct.on, M.bind_assoc, M.ret_bind]
    refine a_roll 22 rfl (by decide) (by decide) fun i hi => a_roll 12 rfl (by decide) (by decide) fun j hj => ?_
    rw [show (3 : Int) + (i : Int) = ((3 + i : Nat) : Int) by omega, show (1 : Int) + (j : Int) = ((1 + j : Nat) : Int) by omega]
    refine a_all (signs_t (by omega)) fun u hu' => ?_
    have hu : Wd (1 + j) u := ⟨hu', by omega, by omega⟩
    generalize hs : 3 + i = s
    have s1 : 3 ≤ s := by omega
    have s2 : s ≤ 24 := by omega
    obtain ⟨w, e, hw, hne⟩ := flip2_t hu
    simp only [M.bind_assoc] at e
    have hl := hu.le
    rw [chs_ok (by omega), M.ret_bind] at e ⊢
    refine a_eq2 e ?_
    have hP := perS_le (s := s) hu.n1 hu.n2 hw.n1 hw.n2
    have hb : ∀ c, bothN u w s 1 c = true := fun c => by
      unfold bothN seenN
      have h1 := wat_sg hu.sg hu.n1 (0 * s + c)
      have h2 := wat_sg hw.sg hw.n1 (0 * s + c)
      have h3 := hne (0 * s + c)
      show (decide (105 ∈ [wat u (0 * s + c), wat w (0 * s + c)]) && decide (111 ∈ [wat u (0 * s + c), wat w (0 * s + c)])) = true
      rcases h1 with h1 | h1 <;> rcases h2 with h2 | h2 <;> rw [h1, h2] at h3 ⊢ <;> simp_all
    have hf : firstN u w s (perS s (1 + j) (1 + j)) = some 1 := by
      unfold firstN
      obtain ⟨p, hp⟩ : ∃ p, perS s (1 + j) (1 + j) = p + 1 := ⟨perS s (1 + j) (1 + j) - 1, by omega⟩
      rw [hp, List.range_succ_eq_map, List.find?_cons]
      have : fullN u w s (0 + 1) = true := List.all_eq_true.mpr fun c _ => hb c
      rw [this]
      rfl
    have ha : ∀ k, al u w k = [] := fun k => List.filter_eq_nil_iff.mpr fun i _ => by
      rw [decide_eq_true_eq]
      exact hne i
    have e1 := rounds_to_firm_t hu hw s1 s2
    rw [hf] at e1
    have e2 := alike_many_t hu hw s1 s2 (R := 1000000000) (by omega)
    rw [ha] at e2
    have e3 := alike_stakes_t hu hu s1 s2 (r := 1000000000) (by omega)
    have e4 : alS u u s 1000000000 = List.range s := List.filter_eq_self.mpr fun c _ => by simp
    rw [e4] at e3
    refine a_eq e1 (a_eq e2 (a_eq e3 (a_eq (rg1_nat (by omega)) (a_eq (lcA_ok (by rw [rngN_len]; omega)) ?_))))
    refine a_tail (b := true) (same_ok ?_ ?_) rfl
    · rw [rngN_map']
      rfl
    · refine plain_p3 (EnPl.l _ _) (EnPl.l _ _) (plain_tpE ?_)
      rw [List.length_map, List.length_range]
      omega
theorem plain : (WK.lawM 7 B_law).All WK.isTrue1 := plain_of law_t.go
end K93
end

section
set_option Elab.async false
set_option linter.all false
set_option maxRecDepth 100000
set_option maxHeartbeats 0
namespace K93
open PySem PySem.Spec PyProof.Rows L2 WK
def D_law_cup : He.DefD := ⟨("_law_cup", none), "_law_cup", "_law_cup", defArgs (top 36), defBody (top 36), defScope (top 36), [], []⟩
def D_law_roll : He.DefD := ⟨("_law_roll", none), "_law_roll", "_law_roll", defArgs (top 37), defBody (top 37), defScope (top 37), [], []⟩
def D_law_some : He.DefD := ⟨("_law_some", none), "_law_some", "_law_some", defArgs (top 38), defBody (top 38), defScope (top 38), [], []⟩
def D_law_signs : He.DefD := ⟨("_law_signs", none), "_law_signs", "_law_signs", defArgs (top 40), defBody (top 40), defScope (top 40), [], []⟩
def D_law_two : He.DefD := ⟨("_law_two", none), "_law_two", "_law_two", defArgs (top 42), defBody (top 42), defScope (top 42), [], []⟩
def D_law_period : He.DefD := ⟨("_law_period", none), "_law_period", "_law_period", defArgs (top 43), defBody (top 43), defScope (top 43), [], []⟩
def D_law_gone : He.DefD := ⟨("_law_gone", none), "_law_gone", "_law_gone", defArgs (top 41), defBody (top 41), defScope (top 41), [], []⟩
def D_law_same : He.DefD := ⟨("_law_same", none), "_law_same", "_law_same", defArgs (top 39), defBody (top 39), defScope (top 39), [], []⟩
def D_fits_signs : He.DefD := ⟨("fits_signs", none), "fits_signs", "fits_signs", defArgs (top 13), defBody (top 13), defScope (top 13), [], []⟩
def D_fits_word : He.DefD := ⟨("fits_word", none), "fits_word", "fits_word", defArgs (top 14), defBody (top 14), defScope (top 14), [], []⟩
def D_need_word : He.DefD := ⟨("need_word", none), "need_word", "need_word", defArgs (top 15), defBody (top 15), defScope (top 15), [], []⟩
def D_need_words : He.DefD := ⟨("need_words", none), "need_words", "need_words", defArgs (top 21), defBody (top 21), defScope (top 21), [], []⟩
def D_is_whole : He.DefD := ⟨("is_whole", none), "is_whole", "is_whole", defArgs (top 11), defBody (top 11), defScope (top 11), [], []⟩
def D_fits_whole : He.DefD := ⟨("fits_whole", none), "fits_whole", "fits_whole", defArgs (top 12), defBody (top 12), defScope (top 12), [], []⟩
def D_need_stakes : He.DefD := ⟨("need_stakes", none), "need_stakes", "need_stakes", defArgs (top 16), defBody (top 16), defScope (top 16), [], []⟩
def D_divisor : He.DefD := ⟨("divisor", none), "divisor", "divisor", defArgs (top 17), defBody (top 17), defScope (top 17), [], []⟩
def D_together : He.DefD := ⟨("together", none), "together", "together", defArgs (top 24), defBody (top 24), defScope (top 24), [], []⟩
def D_period_in : He.DefD := ⟨("period_in", none), "period_in", "period_in", defArgs (top 28), defBody (top 28), defScope (top 28), [], []⟩
def D_period_of : He.DefD := ⟨("period_of", none), "period_of", "period_of", defArgs (top 29), defBody (top 29), defScope (top 29), [], []⟩
def D_need_rounds : He.DefD := ⟨("need_rounds", none), "need_rounds", "need_rounds", defArgs (top 22), defBody (top 22), defScope (top 22), [], []⟩
def D_wound_in : He.DefD := ⟨("wound_in", none), "wound_in", "wound_in", defArgs (top 18), defBody (top 18), defScope (top 18), [], []⟩
def D_round_in : He.DefD := ⟨("round_in", none), "round_in", "round_in", defArgs (top 27), defBody (top 27), defScope (top 27), [], []⟩
def D_rounds_of : He.DefD := ⟨("rounds_of", none), "rounds_of", "rounds_of", defArgs (top 30), defBody (top 30), defScope (top 30), [], []⟩
def D_need_ticks : He.DefD := ⟨("need_ticks", none), "need_ticks", "need_ticks", defArgs (top 23), defBody (top 23), defScope (top 23), [], []⟩
def D_alike_stakes : He.DefD := ⟨("alike_stakes", none), "alike_stakes", "alike_stakes", defArgs (top 31), defBody (top 31), defScope (top 31), [], []⟩
def D_signs_in : He.DefD := ⟨("signs_in", none), "signs_in", "signs_in", defArgs (top 25), defBody (top 25), defScope (top 25), [], []⟩
def D_alike_in : He.DefD := ⟨("alike_in", none), "alike_in", "alike_in", defArgs (top 26), defBody (top 26), defScope (top 26), [], []⟩
def D_alike_many : He.DefD := ⟨("alike_many", none), "alike_many", "alike_many", defArgs (top 34), defBody (top 34), defScope (top 34), [], []⟩
def D_firm_behind : He.DefD := ⟨("firm_behind", none), "firm_behind", "firm_behind", defArgs (top 32), defBody (top 32), defScope (top 32), [], []⟩
def D_rounds_to_firm : He.DefD := ⟨("rounds_to_firm", none), "rounds_to_firm", "rounds_to_firm", defArgs (top 33), defBody (top 33), defScope (top 33), [], []⟩
def D_law_right : He.DefD := ⟨("_law_right", none), "_law_right", "_law_right", defArgs (top 44), defBody (top 44), defScope (top 44), [], []⟩
def D_law : He.DefD := ⟨("law", none), "law", "law", defArgs (top 45), defBody (top 45), defScope (top 45), [], []⟩
def fn : List He.DefD := [D_law_cup, D_law_roll, D_law_some, D_law_signs, D_law_two, D_law_period, D_law_gone, D_law_same, D_fits_signs, D_fits_word, D_need_word, D_need_words, D_is_whole, D_fits_whole, D_need_stakes, D_divisor, D_together, D_period_in, D_period_of, D_need_rounds, D_wound_in, D_round_in, D_rounds_of, D_need_ticks, D_alike_stakes, D_signs_in, D_alike_in, D_alike_many, D_firm_behind, D_rounds_to_firm, D_law_right, D_law]
def fa : List He.Fa := [.glo "_law_cup", .glo "_law_roll", .glo "_law_some", .glo "_law_signs", .glo "_law_two", .glo "_law_period", .glo "_law_gone", .glo "_law_same", .glo "fits_signs", .glo "fits_word", .glo "need_word", .glo "need_words", .glo "is_whole", .glo "fits_whole", .glo "need_stakes", .glo "divisor", .glo "together", .glo "period_in", .glo "period_of", .glo "need_rounds", .glo "wound_in", .glo "round_in", .glo "rounds_of", .glo "need_ticks", .glo "alike_stakes", .glo "signs_in", .glo "alike_in", .glo "alike_many", .glo "firm_behind", .glo "rounds_to_firm", .glo "_law_right", .glo "law", .free "abs", .free "all", .free "bool", .free "enumerate", .free "int", .free "isinstance", .free "len", .free "list", .free "max", .free "range", .free "set", .free "str", .free "tuple", .free "zip", .str "SIGNS" "io", .int "LEAST" (3), .int "STAKES" (24), .int "HIGH" (40), .int "WORD" (12), .int "FAR" (1000000000)]
abbrev R : PySem.W.OpenRow := PySem.W.OpenLaw.row PySem.Challenge.rw_wickerwork_k93_whole_rounds_of_two_rods
abbrev hk : PySem.W.Hook := He.hookD 4 fa fn
def ob (s : PySem.W.SharedT) : He.AlD := He.obsDG 4 fa fn (HandSHeadRun.getT s)
theorem ob_eq (s : PySem.W.SharedT) : ob s = hk.obs s.abs := He.obsDG_eq (HandSHeadRun.getT_eq s)
def loose0 : List PySem.Str := ["WickerError", "InvalidWord", "InvalidStakes", "InvalidNumber", "SIGNS", "LEAST", "STAKES", "HIGH", "WORD", "is_whole", "fits_whole", "fits_signs", "fits_word", "need_word", "need_stakes", "divisor", "wound_in", "FAR", "need_words", "need_rounds", "need_ticks", "together", "signs_in", "alike_in", "round_in", "period_in", "period_of", "rounds_of", "alike_stakes", "firm_behind"]
def loose1 : List PySem.Str := ["rounds_to_firm", "alike_many", "_law_cup", "_law_roll", "_law_some", "_law_same", "_law_signs", "_law_gone", "_law_two", "_law_period", "_law_right"]
abbrev loose : List PySem.Str := loose0 ++ loose1
theorem hrun_ (w : World) : HandSHeadRun.RunEq R (PySem.W.view R.prog [45]) hk ob 4000 loose w := by
  intro os
  kernel_rfl
theorem tops {K : PySem.W.Frag} {h : Heap} {mg : Str → Option Value} (X : K.In h) (G : h.Ns mainGlobals mg) (c : He.SaysD fa fn K) : Tops K mg := by
  constructor
  · obtain ⟨fd, F⟩ := c.def_ 0 (d := D_law_cup) rfl
    exact ⟨_, fd, He.glo_ok X G (c.fact 0 (f := .glo "_law_cup") rfl), F⟩
  · obtain ⟨fd, F⟩ := c.def_ 1 (d := D_law_roll) rfl
    exact ⟨_, fd, He.glo_ok X G (c.fact 1 (f := .glo "_law_roll") rfl), F⟩
  · obtain ⟨fd, F⟩ := c.def_ 2 (d := D_law_some) rfl
    exact ⟨_, fd, He.glo_ok X G (c.fact 2 (f := .glo "_law_some") rfl), F⟩
  · obtain ⟨fd, F⟩ := c.def_ 3 (d := D_law_signs) rfl
    exact ⟨_, fd, He.glo_ok X G (c.fact 3 (f := .glo "_law_signs") rfl), F⟩
  · obtain ⟨fd, F⟩ := c.def_ 4 (d := D_law_two) rfl
    exact ⟨_, fd, He.glo_ok X G (c.fact 4 (f := .glo "_law_two") rfl), F⟩
  · obtain ⟨fd, F⟩ := c.def_ 5 (d := D_law_period) rfl
    exact ⟨_, fd, He.glo_ok X G (c.fact 5 (f := .glo "_law_period") rfl), F⟩
  · obtain ⟨fd, F⟩ := c.def_ 6 (d := D_law_gone) rfl
    exact ⟨_, fd, He.glo_ok X G (c.fact 6 (f := .glo "_law_gone") rfl), F⟩
  · obtain ⟨fd, F⟩ := c.def_ 7 (d := D_law_same) rfl
    exact ⟨_, fd, He.glo_ok X G (c.fact 7 (f := .glo "_law_same") rfl), F⟩
  · obtain ⟨fd, F⟩ := c.def_ 8 (d := D_fits_signs) rfl
    exact ⟨_, fd, He.glo_ok X G (c.fact 8 (f := .glo "fits_signs") rfl), F⟩
  · obtain ⟨fd, F⟩ := c.def_ 9 (d := D_fits_word) rfl
    exact ⟨_, fd, He.glo_ok X G (c.fact 9 (f := .glo "fits_word") rfl), F⟩
  · obtain ⟨fd, F⟩ := c.def_ 10 (d := D_need_word) rfl
    exact ⟨_, fd, He.glo_ok X G (c.fact 10 (f := .glo "need_word") rfl), F⟩
  · obtain ⟨fd, F⟩ := c.def_ 11 (d := D_need_words) rfl
    exact ⟨_, fd, He.glo_ok X G (c.fact 11 (f := .glo "need_words") rfl), F⟩
  · obtain ⟨fd, F⟩ := c.def_ 12 (d := D_is_whole) rfl
    exact ⟨_, fd, He.glo_ok X G (c.fact 12 (f := .glo "is_whole") rfl), F⟩
  · obtain ⟨fd, F⟩ := c.def_ 13 (d := D_fits_whole) rfl
    exact ⟨_, fd, He.glo_ok X G (c.fact 13 (f := .glo "fits_whole") rfl), F⟩
  · obtain ⟨fd, F⟩ := c.def_ 14 (d := D_need_stakes) rfl
    exact ⟨_, fd, He.glo_ok X G (c.fact 14 (f := .glo "need_stakes") rfl), F⟩
  · obtain ⟨fd, F⟩ := c.def_ 15 (d := D_divisor) rfl
    exact ⟨_, fd, He.glo_ok X G (c.fact 15 (f := .glo "divisor") rfl), F⟩
  · obtain ⟨fd, F⟩ := c.def_ 16 (d := D_together) rfl
    exact ⟨_, fd, He.glo_ok X G (c.fact 16 (f := .glo "together") rfl), F⟩
  · obtain ⟨fd, F⟩ := c.def_ 17 (d := D_period_in) rfl
    exact ⟨_, fd, He.glo_ok X G (c.fact 17 (f := .glo "period_in") rfl), F⟩
  · obtain ⟨fd, F⟩ := c.def_ 18 (d := D_period_of) rfl
    exact ⟨_, fd, He.glo_ok X G (c.fact 18 (f := .glo "period_of") rfl), F⟩
  · obtain ⟨fd, F⟩ := c.def_ 19 (d := D_need_rounds) rfl
    exact ⟨_, fd, He.glo_ok X G (c.fact 19 (f := .glo "need_rounds") rfl), F⟩
  · obtain ⟨fd, F⟩ := c.def_ 20 (d := D_wound_in) rfl
    exact ⟨_, fd, He.glo_ok X G (c.fact 20 (f := .glo "wound_in") rfl), F⟩
  · obtain ⟨fd, F⟩ := c.def_ 21 (d := D_round_in) rfl
    exact ⟨_, fd, He.glo_ok X G (c.fact 21 (f := .glo "round_in") rfl), F⟩
  · obtain ⟨fd, F⟩ := c.def_ 22 (d := D_rounds_of) rfl
    exact ⟨_, fd, He.glo_ok X G (c.fact 22 (f := .glo "rounds_of") rfl), F⟩
  · obtain ⟨fd, F⟩ := c.def_ 23 (d := D_need_ticks) rfl
    exact ⟨_, fd, He.glo_ok X G (c.fact 23 (f := .glo "need_ticks") rfl), F⟩
  · obtain ⟨fd, F⟩ := c.def_ 24 (d := D_alike_stakes) rfl
    exact ⟨_, fd, He.glo_ok X G (c.fact 24 (f := .glo "alike_stakes") rfl), F⟩
  · obtain ⟨fd, F⟩ := c.def_ 25 (d := D_signs_in) rfl
    exact ⟨_, fd, He.glo_ok X G (c.fact 25 (f := .glo "signs_in") rfl), F⟩
  · obtain ⟨fd, F⟩ := c.def_ 26 (d := D_alike_in) rfl
    exact ⟨_, fd, He.glo_ok X G (c.fact 26 (f := .glo "alike_in") rfl), F⟩
  · obtain ⟨fd, F⟩ := c.def_ 27 (d := D_alike_many) rfl
    exact ⟨_, fd, He.glo_ok X G (c.fact 27 (f := .glo "alike_many") rfl), F⟩
  · obtain ⟨fd, F⟩ := c.def_ 28 (d := D_firm_behind) rfl
    exact ⟨_, fd, He.glo_ok X G (c.fact 28 (f := .glo "firm_behind") rfl), F⟩
  · obtain ⟨fd, F⟩ := c.def_ 29 (d := D_rounds_to_firm) rfl
    exact ⟨_, fd, He.glo_ok X G (c.fact 29 (f := .glo "rounds_to_firm") rfl), F⟩
  · obtain ⟨fd, F⟩ := c.def_ 30 (d := D_law_right) rfl
    exact ⟨_, fd, He.glo_ok X G (c.fact 30 (f := .glo "_law_right") rfl), F⟩
  · exact He.free_ok X G (c.fact 32 (f := .free "abs") rfl)
  · exact He.free_ok X G (c.fact 33 (f := .free "all") rfl)
  · exact He.free_ok X G (c.fact 34 (f := .free "bool") rfl)
  · exact He.free_ok X G (c.fact 35 (f := .free "enumerate") rfl)
  · exact He.free_ok X G (c.fact 36 (f := .free "int") rfl)
  · exact He.free_ok X G (c.fact 37 (f := .free "isinstance") rfl)
  · exact He.free_ok X G (c.fact 38 (f := .free "len") rfl)
  · exact He.free_ok X G (c.fact 39 (f := .free "list") rfl)
  · exact He.free_ok X G (c.fact 40 (f := .free "max") rfl)
  · exact He.free_ok X G (c.fact 41 (f := .free "range") rfl)
  · exact He.free_ok X G (c.fact 42 (f := .free "set") rfl)
  · exact He.free_ok X G (c.fact 43 (f := .free "str") rfl)
  · exact He.free_ok X G (c.fact 44 (f := .free "tuple") rfl)
  · exact He.free_ok X G (c.fact 45 (f := .free "zip") rfl)
  · exact He.str_ok X G (c.fact 46 (f := .str "SIGNS" "io") rfl)
  · exact He.int_ok X G (c.fact 47 (f := .int "LEAST" (3)) rfl)
  · exact He.int_ok X G (c.fact 48 (f := .int "STAKES" (24)) rfl)
  · exact He.int_ok X G (c.fact 49 (f := .int "HIGH" (40)) rfl)
  · exact He.int_ok X G (c.fact 50 (f := .int "WORD" (12)) rfl)
  · exact He.int_ok X G (c.fact 51 (f := .int "FAR" (1000000000)) rfl)
theorem head_facts (plain : (lawM 7 B_law).All isTrue1) {P : Program} {w : World} {K : PySem.W.Frag} {h : Heap} {mg : Str → Option Value} {f : Addr} (X : K.In h) (G : h.Ns mainGlobals mg) (hfa : mg ("law" : Str) = some (.ref f)) (c : He.SaysD fa fn K) :
    ∃ fd : FuncData, (∀ (s : Shared) (v : Value), BindsTo s fd ⟨[v], []⟩ [("script", v)]) ∧ ∀ base : Heap, K.In base → base.Ns mainGlobals mg → FnOk P w K mg base CX0 9 f fd ["script"] (spLaw K) := by
  obtain ⟨fd, F⟩ := c.def_ 31 (d := D_law) rfl
  have e := hfa.symm.trans (He.glo_ok X G (c.fact 31 (f := .glo "law") rfl))
  cases e
  have b := FunD.bindsA (ps := ["script"]) F fun _ _ _ _ _ _ us hl => match us, hl with | [_], _ => rfl
  exact ⟨fd, fun s v => b s [v] rfl, fun base _ _ => ok_law (tops X G c) plain F⟩
end K93
open PySem PySem.W PySem.Calls PyProof.Rows
theorem K93.holds_of (plain : (WK.lawM 7 K93.B_law).All WK.isTrue1) : PySem.Challenge.rw_wickerwork_k93_whole_rounds_of_two_rods.Holds := by
  w_on; o_law
  refine HandSHeadRun.head_any (r := OpenLaw.row PySem.Challenge.rw_wickerwork_k93_whole_rounds_of_two_rods) (q := view (OpenLaw.row PySem.Challenge.rw_wickerwork_k93_whole_rounds_of_two_rods).prog [45]) (H := K93.hk) (ob := K93.ob) (M := 4000) (loose := K93.loose) (d := HandSHeadRun.topDef (OpenLaw.row PySem.Challenge.rw_wickerwork_k93_whole_rounds_of_two_rods).prog 45) (kwd := []) K93.ob_eq
    (by kernel_rfl) (fun s => by kernel_rfl) K93.hrun_ (by kernel_rfl) (by kernel_rfl) (by kernel_rfl) (by rfl) (by first | assumption | decide +kernel) (by decide +kernel) ⟨rfl, rfl, rfl, rfl, rfl, by decide +kernel⟩ ?hw ?hc
  case hw => w_witness2
  case hc =>
    refine L2.walk_ofE (l := PySem.Challenge.rw_wickerwork_k93_whole_rounds_of_two_rods) (n := 63) (k := 9) (x := "script") (CX := L2.CX0) rfl (by decide) (by kernel_rfl) ⟨rfl, by decide, by decide⟩ ?F (fun _ _ _ _ z => z)
    intro w mg fa h Y G hmg0
    obtain ⟨K, KX, c⟩ := Y
    have hmg : mg ("law" : PySem.Str) = some (.ref fa) := by
      have e : (HandSHeadRun.topDef (OpenLaw.row PySem.Challenge.rw_wickerwork_k93_whole_rounds_of_two_rods).prog 45).name = ("law" : PySem.Str) := by kernel_rfl
      rw [← e]
      exact hmg0
    obtain ⟨fd, hb, hF⟩ := K93.head_facts plain (P := (PySem.Challenge.rw_wickerwork_k93_whole_rounds_of_two_rods).prog) (w := w) KX G hmg c
    exact ⟨K, fd, WK.spLaw K, KX, hb, fun H a ns hl _ hS => ⟨a, ns, rfl, hS, hl, fun _ => rfl⟩, hF⟩
end

theorem PySem.Challenge.cw_wickerwork_k93_whole_rounds_of_two_rods_holds : PySem.Challenge.rw_wickerwork_k93_whole_rounds_of_two_rods.Holds := by
  exact K93.holds_of K93.plain
