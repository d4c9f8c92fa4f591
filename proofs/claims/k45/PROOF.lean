import PyProof.Rows.All
import Wide.All
import OpenK.AllK
import Wide.FinOn
import HandS.ForMost
import HandS.Style
import HandS.Flow
import HandS.Walk
import HandS.Deep
import HandS.TupAny
import HandS.TupMul
import HandS.Zip
import HandS.Rev
import HandS.SortRule
import HandS.SortInts
import HandS.TupLe
import HandS.IsInst
import KE.KTupSum
import KE.GoesEnum
import KE.GoesMore
import HandS.Steps
import HandS.Conv
import HandS.Flt
import HandS.Strs
import PySem.Challenge.RW_saidanddone_k45_whole_words_that_stand_n
/-! Den: plain values, a monad over the law's draw box, and the words into which a def's body is turned (no program in sight). -/
set_option linter.all false
namespace DN

/-- plain values: what the program's immutable data (and lists that nobody changes any more) stand for; a text is its codes -/
inductive D where
  | non | bl (b : Bool) | int (i : Int) | str (x : List Nat) | tup (xs : List D) | lst (xs : List D)
instance : Inhabited D := ⟨.non⟩

/-- the greatest length of texts, tuples, lists that is let through -/
def LIM : Nat := 1000000

mutual
def D.beq : D → D → Bool
  | .non, .non => true
  | .bl a, .bl b => a == b
  | .int i, .int j => i == j
  | .str x, .str y => x == y
  | .tup xs, .tup ys => D.beqs xs ys
  | .lst xs, .lst ys => D.beqs xs ys
  | _, _ => false
def D.beqs : List D → List D → Bool
  | [], [] => true
  | x :: xs, y :: ys => D.beq x y && D.beqs xs ys
  | _, _ => false
end
mutual
theorem D.beq_iff : ∀ (a b : D), D.beq a b = true ↔ a = b
  | .non, b => by cases b <;> simp [D.beq]
  | .bl a, b => by cases b <;> simp [D.beq]
  | .int i, b => by cases b <;> simp [D.beq]
  | .str x, b => by cases b <;> simp [D.beq]
  | .tup xs, b => by
    cases b with
    | tup ys => simp [D.beq, D.beqs_iff xs ys]
    | _ => simp [D.beq]
  | .lst xs, b => by
    cases b with
    | lst ys => simp [D.beq, D.beqs_iff xs ys]
    | _ => simp [D.beq]
theorem D.beqs_iff : ∀ (a b : List D), D.beqs a b = true ↔ a = b
  | [], b => by cases b <;> simp [D.beqs]
  | x :: xs, b => by
    cases b with
    | nil => simp [D.beqs]
    | cons y ys => simp [D.beqs, D.beq_iff x y, D.beqs_iff xs ys]
end
instance : DecidableEq D := fun a b => if h : D.beq a b = true then isTrue ((D.beq_iff a b).mp h) else isFalse fun e => h ((D.beq_iff a b).mpr e)

/-! ### == of Python -/
mutual
def D.eqv : D → D → Bool
  | .non, .non => true
  | .bl a, .bl b => a == b
  | .bl a, .int j => (if a then 1 else 0) == j
  | .int i, .bl b => i == (if b then 1 else 0)
  | .int i, .int j => i == j
  | .str x, .str y => x == y
  | .lst xs, .lst ys => D.eqvs xs ys
  | .tup xs, .tup ys => D.eqvs xs ys
  | .non, .bl _ | .non, .int _ | .non, .str _ | .non, .lst _ | .non, .tup _ => false
  | .bl _, .non | .bl _, .str _ | .bl _, .lst _ | .bl _, .tup _ => false
  | .int _, .non | .int _, .str _ | .int _, .lst _ | .int _, .tup _ => false
  | .str _, .non | .str _, .bl _ | .str _, .int _ | .str _, .lst _ | .str _, .tup _ => false
  | .lst _, .non | .lst _, .bl _ | .lst _, .int _ | .lst _, .str _ | .lst _, .tup _ => false
  | .tup _, .non | .tup _, .bl _ | .tup _, .int _ | .tup _, .str _ | .tup _, .lst _ => false
def D.eqvs : List D → List D → Bool
  | [], [] => true
  | x :: xs, y :: ys => D.eqv x y && D.eqvs xs ys
  | [], _ :: _ => false
  | _ :: _, [] => false
end
mutual
def D.depth : D → Nat
  | .non => 0 | .bl _ => 0 | .int _ => 0 | .str _ => 0
  | .tup xs => 1 + D.depths xs
  | .lst xs => 1 + D.depths xs
def D.depths : List D → Nat
  | [] => 0
  | x :: xs => max (D.depth x) (D.depths xs)
end
def D.flat : D → Bool
  | .non | .bl _ | .int _ | .str _ => true
  | _ => false

/-! ### the state, results -/
/-- what draws: none yet; the cells that are left and the other ints of the box -/
inductive BX where
  | off
  | on (cells ns : List Int)
structure Exn where
  cls : Nat
  arg : Option Int := none
  deriving DecidableEq
inductive Res (α : Type) where
  | ok (a : α) (S : BX)
  | exc (x : Exn) (S : BX)
  | bad
def M (α : Type) : Type := BX → Res α
@[inline] def M.pure {α : Type} (a : α) : M α := fun S => .ok a S
@[inline] def M.bind {α β : Type} (m : M α) (k : α → M β) : M β := fun S => match m S with
  | .ok a S' => k a S'
  | .exc x S' => .exc x S'
  | .bad => .bad
instance : Monad M where
  pure := M.pure
  bind := M.bind
def M.bad {α : Type} : M α := fun _ => .bad
def M.raise {α : Type} (x : Exn) : M α := fun S => .exc x S
/-- where nothing may be raised -/
def M.nox {α : Type} (m : M α) : M α := fun S => match m S with
  | .ok a S' => .ok a S'
  | _ => .bad
def M.of {α : Type} : Option α → M α
  | some a => M.pure a
  | none => M.bad
@[simp] theorem bind_ok {α β : Type} {m : M α} {k : α → M β} {S S' : BX} {a : α} (h : m S = .ok a S') : (m >>= k) S = k a S' := by
  show M.bind m k S = _
  unfold M.bind; rw [h]
theorem bind_def {α β : Type} (m : M α) (k : α → M β) (S : BX) : (m >>= k) S = M.bind m k S := rfl
theorem bind_assoc {α β γ : Type} (m : M α) (f : α → M β) (g : β → M γ) : (m >>= f) >>= g = m >>= fun a => f a >>= g := by
  funext S
  show M.bind (M.bind m f) g S = M.bind m (fun a => M.bind (f a) g) S
  unfold M.bind
  cases m S <;> rfl
theorem pure_bind {α β : Type} (a : α) (f : α → M β) : (M.pure a >>= f) = f a := rfl
@[simp] theorem pure_def {α : Type} (a : α) (S : BX) : (pure a : M α) S = .ok a S := rfl
@[simp] theorem mpure_def {α : Type} (a : α) (S : BX) : (M.pure a) S = .ok a S := rfl
@[simp] theorem of_some {α : Type} (a : α) (S : BX) : M.of (some a) S = .ok a S := rfl
@[simp] theorem of_none {α : Type} (S : BX) : M.of (none : Option α) S = .bad := rfl

/-! ### slots -/
inductive Slot where
  | no
  | pv (d : D)
  | own (xs : List D)
  | box
abbrev Env := List Slot
abbrev Den := Env → M D
abbrev DenT := Env → M Bool
abbrev DenL := Env → M (List D)
inductive Flow where
  | nx (ρ : Env) | rt (d : D) | bk (ρ : Env) | ct (ρ : Env)
abbrev DenS := Env → M Flow

/-! ### expressions -/
def eV (i : Nat) : Den := fun ρ => match ρ[i]? with
  | some (.pv d) => M.pure d
  | _ => M.bad
/-- a name read where a list of one's own may stand, too -/
def eB (i : Nat) : Den := fun ρ => match ρ[i]? with
  | some (.pv d) => M.pure d
  | some (.own xs) => M.pure (.lst xs)
  | _ => M.bad
def eC (d : D) : Den := fun _ => M.pure d
def e1 (g : D → Option D) (a : Den) : Den := fun ρ => a ρ >>= fun x => M.of (g x)
def e2 (g : D → D → Option D) (a b : Den) : Den := fun ρ => a ρ >>= fun x => b ρ >>= fun y => M.of (g x y)
def e3 (g : D → D → D → Option D) (a b c : Den) : Den := fun ρ => a ρ >>= fun x => b ρ >>= fun y => c ρ >>= fun z => M.of (g x y z)
/-- arguments -/
def aNil : DenL := fun _ => M.pure []
def aCons (a : Den) (r : DenL) : DenL := fun ρ => a ρ >>= fun x => r ρ >>= fun xs => M.pure (x :: xs)
def eTup (as : DenL) : Den := fun ρ => as ρ >>= fun xs => if xs.length ≤ LIM then M.pure (.tup xs) else M.bad
def eLst (as : DenL) : Den := fun ρ => as ρ >>= fun xs => if xs.length ≤ LIM then M.pure (.lst xs) else M.bad
def eIf (c : DenT) (a b : Den) : Den := fun ρ => c ρ >>= fun k => if k then a ρ else b ρ
def eAnd (a b : Den) : Den := fun ρ => a ρ >>= fun x => match x with
  | .bl true => b ρ
  | .bl false => M.pure (.bl false)
  | _ => M.bad
def eOr (a b : Den) : Den := fun ρ => a ρ >>= fun x => match x with
  | .bl false => b ρ
  | .bl true => M.pure (.bl true)
  | _ => M.bad
def eNot (a : Den) : Den := fun ρ => a ρ >>= fun x => match x with
  | .bl k => M.pure (.bl (!k))
  | _ => M.bad
/-- a < b < c -/
def eChain (g h : D → D → Option D) (a b c : Den) : Den := fun ρ => a ρ >>= fun x => b ρ >>= fun y => M.of (g x y) >>= fun r => match r with
  | .bl true => c ρ >>= fun z => M.of (h y z)
  | .bl false => M.pure (.bl false)
  | _ => M.bad
/-- a def that draws nothing: its value by its arguments -/
abbrev Fn := List D → Res D
/-- a def with the box as its first argument -/
abbrev FnB := List D → M D
def Fn.lift (F : Fn) (ds : List D) : M D := fun S => match F ds with
  | .ok d _ => .ok d S
  | .exc x _ => .exc x S
  | .bad => .bad
/-- .. that raises nothing -/
def Fn.liftN (F : Fn) (ds : List D) : M D := fun S => match F ds with
  | .ok d _ => .ok d S
  | _ => .bad
def eCall (F : Fn) (as : DenL) : Den := fun ρ => as ρ >>= fun ds => F.liftN ds
def eCallX (F : Fn) (as : DenL) : Den := fun ρ => as ρ >>= fun ds => F.lift ds
def eCallB (F : FnB) (i : Nat) (as : DenL) : Den := fun ρ => match ρ[i]? with
  | some .box => as ρ >>= fun ds => (F ds).nox
  | _ => M.bad
/-- truth of a value -/
def D.truth : D → Bool
  | .non => false
  | .bl b => b
  | .int i => i != 0
  | .str x => !x.isEmpty
  | .tup xs => !xs.isEmpty
  | .lst xs => !xs.isEmpty
def tVal (a : Den) : DenT := fun ρ => a ρ >>= fun x => match x with
  | .bl k => M.pure k
  | _ => M.bad
def tTruth (a : Den) : DenT := fun ρ => a ρ >>= fun x => M.pure x.truth
def tAnd (a b : DenT) : DenT := fun ρ => a ρ >>= fun k => if k then b ρ else M.pure false
def tOr (a b : DenT) : DenT := fun ρ => a ρ >>= fun k => if k then M.pure true else b ρ
def tNot (a : DenT) : DenT := fun ρ => a ρ >>= fun k => M.pure (!k)
def tYes : DenT := fun _ => M.pure true

/-! ### what is walked -/
def D.items : D → Option (List D)
  | .tup xs => some xs
  | .lst xs => some xs
  | .str x => some (x.map fun c => .str [c])
  | _ => none
def iOf (a : Den) : DenL := fun ρ => a ρ >>= fun x => M.of x.items
def intsFrom (lo : Int) : Nat → List D
  | 0 => []
  | n + 1 => .int lo :: intsFrom (lo + 1) n
def BIG : Int := 1000000000
def iRange1 (a : Den) : DenL := fun ρ => a ρ >>= fun x => match x with
  | .int n => if -BIG ≤ n ∧ n ≤ LIM then M.pure (intsFrom 0 n.toNat) else M.bad
  | _ => M.bad
def iRange2 (a b : Den) : DenL := fun ρ => a ρ >>= fun x => b ρ >>= fun y => match x, y with
  | .int lo, .int hi => if -BIG ≤ lo ∧ lo ≤ BIG ∧ -BIG ≤ hi ∧ hi ≤ BIG ∧ hi - lo ≤ LIM then M.pure (intsFrom lo (hi - lo).toNat) else M.bad
  | _, _ => M.bad
def enumFrom (k : Nat) : List D → List D
  | [] => []
  | x :: xs => .tup [.int (k : Nat), x] :: enumFrom (k + 1) xs
def iEnum (a : Den) : DenL := fun ρ => a ρ >>= fun x => match x with
  | .lst xs => M.pure (enumFrom 0 xs)
  | .tup xs => M.pure (enumFrom 0 xs)
  | .str x => M.pure (enumFrom 0 (x.map fun c => .str [c]))
  | _ => M.bad
def zipD : List D → List D → List D
  | x :: xs, y :: ys => .tup [x, y] :: zipD xs ys
  | _, _ => []
def D.seqOf : D → Option (List D)
  | .tup xs => some xs
  | .lst xs => some xs
  | _ => none
def iZip (a b : Den) : DenL := fun ρ => a ρ >>= fun x => b ρ >>= fun y => match x.items, y.items with
  | some xs, some ys => M.pure (zipD xs ys)
  | _, _ => M.bad

/-! ### targets -/
abbrev Tg := D → Env → Option Env
def gN (i : Nat) : Tg := fun d ρ => if i < ρ.length then some (ρ.set i (.pv d)) else none
def gsNil : List D → Env → Option Env := fun ds ρ => match ds with
  | [] => some ρ
  | _ => none
def gsCons (t : Tg) (r : List D → Env → Option Env) : List D → Env → Option Env := fun ds ρ => match ds with
  | d :: ds => (t d ρ).bind (r ds)
  | _ => none
def gT (r : List D → Env → Option Env) : Tg := fun d ρ => match d with
  | .tup ds => r ds ρ
  | _ => none

/-! ### comprehensions -/
def wipeE : Env → List Nat → Env
  | ρ, [] => ρ
  | ρ, v :: vs => (wipeE ρ vs).set v .no
/-- the kept elements, in order -/
def gather (g : Tg) (c : DenT) (e : Den) (ρ : Env) : List D → M (List D)
  | [] => M.pure []
  | d :: ds => M.of (g d ρ) >>= fun ρ' => (c ρ').nox >>= fun k =>
    if k then (e ρ').nox >>= fun y => gather g c e ρ ds >>= fun ys => M.pure (y :: ys) else gather g c e ρ ds
def lLc (it : DenL) (g : Tg) (c : DenT) (e : Den) (vs : List Nat) : DenL := fun ρ => it ρ >>= fun ds => (gather g c e (wipeE ρ vs) ds).nox
/-- two fors -/
def gather2 (g : Tg) (c : DenT) (it1 : DenL) (g1 : Tg) (c1 : DenT) (e : Den) (vs1 : List Nat) (ρ : Env) : List D → M (List D)
  | [] => M.pure []
  | d :: ds => M.of (g d ρ) >>= fun ρ' => (c ρ').nox >>= fun k =>
    if k then (it1 ρ').nox >>= fun ds1 => gather g1 c1 e (wipeE ρ' vs1) ds1 >>= fun ys => gather2 g c it1 g1 c1 e vs1 ρ ds >>= fun zs => M.pure (ys ++ zs)
    else gather2 g c it1 g1 c1 e vs1 ρ ds
def lLc2 (it : DenL) (g : Tg) (c : DenT) (it1 : DenL) (g1 : Tg) (c1 : DenT) (e : Den) (vs vs1 : List Nat) : DenL := fun ρ => it ρ >>= fun ds =>
  (gather2 g c it1 g1 c1 e vs1 (wipeE ρ vs) ds).nox >>= fun ys => if ys.length ≤ LIM then M.pure ys else M.bad
/-- a new list as a value -/
def eL (l : DenL) : Den := fun ρ => l ρ >>= fun xs => M.pure (.lst xs)
/-- a list display as a new list -/
def lLst (as : DenL) : DenL := fun ρ => as ρ >>= fun xs => if xs.length ≤ LIM then M.pure xs else M.bad
def l1 (g : D → Option (List D)) (a : Den) : DenL := fun ρ => a ρ >>= fun x => M.of (g x)
def l2 (g : D → D → Option (List D)) (a b : Den) : DenL := fun ρ => a ρ >>= fun x => b ρ >>= fun y => M.of (g x y)

/-! ### statements -/
def sNext : DenS := fun ρ => M.pure (.nx ρ)
def sSeq (a b : DenS) : DenS := fun ρ => a ρ >>= fun f => match f with
  | .nx ρ' => b ρ'
  | f => M.pure f
def sRet (e : Den) : DenS := fun ρ => e ρ >>= fun d => M.pure (.rt d)
def sRetN : DenS := fun _ => M.pure (.rt .non)
def sIf (c : DenT) (a b : DenS) : DenS := fun ρ => c ρ >>= fun k => if k then a ρ else b ρ
def sBreak : DenS := fun ρ => M.pure (.bk ρ)
def sCont : DenS := fun ρ => M.pure (.ct ρ)
def sDrop (e : Den) : DenS := fun ρ => e ρ >>= fun _ => M.pure (.nx ρ)
/-- target = value -/
def sSet (g : Tg) (e : Den) : DenS := fun ρ => e ρ >>= fun d => M.of (g d ρ) >>= fun ρ' => M.pure (.nx ρ')
/-- name = a new list that this def will change -/
def sOwn (i : Nat) (l : DenL) : DenS := fun ρ => l ρ >>= fun xs => if i < ρ.length then M.pure (.nx (ρ.set i (.own xs))) else M.bad
/-- a, b = x, y -/
def sPar (i j : Nat) (a b : Den) : DenS := fun ρ => a ρ >>= fun x => b ρ >>= fun y => if i < ρ.length ∧ j < ρ.length then M.pure (.nx ((ρ.set i (.pv x)).set j (.pv y))) else M.bad
/-- x op= e -/
def sAug (i : Nat) (g : D → D → Option D) (e : Den) : DenS := fun ρ => eV i ρ >>= fun x => e ρ >>= fun y => M.of (g x y) >>= fun z => M.pure (.nx (ρ.set i (.pv z)))
/-- xs.append(e), xs a list of one's own -/
def sApp (i : Nat) (e : Den) : DenS := fun ρ => match ρ[i]? with
  | some (.own xs) => e ρ >>= fun y => if xs.length < LIM then M.pure (.nx (ρ.set i (.own (xs ++ [y])))) else M.bad
  | _ => M.bad
/-- from now on nobody changes it -/
def sFrz (i : Nat) : DenS := fun ρ => match ρ[i]? with
  | some (.own xs) => M.pure (.nx (ρ.set i (.pv (.lst xs))))
  | some (.pv d) => M.pure (.nx ρ)
  | _ => M.bad
/-- for -/
def loopS (g : Tg) (b : DenS) : List D → DenS
  | [], ρ => M.pure (.nx ρ)
  | d :: ds, ρ => M.of (g d ρ) >>= fun ρ' => b ρ' >>= fun f => match f with
    | .nx ρ2 => loopS g b ds ρ2
    | .ct ρ2 => loopS g b ds ρ2
    | .bk ρ2 => M.pure (.nx ρ2)
    | .rt d => M.pure (.rt d)
def sFor (it : DenL) (g : Tg) (b : DenS) : DenS := fun ρ => it ρ >>= fun ds => loopS g b ds ρ
/-- while, so many turns at most -/
def loopW (c : DenT) (b : DenS) : Nat → DenS
  | 0, _ => M.bad
  | n + 1, ρ => c ρ >>= fun k => if k then b ρ >>= fun f => match f with
      | .nx ρ2 => loopW c b n ρ2
      | .ct ρ2 => loopW c b n ρ2
      | .bk ρ2 => M.pure (.nx ρ2)
      | .rt d => M.pure (.rt d)
    else M.pure (.nx ρ)
def FUEL : Nat := 1000000
def sWhile (c : DenT) (b : DenS) : DenS := loopW c b FUEL
/-- a def's body, run on its n arguments: so many further slots -/
def bodyF (n more : Nat) (b : DenS) : Fn := fun ds => if ds.length = n then (match b (ds.map Slot.pv ++ List.replicate more Slot.no) .off with
  | .ok (.rt d) S => .ok d S
  | .ok (.nx _) S => .ok .non S
  | .ok _ _ => .bad
  | .exc x S => .exc x S
  | .bad => .bad) else .bad
/-- .. behind the box -/
def bodyB (n more : Nat) (b : DenS) : FnB := fun ds S => if ds.length = n then (match b (Slot.box :: (ds.map Slot.pv ++ List.replicate more Slot.no)) S with
  | .ok (.rt d) S => .ok d S
  | .ok (.nx _) S => .ok .non S
  | .ok _ _ => .bad
  | .exc x S => .exc x S
  | .bad => .bad) else .bad
def Fn.none : Fn := fun _ => .bad
def FnB.none : FnB := fun _ _ => .bad

/-! ### operations on plain values -/
def ixN (n : Nat) (i : Int) : Option Nat := if 0 ≤ i then (if i < n then some i.toNat else none) else if -(n : Int) ≤ i then some (i + n).toNat else none
def atD {α : Type} (xs : List α) (i : Int) : Option α := (ixN xs.length i).bind fun j => xs[j]?
def sIx (n d : Nat) : Option Int → Nat
  | none => d
  | some v => if v < 0 then (v + (n : Int)).toNat else min v.toNat n
def cut {α : Type} (xs : List α) (lo hi : Option Int) : List α := (xs.drop (sIx xs.length 0 lo)).take (sIx xs.length xs.length hi - sIx xs.length 0 lo)
def D.ix : D → D → Option D
  | .lst xs, .int i => atD xs i
  | .tup xs, .int i => atD xs i
  | .str x, .int i => (atD x i).map fun c => .str [c]
  | _, _ => none
def D.sl : D → Option Int → Option Int → Option D
  | .lst xs, lo, hi => some (.lst (cut xs lo hi))
  | .tup xs, lo, hi => some (.tup (cut xs lo hi))
  | .str x, lo, hi => some (.str (cut x lo hi))
  | _, _, _ => none
def D.rev : D → Option D
  | .lst xs => some (.lst xs.reverse)
  | .tup xs => some (.tup xs.reverse)
  | .str x => some (.str x.reverse)
  | _ => none
def D.add : D → D → Option D
  | .int i, .int j => some (.int (i + j))
  | .str x, .str y => if x.length + y.length ≤ LIM then some (.str (x ++ y)) else none
  | .tup x, .tup y => if x.length + y.length ≤ LIM then some (.tup (x ++ y)) else none
  | .lst x, .lst y => if x.length + y.length ≤ LIM then some (.lst (x ++ y)) else none
  | _, _ => none
def D.sub : D → D → Option D
  | .int i, .int j => some (.int (i - j))
  | _, _ => none
def D.mul : D → D → Option D
  | .int i, .int j => if (-(2 ^ 64) < i ∧ i < 2 ^ 64) ∨ (-(2 ^ 64) < j ∧ j < 2 ^ 64) then some (.int (i * j)) else none
  | .str x, .int n => if n ≤ 1000 ∧ -(2 ^ 62) < n ∧ x.length ≤ 1000 then some (.str (List.replicate n.toNat x).flatten) else none
  | .tup x, .int n => if 2 ≤ n ∧ n ≤ 1000 ∧ x ≠ [] ∧ x.length ≤ 1000 then some (.tup (List.replicate n.toNat x).flatten) else none
  | .lst x, .int n => if n ≤ 1000 ∧ -(2 ^ 62) < n ∧ x.length ≤ 1000 then some (.lst (List.replicate n.toNat x).flatten) else none
  | _, _ => none
def D.fdiv : D → D → Option D
  | .int i, .int j => if j ≠ 0 ∧ j.natAbs < 1073741824 then some (.int (i.fdiv j)) else none
  | _, _ => none
def D.mod : D → D → Option D
  | .int i, .int j => if j ≠ 0 then some (.int (i.fmod j)) else none
  | _, _ => none
def D.pow : D → D → Option D
  | .int i, .int j => if 0 ≤ j ∧ j ≤ 1000000 ∧ i.natAbs < 2 ^ 64 then some (.int (i ^ j.toNat)) else none
  | _, _ => none
def D.shl : D → D → Option D
  | .int i, .int j => if 0 ≤ j ∧ j ≤ 1000000 ∧ i.natAbs < 2 ^ 64 then some (.int (i * 2 ^ j.toNat)) else none
  | _, _ => none
def D.neg : D → Option D
  | .int i => some (.int (-i))
  | _ => none
def D.eq (a b : D) : Option D := if min a.depth b.depth ≤ 64 then some (.bl (D.eqv a b)) else none
def D.ne (a b : D) : Option D := if min a.depth b.depth ≤ 64 then some (.bl (!D.eqv a b)) else none
def D.isNon (a : D) : Bool := match a with | .non => true | _ => false
/-- a is b, where one of them is None or both are truth values -/
def D.is : D → D → Option D
  | .bl a, .bl b => some (.bl (a == b))
  | a, .non => some (.bl a.isNon)
  | _, _ => none
def D.isNot : D → D → Option D
  | .bl a, .bl b => some (.bl (!(a == b)))
  | a, .non => some (.bl (!a.isNon))
  | _, _ => none
/-- the order of code lists -/
def strLt : List Nat → List Nat → Bool
  | [], [] => false
  | [], _ :: _ => true
  | _ :: _, [] => false
  | x :: xs, y :: ys => if x = y then strLt xs ys else decide (x < y)
def intsOf : List D → Option (List Int)
  | [] => some []
  | .int i :: r => (intsOf r).map (i :: ·)
  | _ => none
def lexLt : List Int → List Int → Bool
  | [], [] => false
  | [], _ :: _ => true
  | _ :: _, [] => false
  | x :: xs, y :: ys => if x = y then lexLt xs ys else decide (x < y)
def D.lt : D → D → Option D
  | .int i, .int j => some (.bl (decide (i < j)))
  | .str x, .str y => some (.bl (strLt x y))
  | .tup x, .tup y => match intsOf x, intsOf y with
    | some a, some b => some (.bl (lexLt a b))
    | _, _ => none
  | _, _ => none
def D.le : D → D → Option D
  | .int i, .int j => some (.bl (decide (i ≤ j)))
  | .str x, .str y => some (.bl (!strLt y x))
  | _, _ => none
def D.gt : D → D → Option D
  | .int i, .int j => some (.bl (decide (j < i)))
  | .str x, .str y => some (.bl (strLt y x))
  | _, _ => none
def D.ge : D → D → Option D
  | .int i, .int j => some (.bl (decide (j ≤ i)))
  | .str x, .str y => some (.bl (!strLt x y))
  | _, _ => none
def inD (d : D) (ds : List D) : Bool := ds.any fun z => D.eqv z d
/-- x in y -/
def D.mem : D → D → Option Bool
  | .str [c], .str z => some (decide (c ∈ z))
  | d, .lst ds => if min (D.depths ds) d.depth ≤ 64 then some (inD d ds) else none
  | d, .tup ds => if min (D.depths ds) d.depth ≤ 64 then some (inD d ds) else none
  | _, _ => none
def D.isIn (a b : D) : Option D := (D.mem a b).map .bl
def D.notIn (a b : D) : Option D := (D.mem a b).map fun k => .bl (!k)
/-- types, as isinstance asks -/
def D.isTy (T : String) : D → Bool
  | .non => T == "NoneType"
  | .bl _ => T == "bool" || T == "int"
  | .int _ => T == "int"
  | .str _ => T == "str"
  | .tup _ => T == "tuple"
  | .lst _ => T == "list"
def D.isi (T : String) (d : D) : Option D := some (.bl (d.isTy T))

/-! ### built-ins, by their arguments -/
abbrev Bi := List D → Option D
def D.size : D → Option Nat
  | .str x => some x.length
  | .tup x => some x.length
  | .lst x => some x.length
  | _ => none
def bLen : Bi
  | [d] => d.size.map fun n => .int (n : Nat)
  | _ => none
def bAbs : Bi
  | [.int i] => some (.int (if i < 0 then -i else i))
  | _ => none
def bMax2 : Bi
  | [.int i, .int j] => some (.int (if j > i then j else i))
  | _ => none
def bMin2 : Bi
  | [.int i, .int j] => some (.int (if j < i then j else i))
  | _ => none
def bInt : Bi
  | [.int i] => some (.int i)
  | [.bl k] => some (.int (if k then 1 else 0))
  | _ => none
def bBool : Bi
  | [d] => some (.bl d.truth)
  | _ => none
def maxL : List Int → Option Int
  | [] => none
  | x :: r => some (r.foldl (fun m y => if y > m then y else m) x)
def minL : List Int → Option Int
  | [] => none
  | x :: r => some (r.foldl (fun m y => if y < m then y else m) x)
def D.intsL : D → Option (List Int)
  | .lst xs => intsOf xs
  | _ => none
/-- of a list or a tuple -/
def D.intsLT : D → Option (List Int)
  | .lst xs => intsOf xs
  | .tup xs => intsOf xs
  | _ => none
def bSum : Bi
  | [d] => d.intsLT.map fun ns => .int ns.sum
  | _ => none
def bMax : Bi
  | [d] => (d.intsLT.bind maxL).map .int
  | _ => none
def bMin : Bi
  | [d] => (d.intsLT.bind minL).map .int
  | _ => none
def bsOf : List D → Option (List Bool)
  | [] => some []
  | .bl i :: r => (bsOf r).map (i :: ·)
  | _ => none
def D.blsL : D → Option (List Bool)
  | .lst xs => bsOf xs
  | _ => none
def bAll : Bi
  | [d] => d.blsL.map fun ns => .bl (ns.all id)
  | _ => none
def bAny : Bi
  | [d] => d.blsL.map fun ns => .bl (ns.any id)
  | _ => none
def bTuple : Bi
  | [d] => d.seqOf.map .tup
  | _ => none
def strsOf : List D → Option (List (List Nat))
  | [] => some []
  | .str i :: r => (strsOf r).map (i :: ·)
  | _ => none
def joinL (S : List Nat) : List (List Nat) → List Nat
  | [] => []
  | [x] => x
  | x :: y :: r => x ++ S ++ joinL S (y :: r)
/-- decimal figures -/
def figs (n : Int) : List Nat := (toString n).toList.map Char.toNat
def bStr : Bi
  | [.int i] => if i.natAbs < 10 ^ 100 then some (.str (figs i)) else none
  | _ => none
/-- sep.join(list of texts) -/
def D.join (s l : D) : Option D := match s, l with
  | .str x, .lst ds => (strsOf ds).bind fun ys => if (joinL x ys).length ≤ LIM then some (.str (joinL x ys)) else none
  | _, _ => none
/-! sorting: insertion, stable -/
def insD {α : Type} (lt : α → α → Bool) (x : α) : List α → List α
  | [] => [x]
  | y :: r => if lt y x then y :: insD lt x r else x :: y :: r
def sortD {α : Type} (lt : α → α → Bool) : List α → List α
  | [] => []
  | x :: r => insD lt x (sortD lt r)
/-- pairs of ints -/
def pairsOf : List D → Option (List (Int × Int))
  | [] => some []
  | .tup [.int i, .int j] :: r => (pairsOf r).map ((i, j) :: ·)
  | _ => none
def pairLt (a b : Int × Int) : Bool := if a.1 = b.1 then decide (a.2 < b.2) else decide (a.1 < b.1)
def pairD (p : Int × Int) : D := .tup [.int p.1, .int p.2]
def lSorted : D → Option (List D)
  | .lst ds => match intsOf ds with
    | some ns => some ((sortD (fun a b => decide (a < b)) ns).map .int)
    | none => match strsOf ds with
      | some ss => if ss.length < 64 then some ((sortD strLt ss).map .str) else none
      | none => (pairsOf ds).map fun ps => (sortD pairLt ps).map pairD
  | .tup ds => match intsOf ds with
    | some ns => some ((sortD (fun a b => decide (a < b)) ns).map .int)
    | none => (pairsOf ds).map fun ps => (sortD pairLt ps).map pairD
  | _ => none
def lList : D → Option (List D)
  | .lst ds => some ds
  | .tup ds => some ds
  | _ => none
def lCat : D → D → Option (List D)
  | .lst x, .lst y => if x.length + y.length ≤ LIM then some (x ++ y) else none
  | _, _ => none
def lRep : D → D → Option (List D)
  | .lst x, .int n => if n ≤ 1000 ∧ -(2 ^ 62) < n ∧ x.length ≤ 1000 then some (List.replicate n.toNat x).flatten else none
  | _, _ => none
def eBi (g : Bi) (as : DenL) : Den := fun ρ => as ρ >>= fun ds => M.of (g ds)
/-- slices -/
abbrev DenO := Env → M (Option Int)
def oNo : DenO := fun _ => M.pure none
def oSome (a : Den) : DenO := fun ρ => a ρ >>= fun x => match x with
  | .int i => M.pure (some i)
  | _ => M.bad
def eSl (a : Den) (lo hi : DenO) : Den := fun ρ => a ρ >>= fun x => lo ρ >>= fun l => hi ρ >>= fun h => M.of (x.sl l h)
end DN

set_option linter.all false
namespace DN
/-- not x by truth -/
def eNotT (a : Den) : Den := fun ρ => a ρ >>= fun x => M.pure (.bl (!x.truth))
/-- a = b = e -/
def sSet2 (g1 g2 : Tg) (e : Den) : DenS := fun ρ => e ρ >>= fun d => M.of (g1 d ρ) >>= fun ρ' => M.of (g2 d ρ') >>= fun ρ'' => M.pure (.nx ρ'')
/-- o.m(e), o a text -/
def eM1 (g : D → D → Option D) (a b : Den) : Den := fun ρ => a ρ >>= fun x => match x with
  | .str _ => b ρ >>= fun y => M.of (g x y)
  | _ => M.bad
abbrev DenX := Env → M Slot
def xE (e : Den) : DenX := fun ρ => e ρ >>= fun d => M.pure (.pv d)
def xL (l : DenL) : DenX := fun ρ => l ρ >>= fun xs => M.pure (.own xs)
def sPar2 (i j : Nat) (a b : DenX) : DenS := fun ρ => a ρ >>= fun x => b ρ >>= fun y => if i < ρ.length ∧ j < ρ.length then M.pure (.nx ((ρ.set i x).set j y)) else M.bad
def sPar3 (i j k : Nat) (a b c : DenX) : DenS := fun ρ => a ρ >>= fun x => b ρ >>= fun y => c ρ >>= fun z => if i < ρ.length ∧ j < ρ.length ∧ k < ρ.length then M.pure (.nx (((ρ.set i x).set j y).set k z)) else M.bad

/-- list(range(..)) -/
def lRange1 (a : Den) : DenL := iRange1 a
def lRange2 (a b : Den) : DenL := iRange2 a b
/-- x op= y, where x is an int or a text -/
def D.iadd : D → D → Option D
  | .int i, .int j => some (.int (i + j))
  | .str x, .str y => if x.length + y.length ≤ LIM then some (.str (x ++ y)) else none
  | _, _ => none
def bMax3 : Bi
  | [.int i, .int j, .int k] => some (.int (let m := if j > i then j else i; if k > m then k else m))
  | _ => none
def bMin3 : Bi
  | [.int i, .int j, .int k] => some (.int (let m := if j < i then j else i; if k < m then k else m))
  | _ => none
/-- the first place of an equal item -/
def idxD (d : D) : List D → Option Nat
  | [] => none
  | x :: r => if D.eqv x d then some 0 else (idxD d r).map (· + 1)
def D.index : D → D → Option D
  | .tup xs, d => if min (D.depths xs) d.depth ≤ 64 then (idxD d xs).map fun n => .int (n : Nat) else none
  | .lst xs, d => if min (D.depths xs) d.depth ≤ 64 then (idxD d xs).map fun n => .int (n : Nat) else none
  | _, _ => none

/-! ### what draws -/
/-- the rest of a draw's load, by the state s -/
def loadTail (s : Int) : Int × Int :=
  let first := (s * 48271 + 17) % 2147483629
  let second := (first * 69621 + 5) % 2147483587
  let s' := (second * 40692 + 3) % 2147483563
  (first * 4611686014132420609 + second * 2147483647 + s', s')
def cellSize (c : Int) : Int := if 0 ≤ c then 2 * c else -2 * c - 1
def load (cells : List Int) (s : Int) : Int × List Int × Int := match cells with
  | [] => let (v, s') := loadTail s; (v, [], s')
  | c :: r => if cellSize c ≥ 1000000000000000000 then (cellSize c, r, s) else
    let (v, s') := loadTail ((s * 69621 + cellSize c * 48271 + 11) % 2147483647); (v, r, s')
def okS (s : Int) : Bool := decide (0 ≤ s ∧ s < 4294967296)
def f_load : FnB := fun ds S => match ds, S with
  | [], .on cells [a, s] => if okS s then (let (v, cells', s') := load cells s; .ok (.int v) (.on cells' [a, s'])) else .bad
  | _, _ => .bad
def f_draw : FnB := fun ds S => match ds, S with
  | [.int many], .on cells [a, s] => if okS s ∧ 0 < many ∧ many < 1073741824 then
      (if a < many then (let (v, cells', s') := load cells s; .ok (.int (v % many)) (.on cells' [v / many, s'])) else .ok (.int (a % many)) (.on cells [a / many, s])) else .bad
  | _, _ => .bad
/-- what holds of the box at any time -/
def Good : BX → Prop
  | .on _ [_, s] => okS s = true
  | _ => False
theorem fmod_ok (x : Int) {m : Int} (h : 0 < m) (h2 : m < 4294967296) : okS (x % m) = true := by
  unfold okS
  have h1 := Int.emod_nonneg x (Int.ne_of_gt h)
  have h3 := Int.emod_lt_of_pos x h
  exact decide_eq_true ⟨h1, by omega⟩
theorem load_ok (cells : List Int) (s : Int) (h : okS s = true) : okS (load cells s).2.2 = true := by
  unfold load
  cases cells with
  | nil => exact fmod_ok _ (by decide) (by decide)
  | cons c r =>
    dsimp only
    split
    · exact h
    · exact fmod_ok _ (by decide) (by decide)
/-- a draw gives any digit below many, for all that is known of it -/
theorem draw_spec {many : Int} {S : BX} (h : Good S) (h0 : 0 < many) (h1 : many < 1073741824) : ∃ d S', f_draw [.int many] S = .ok (.int d) S' ∧ Good S' ∧ 0 ≤ d ∧ d < many := by
  match S, h with
  | .on cells [a, s], h =>
    have hc : (okS s = true) ∧ 0 < many ∧ many < 1073741824 := ⟨h, h0, h1⟩
    unfold f_draw
    dsimp only
    rw [if_pos hc]
    by_cases ha : a < many
    · rw [if_pos ha]
      exact ⟨_, _, rfl, load_ok cells s h, Int.emod_nonneg _ (Int.ne_of_gt h0), Int.emod_lt_of_pos _ h0⟩
    · rw [if_neg ha]
      exact ⟨_, _, rfl, h, Int.emod_nonneg _ (Int.ne_of_gt h0), Int.emod_lt_of_pos _ h0⟩
end DN

set_option Elab.async false
set_option linter.all false
set_option maxRecDepth 100000
/-! Lay: plain values over the abstract heap; what a def's body computes, told by the words of Den. -/
namespace DN
open PySem L2

/-! ### plain values in a heap -/
/-- a text: not too long, its codes are codes -/
def TX (x : List Nat) : Prop := x.length ≤ LIM ∧ ∀ c ∈ x, c < 0x110000
mutual
inductive Is (K : PySem.W.Frag) (H : Hp) : V → D → Prop
  | non : Is K H .non .non
  | bl (b : Bool) : Is K H (.bl b) (.bl b)
  | int (i : Int) : Is K H (.int i) (.int i)
  | str (x : List Nat) : TX x → Is K H (.str ⟨x.toArray⟩) (.str x)
  | tup {a : Addr} {vs : List V} {ds : List D} : SqT K H a vs → IsAll K H vs ds → ds.length ≤ LIM → Is K H (.ref a) (.tup ds)
  | lst {a : Addr} {vs : List V} {ds : List D} : H a = some (.lst vs) → IsAll K H vs ds → ds.length ≤ LIM → Is K H (.ref a) (.lst ds)
inductive IsAll (K : PySem.W.Frag) (H : Hp) : List V → List D → Prop
  | nil : IsAll K H [] []
  | cons {v : V} {vs : List V} {d : D} {ds : List D} : Is K H v d → IsAll K H vs ds → IsAll K H (v :: vs) (d :: ds)
end
theorem same_sqT {K : PySem.W.Frag} {H H' : Hp} {a : Addr} {xs : List V} (e : Same H H') (h : SqT K H a xs) : SqT K H' a xs := by
  rcases h with (h | ⟨o, h⟩) | h
  · exact .inl (.inl (e _ _ h))
  · exact .inl (.inr ⟨o, e _ _ h⟩)
  · exact .inr h
mutual
theorem Is.mono {K : PySem.W.Frag} {H H' : Hp} (e : Same H H') : ∀ (d : D) (v : V), Is K H v d → Is K H' v d
  | .non, _, h => by cases h; exact .non
  | .bl b, _, h => by cases h; exact .bl b
  | .int i, _, h => by cases h; exact .int i
  | .str x, _, h => by cases h with | str _ hl => exact .str x hl
  | .tup ds, _, h => by cases h with | tup h1 h2 h3 => exact .tup (same_sqT e h1) (IsAll.mono e ds _ h2) h3
  | .lst ds, _, h => by cases h with | lst h1 h2 h3 => exact .lst (e _ _ h1) (IsAll.mono e ds _ h2) h3
theorem IsAll.mono {K : PySem.W.Frag} {H H' : Hp} (e : Same H H') : ∀ (ds : List D) (vs : List V), IsAll K H vs ds → IsAll K H' vs ds
  | [], _, h => by cases h; exact .nil
  | d :: ds, _, h => by cases h with | cons h1 h2 => exact .cons (Is.mono e d _ h1) (IsAll.mono e ds _ h2)
end
theorem Is.up {K : PySem.W.Frag} {H H' : Hp} {v : V} {d : D} (h : Is K H v d) (e : Same H H') : Is K H' v d := Is.mono e d v h
theorem IsAll.up {K : PySem.W.Frag} {H H' : Hp} {vs : List V} {ds : List D} (h : IsAll K H vs ds) (e : Same H H') : IsAll K H' vs ds := IsAll.mono e ds vs h
section
variable {K : PySem.W.Frag} {H : Hp}
theorem IsAll.len : ∀ {vs : List V} {ds : List D}, IsAll K H vs ds → vs.length = ds.length
  | _, _, .nil => rfl
  | _, _, .cons _ t => congrArg (· + 1) t.len
theorem IsAll.get : ∀ {vs : List V} {ds : List D} {i : Nat} {d : D}, IsAll K H vs ds → ds[i]? = some d → ∃ v, vs[i]? = some v ∧ Is K H v d
  | _, _, _, _, .nil, e => by simp at e
  | _, _, 0, _, .cons r _, e => by simp at e; subst e; exact ⟨_, rfl, r⟩
  | _, _, i + 1, x, .cons _ t, e => by
    obtain ⟨u, h1, h2⟩ := IsAll.get (i := i) (d := x) t (by simpa using e)
    exact ⟨u, by simpa using h1, h2⟩
theorem IsAll.get' : ∀ {vs : List V} {ds : List D} {i : Nat} {v : V}, IsAll K H vs ds → vs[i]? = some v → ∃ d, ds[i]? = some d ∧ Is K H v d
  | _, _, _, _, .nil, e => by simp at e
  | _, _, 0, _, .cons r _, e => by simp at e; subst e; exact ⟨_, rfl, r⟩
  | _, _, i + 1, x, .cons _ t, e => by
    obtain ⟨u, h1, h2⟩ := IsAll.get' (i := i) (v := x) t (by simpa using e)
    exact ⟨u, by simpa using h1, h2⟩
theorem IsAll.append : ∀ {vs ws : List V} {ds es : List D}, IsAll K H vs ds → IsAll K H ws es → IsAll K H (vs ++ ws) (ds ++ es)
  | _, _, _, _, .nil, s => s
  | _, _, _, _, .cons r t, s => .cons r (IsAll.append t s)
theorem IsAll.drop : ∀ {vs : List V} {ds : List D} (n : Nat), IsAll K H vs ds → IsAll K H (vs.drop n) (ds.drop n)
  | _, _, 0, r => r
  | _, _, _ + 1, .nil => .nil
  | _, _, n + 1, .cons _ t => IsAll.drop n t
theorem IsAll.take : ∀ {vs : List V} {ds : List D} (n : Nat), IsAll K H vs ds → IsAll K H (vs.take n) (ds.take n)
  | _, _, 0, _ => .nil
  | _, _, _ + 1, .nil => .nil
  | _, _, n + 1, .cons r t => .cons r (IsAll.take n t)
theorem IsAll.set {x : V} {d : D} (r : Is K H x d) : ∀ {vs : List V} {ds : List D} (i : Nat), IsAll K H vs ds → IsAll K H (vs.set i x) (ds.set i d)
  | _, _, _, .nil => .nil
  | _, _, 0, .cons _ t => .cons r t
  | _, _, i + 1, .cons q t => .cons q (IsAll.set r i t)
theorem IsAll.one {x : V} {d : D} (r : Is K H x d) : IsAll K H [x] [d] := .cons r .nil
theorem IsAll.snoc {vs : List V} {ds : List D} {x : V} {d : D} (h : IsAll K H vs ds) (r : Is K H x d) : IsAll K H (vs ++ [x]) (ds ++ [d]) := h.append (.one r)
theorem IsAll.ints : ∀ (ns : List Int), IsAll K H (ns.map V.int) (ns.map D.int)
  | [] => .nil
  | n :: ns => .cons (.int n) (IsAll.ints ns)
/-- values of plain kind are known by their plain value -/
theorem IsAll.intsOf : ∀ {vs : List V} {ns : List Int}, IsAll K H vs (ns.map D.int) → vs = ns.map V.int
  | _, [], h => by cases h; rfl
  | _, n :: ns, h => by
    cases h with
    | cons h1 h2 => cases h1; rw [IsAll.intsOf h2]; rfl
theorem IsAll.bls : ∀ {vs : List V} {ns : List Bool}, IsAll K H vs (ns.map D.bl) → vs = ns.map V.bl
  | _, [], h => by cases h; rfl
  | _, n :: ns, h => by
    cases h with
    | cons h1 h2 => cases h1; rw [IsAll.bls h2]; rfl
def strV (x : List Nat) : Str := ⟨x.toArray⟩
theorem IsAll.strs : ∀ {vs : List V} {ns : List (List Nat)}, IsAll K H vs (ns.map D.str) → vs = (ns.map strV).map V.str ∧ ∀ x ∈ ns, TX x
  | _, [], h => by cases h; exact ⟨rfl, by simp⟩
  | _, n :: ns, h => by
    cases h with
    | cons h1 h2 =>
      cases h1 with
      | str _ hl =>
        obtain ⟨e, q⟩ := IsAll.strs h2
        refine ⟨by rw [e]; rfl, fun x hx => ?_⟩
        rcases List.mem_cons.mp hx with rfl | hx
        · exact hl
        · exact q x hx
end
theorem lim_line {n : Nat} (h : n ≤ LIM) : n ≤ sizeLine := Nat.le_trans h (by decide)
theorem lim_lt {n : Nat} (h : n ≤ LIM) : n < sizeLine := Nat.lt_of_le_of_lt h (by decide)

/-! ### what stays: the stable heap Hs in the heap H; the objects at PB (the box) may turn -/
structure Tr (PB : List Addr) (Hs H Hs2 H2 : Hp) : Prop where
  st : Same Hs Hs2
  sub : Same Hs2 H2
  keep : ∀ a o, H a = some o → a ∉ PB → H2 a = some o
  un : ∀ a o, H a = some o → Hs a = none → Hs2 a = none
  old : ∀ a, H2 a = none → H a = none
theorem some_ne {H : Hp} {a : Addr} (h : H a ≠ none) : ∃ o, H a = some o := by
  cases e : H a with
  | none => exact absurd e h
  | some o => exact ⟨o, rfl⟩
theorem Tr.refl {PB : List Addr} {Hs H : Hp} (h : Same Hs H) : Tr PB Hs H Hs H := ⟨Same.refl _, h, fun _ _ e _ => e, fun _ _ _ e => e, fun _ e => e⟩
theorem Tr.trans {PB : List Addr} {Hs H Hs2 H2 Hs3 H3 : Hp} (a : Tr PB Hs H Hs2 H2) (b : Tr PB Hs2 H2 Hs3 H3) : Tr PB Hs H Hs3 H3 :=
  ⟨a.st.trans b.st, b.sub, fun x o e n => b.keep x o (a.keep x o e n) n, fun x o e n => by
    have h2 : H2 x ≠ none := fun z => by rw [a.old x z] at e; cases e
    obtain ⟨o2, e2⟩ := some_ne h2
    exact b.un x o2 e2 (a.un x o e n), fun x e => a.old x (b.old x e)⟩
theorem Tr.wide {PB : List Addr} {Hs H Hs2 H2 : Hp} (a : Tr [] Hs H Hs2 H2) : Tr PB Hs H Hs2 H2 := ⟨a.st, a.sub, fun x o e _ => a.keep x o e (by simp), a.un, a.old⟩
theorem Tr.same {Hs H Hs2 H2 : Hp} (a : Tr [] Hs H Hs2 H2) : Same H H2 := fun x o e => a.keep x o e (by simp)
/-- a new object, from now on stable -/
theorem Tr.new {PB : List Addr} {Hs H : Hp} {p : Addr} {o : HO} (h : Same Hs H) (hp : H p = none) : Tr PB Hs H (upd Hs p o) (upd H p o) := by
  have hs : Hs p = none := h.free hp
  refine ⟨fun x u e => by rw [upd_ne (ne_of_none e hs)]; exact e, fun x u e => ?_, fun x u e _ => by rw [upd_ne (ne_of_none e hp)]; exact e, fun x u e n => by rw [upd_ne (ne_of_none e hp)]; exact n, fun x e => ?_⟩
  · by_cases hx : x = p
    · subst hx; rw [upd_same] at e ⊢; exact e
    · rw [upd_ne hx] at e ⊢; exact h x u e
  · by_cases hx : x = p
    · subst hx; rw [upd_same] at e; cases e
    · rw [upd_ne hx] at e; exact e
/-- a new object that this def may still change -/
theorem Tr.newU {PB : List Addr} {Hs H : Hp} {p : Addr} {o : HO} (h : Same Hs H) (hp : H p = none) : Tr PB Hs H Hs (upd H p o) := by
  have hs : Hs p = none := h.free hp
  refine ⟨Same.refl _, fun x u e => by rw [upd_ne (ne_of_none e hs)]; exact h x u e, fun x u e _ => by rw [upd_ne (ne_of_none e hp)]; exact e, fun _ _ _ n => n, fun x e => ?_⟩
  by_cases hx : x = p
  · subst hx; rw [upd_same] at e; cases e
  · rw [upd_ne hx] at e; exact e

/-- the box -/
def BoxIs (PB : List Addr) (Hs H : Hp) : BX → Prop
  | .off => PB = []
  | .on cells ns => ∃ B C, PB = [B, C] ∧ B ≠ C ∧ Hs B = none ∧ Hs C = none ∧ H B = some (.lst (.ref C :: ns.map V.int)) ∧ H C = some (.lst (cells.map V.int))
theorem BoxIs.tr {PB : List Addr} {Hs H Hs2 H2 : Hp} {S : BX} (b : BoxIs PB Hs H S) (t : Tr [] Hs H Hs2 H2) : BoxIs PB Hs2 H2 S := by
  cases S with
  | off => exact b
  | on cells ns =>
    obtain ⟨B, C, e, ne, h1, h2, h3, h4⟩ := b
    exact ⟨B, C, e, ne, t.un _ _ h3 h1, t.un _ _ h4 h2, t.same _ _ h3, t.same _ _ h4⟩

/-- a name's slot -/
structure EnvIs (K : PySem.W.Frag) (PB : List Addr) (Hs H : Hp) (σ : L2.St) (ρ : Env) : Prop where
  len : σ.length = ρ.length
  pv : ∀ (i : Nat) (d : D), ρ[i]? = some (.pv d) → ∃ v, σ[i]? = some (some v) ∧ Is K Hs v d
  own : ∀ (i : Nat) (ds : List D), ρ[i]? = some (.own ds) → ∃ p vs, σ[i]? = some (some (.ref p)) ∧ p ∉ PB ∧ Hs p = none ∧ H p = some (.lst vs) ∧ IsAll K Hs vs ds ∧ ds.length ≤ LIM
  one : ∀ (i j : Nat) (ds es : List D) (v : V), ρ[i]? = some (.own ds) → ρ[j]? = some (.own es) → σ[i]? = some (some v) → σ[j]? = some (some v) → i = j
  box : ∀ (i : Nat), ρ[i]? = some .box → ∃ B C, PB = [B, C] ∧ σ[i]? = some (some (.ref B))
theorem EnvIs.tr {K : PySem.W.Frag} {PB : List Addr} {Hs H Hs2 H2 : Hp} {σ : L2.St} {ρ : Env} (e : EnvIs K PB Hs H σ ρ) (t : Tr PB Hs H Hs2 H2) : EnvIs K PB Hs2 H2 σ ρ :=
  ⟨e.len, fun i d h => let ⟨v, h1, h2⟩ := e.pv i d h; ⟨v, h1, h2.up t.st⟩, fun i ds h => let ⟨p, vs, h1, h2, h3, h4, h5, h6⟩ := e.own i ds h; ⟨p, vs, h1, h2, t.un _ _ h4 h3, t.keep _ _ h4 h2, h5.up t.st, h6⟩, e.one, e.box⟩

/-- a value that is stable, or a list of one's own as it stands -/
def IsB (K : PySem.W.Frag) (PB : List Addr) (Hs H : Hp) (v : V) (d : D) : Prop :=
  Is K Hs v d ∨ ∃ p vs ds, d = .lst ds ∧ v = .ref p ∧ p ∉ PB ∧ Hs p = none ∧ H p = some (.lst vs) ∧ IsAll K Hs vs ds ∧ ds.length ≤ LIM
theorem IsB.tr {K : PySem.W.Frag} {PB : List Addr} {Hs H Hs2 H2 : Hp} {v : V} {d : D} (b : IsB K PB Hs H v d) (t : Tr PB Hs H Hs2 H2) : IsB K PB Hs2 H2 v d := by
  rcases b with b | ⟨p, vs, ds, e1, e2, h2, h3, h4, h5, h6⟩
  · exact .inl (b.up t.st)
  · exact .inr ⟨p, vs, ds, e1, e2, h2, t.un _ _ h4 h3, t.keep _ _ h4 h2, h5.up t.st, h6⟩
/-- .. read in the heap as it stands -/
theorem IsB.now {K : PySem.W.Frag} {PB : List Addr} {Hs H : Hp} {v : V} {d : D} (b : IsB K PB Hs H v d) (h : Same Hs H) : Is K H v d := by
  rcases b with b | ⟨p, vs, ds, rfl, rfl, h2, h3, h4, h5, h6⟩
  · exact b.up h
  · exact .lst h4 (h5.up h) h6
/-- the items of what is a list or a tuple are stable -/
theorem IsB.lst {K : PySem.W.Frag} {PB : List Addr} {Hs H : Hp} {v : V} {ds : List D} (b : IsB K PB Hs H v (.lst ds)) (h : Same Hs H) : ∃ p vs, v = .ref p ∧ H p = some (.lst vs) ∧ IsAll K Hs vs ds ∧ ds.length ≤ LIM := by
  rcases b with b | ⟨p, vs, ds', e, rfl, h2, h3, h4, h5, h6⟩
  · cases b with | lst h1 h2 h3 => exact ⟨_, _, rfl, h _ _ h1, h2, h3⟩
  · cases e; exact ⟨p, vs, rfl, h4, h5, h6⟩
theorem IsB.tup {K : PySem.W.Frag} {PB : List Addr} {Hs H : Hp} {v : V} {ds : List D} (b : IsB K PB Hs H v (.tup ds)) (h : Same Hs H) : ∃ p vs, v = .ref p ∧ SqT K H p vs ∧ IsAll K Hs vs ds ∧ ds.length ≤ LIM := by
  rcases b with b | ⟨p, vs, ds', e, rfl, h2, h3, h4, h5, h6⟩
  · cases b with | tup h1 h2 h3 => exact ⟨_, _, rfl, same_sqT h h1, h2, h3⟩
  · cases e
theorem IsB.int {K : PySem.W.Frag} {PB : List Addr} {Hs H : Hp} {v : V} {i : Int} (b : IsB K PB Hs H v (.int i)) : v = .int i := by
  rcases b with b | ⟨p, vs, ds', e, _⟩
  · cases b; rfl
  · cases e
theorem IsB.bl {K : PySem.W.Frag} {PB : List Addr} {Hs H : Hp} {v : V} {i : Bool} (b : IsB K PB Hs H v (.bl i)) : v = .bl i := by
  rcases b with b | ⟨p, vs, ds', e, _⟩
  · cases b; rfl
  · cases e
theorem IsB.non {K : PySem.W.Frag} {PB : List Addr} {Hs H : Hp} {v : V} (b : IsB K PB Hs H v .non) : v = .non := by
  rcases b with b | ⟨p, vs, ds', e, _⟩
  · cases b; rfl
  · cases e
theorem IsB.str {K : PySem.W.Frag} {PB : List Addr} {Hs H : Hp} {v : V} {x : List Nat} (b : IsB K PB Hs H v (.str x)) : v = .str ⟨x.toArray⟩ ∧ TX x := by
  rcases b with b | ⟨p, vs, ds', e, _⟩
  · cases b with | str _ h => exact ⟨rfl, h⟩
  · cases e

/-! ### readings told by Den -/
/-- what is to be shown of a reading's continuation Q, by what Den gives; R: how the value stands for Den's; EX: what an exception that leaves must find -/
def Post {α β : Type} (EX : Exn → Hp → Prop) (PB : List Addr) (Hs H : Hp) (R : Hp → Hp → β → α → Prop) (Q : β → Hp → Prop) : Res α → Prop
  | .ok a S => ∀ b Hs2 H2, Tr PB Hs H Hs2 H2 → BoxIs PB Hs2 H2 S → R Hs2 H2 b a → Q b H2
  | .exc x S => ∀ Hs2 H2, Tr PB Hs H Hs2 H2 → BoxIs PB Hs2 H2 S → EX x H2
  | .bad => False
theorem Post.step {α β : Type} {EX : Exn → Hp → Prop} {PB : List Addr} {Hs H Hs1 H1 : Hp} {R : Hp → Hp → β → α → Prop} {Q : β → Hp → Prop} {r : Res α} (p : Post EX PB Hs H R Q r) (t : Tr PB Hs H Hs1 H1) : Post EX PB Hs1 H1 R Q r := by
  cases r with
  | ok a S => exact fun b Hs2 H2 t2 bx q => p b Hs2 H2 (t.trans t2) bx q
  | exc x S => exact fun Hs2 H2 t2 bx => p Hs2 H2 (t.trans t2) bx
  | bad => exact p
theorem Post.bind {α β γ δ : Type} {EX : Exn → Hp → Prop} {PB : List Addr} {Hs H : Hp} {R : Hp → Hp → δ → γ → Prop} {Q : δ → Hp → Prop} {R1 : Hp → Hp → β → α → Prop} {Q1 : β → Hp → Prop} {m : M α} {k : α → M γ} {S : BX}
    (p : Post EX PB Hs H R Q ((m >>= k) S)) (h : ∀ a S1 b Hs1 H1, Tr PB Hs H Hs1 H1 → BoxIs PB Hs1 H1 S1 → R1 Hs1 H1 b a → Post EX PB Hs1 H1 R Q (k a S1) → Q1 b H1) : Post EX PB Hs H R1 Q1 (m S) := by
  rw [bind_def] at p
  unfold M.bind at p
  cases e : m S with
  | ok a S1 =>
    rw [e] at p
    exact fun b Hs1 H1 t bx r => h a S1 b Hs1 H1 t bx r (Post.step p t)
  | exc x S1 => rw [e] at p; exact p
  | bad => rw [e] at p; exact p.elim
theorem Post.of {α β γ : Type} {EX : Exn → Hp → Prop} {PB : List Addr} {Hs H : Hp} {R : Hp → Hp → β → γ → Prop} {Q : β → Hp → Prop} {o : Option α} {k : α → M γ} {S : BX} (p : Post EX PB Hs H R Q ((M.of o >>= k) S)) : ∃ a, o = some a ∧ Post EX PB Hs H R Q (k a S) := by
  cases o with
  | none => exact False.elim p
  | some a => exact ⟨a, rfl, p⟩
theorem Post.of1 {α β : Type} {EX : Exn → Hp → Prop} {PB : List Addr} {Hs H : Hp} {R : Hp → Hp → β → α → Prop} {Q : β → Hp → Prop} {o : Option α} {S : BX} (p : Post EX PB Hs H R Q (M.of o S)) : ∃ a, o = some a ∧ Post EX PB Hs H R Q (.ok a S) := by
  cases o with
  | none => exact False.elim p
  | some a => exact ⟨a, rfl, p⟩
abbrev ISE (K : PySem.W.Frag) : Hp → Hp → V → D → Prop := fun Hs _ v d => Is K Hs v d
abbrev ISA (K : PySem.W.Frag) : Hp → Hp → List V → List D → Prop := fun Hs _ v d => IsAll K Hs v d
abbrev ISB (K : PySem.W.Frag) (PB : List Addr) : Hp → Hp → V → D → Prop := fun Hs H v d => IsB K PB Hs H v d
inductive IsBs (K : PySem.W.Frag) (PB : List Addr) (Hs H : Hp) : List V → List D → Prop
  | nil : IsBs K PB Hs H [] []
  | cons {v : V} {vs : List V} {d : D} {ds : List D} : IsB K PB Hs H v d → IsBs K PB Hs H vs ds → IsBs K PB Hs H (v :: vs) (d :: ds)
theorem IsBs.tr {K : PySem.W.Frag} {PB : List Addr} {Hs H Hs2 H2 : Hp} {v : List V} {d : List D} (b : IsBs K PB Hs H v d) (t : Tr PB Hs H Hs2 H2) : IsBs K PB Hs2 H2 v d := by
  induction b with
  | nil => exact .nil
  | cons h _ ih => exact .cons (h.tr t) ih
/-- a new list that is nobody else's -/
def IsL (K : PySem.W.Frag) (PB : List Addr) (H0 : Hp) : Hp → Hp → V → List D → Prop := fun Hs H v ds => ∃ p vs, v = .ref p ∧ H0 p = none ∧ p ∉ PB ∧ Hs p = none ∧ H p = some (.lst vs) ∧ IsAll K Hs vs ds ∧ ds.length ≤ LIM

section
variable (K : PySem.W.Frag) (EX : Exn → Hp → Prop)
def SnE (t : TE) (f : Den) : Prop := ∀ PB Hs H σ ρ S Q, EnvIs K PB Hs H σ ρ → BoxIs PB Hs H S → Same Hs H → Post EX PB Hs H (ISE K) Q (f ρ S) → t σ H Q
def SnB (t : TE) (f : Den) : Prop := ∀ PB Hs H σ ρ S Q, EnvIs K PB Hs H σ ρ → BoxIs PB Hs H S → Same Hs H → Post EX PB Hs H (ISB K PB) Q (f ρ S) → t σ H Q
def SnT (t : TT) (f : DenT) : Prop := ∀ PB Hs H σ ρ S Q, EnvIs K PB Hs H σ ρ → BoxIs PB Hs H S → Same Hs H → Post EX PB Hs H (fun _ _ b k => b = k) Q (f ρ S) → t σ H Q
def SnA (t : TA) (f : DenL) : Prop := ∀ PB Hs H σ ρ S Q, EnvIs K PB Hs H σ ρ → BoxIs PB Hs H S → Same Hs H → Post EX PB Hs H (ISA K) Q (f ρ S) → t σ H Q
/-- arguments of a built-in: a list of one's own may be among them -/
def SnAB (t : TA) (f : DenL) : Prop := ∀ PB Hs H σ ρ S Q, EnvIs K PB Hs H σ ρ → BoxIs PB Hs H S → Same Hs H → Post EX PB Hs H (fun Hs H vs ds => IsBs K PB Hs H vs ds) Q (f ρ S) → t σ H Q
def SnL (t : TE) (f : DenL) : Prop := ∀ PB Hs H σ ρ S Q, EnvIs K PB Hs H σ ρ → BoxIs PB Hs H S → Same Hs H → Post EX PB Hs H (IsL K PB H) Q (f ρ S) → t σ H Q
end
structure QE (K : PySem.W.Frag) (X : Cx) (EX : Exn → Hp → Prop) (e : Expr) (t : TE) (f : Den) : Prop where
  pe : PE X e t
  sn : SnE K EX t f
structure QB (K : PySem.W.Frag) (X : Cx) (EX : Exn → Hp → Prop) (e : Expr) (t : TE) (f : Den) : Prop where
  pe : PE X e t
  sn : SnB K EX t f
structure QT (K : PySem.W.Frag) (X : Cx) (EX : Exn → Hp → Prop) (e : Expr) (t : TT) (f : DenT) : Prop where
  pt : PT X e t
  sn : SnT K EX t f
structure QA (K : PySem.W.Frag) (X : Cx) (EX : Exn → Hp → Prop) (e : List Expr) (t : TA) (f : DenL) : Prop where
  pa : PA X e t
  sn : SnA K EX t f
structure QAB (K : PySem.W.Frag) (X : Cx) (EX : Exn → Hp → Prop) (e : List Expr) (t : TA) (f : DenL) : Prop where
  pa : PA X e t
  sn : SnAB K EX t f
structure QL (K : PySem.W.Frag) (X : Cx) (EX : Exn → Hp → Prop) (e : Expr) (t : TE) (f : DenL) : Prop where
  pe : PE X e t
  sn : SnL K EX t f
section
variable {K : PySem.W.Frag} {EX : Exn → Hp → Prop} {ta tb tc : TE} {fa fb fc : Den} {tA tB : TT} {gA gB : DenT} {tr : TA} {fr : DenL}
theorem SnE.toB (h : SnE K EX ta fa) : SnB K EX ta fa := fun PB Hs H σ ρ S Q e b s p => h PB Hs H σ ρ S Q e b s (by
  cases q : fa ρ S with
  | ok d S1 => rw [q] at p; exact fun v Hs2 H2 t bx r => p v Hs2 H2 t bx (.inl r)
  | exc x S1 => rw [q] at p; exact p
  | bad => rw [q] at p; exact p)
theorem sn_var {i : Nat} : SnE K EX (tVar i) (eV i) := fun PB Hs H σ ρ S Q e b s p => by
  unfold eV at p
  cases q : ρ[i]? with
  | none => rw [q] at p; exact False.elim p
  | some sl =>
    rw [q] at p
    cases sl with
    | pv d =>
      obtain ⟨v, h1, h2⟩ := e.pv i d q
      exact ⟨v, h1, p v Hs H (.refl s) b h2⟩
    | no => exact False.elim p
    | own xs => exact False.elim p
    | box => exact False.elim p
theorem sn_varB {i : Nat} : SnB K EX (tVar i) (eB i) := fun PB Hs H σ ρ S Q e b s p => by
  unfold eB at p
  cases q : ρ[i]? with
  | none => rw [q] at p; exact False.elim p
  | some sl =>
    rw [q] at p
    cases sl with
    | pv d =>
      obtain ⟨v, h1, h2⟩ := e.pv i d q
      exact ⟨v, h1, p v Hs H (.refl s) b (.inl h2)⟩
    | no => exact False.elim p
    | own xs =>
      obtain ⟨a, vs, h1, h2, h3, h4, h5, h6⟩ := e.own i xs q
      exact ⟨_, h1, p _ Hs H (.refl s) b (.inr ⟨a, vs, xs, rfl, rfl, h2, h3, h4, h5, h6⟩)⟩
    | box => exact False.elim p
theorem sn_c {v : V} {d : D} (h : ∀ H, Is K H v d) : SnE K EX (tC v) (eC d) := fun PB Hs H σ ρ S Q e b s p => p v Hs H (.refl s) b (h Hs)
theorem sn_nil : SnA K EX tNil aNil := fun PB Hs H σ ρ S Q e b s p => p [] Hs H (.refl s) b .nil
theorem sn_cons (ha : SnE K EX ta fa) (hr : SnA K EX tr fr) : SnA K EX (tCons ta tr) (aCons fa fr) := fun PB Hs H σ ρ S Q e b s p =>
  ha PB Hs H σ ρ S _ e b s (p.bind fun d S1 v Hs1 H1 t1 b1 r1 p1 =>
    hr PB Hs1 H1 σ ρ S1 _ (e.tr t1) b1 t1.sub (p1.bind fun ds S2 vs Hs2 H2 t2 b2 r2 p2 => p2 (v :: vs) Hs2 H2 (.refl t2.sub) b2 (.cons (r1.up t2.st) r2)))
theorem sn_nilB : SnAB K EX tNil aNil := fun PB Hs H σ ρ S Q e b s p => p [] Hs H (.refl s) b .nil
theorem sn_consB (ha : SnB K EX ta fa) (hr : SnAB K EX tr fr) : SnAB K EX (tCons ta tr) (aCons fa fr) := fun PB Hs H σ ρ S Q e b s p =>
  ha PB Hs H σ ρ S _ e b s (p.bind fun d S1 v Hs1 H1 t1 b1 r1 p1 =>
    hr PB Hs1 H1 σ ρ S1 _ (e.tr t1) b1 t1.sub (p1.bind fun ds S2 vs Hs2 H2 t2 b2 r2 p2 => p2 (v :: vs) Hs2 H2 (.refl t2.sub) b2 (.cons (r1.tr t2) r2)))
/-- a new tuple of stable values -/
theorem new_tup {PB : List Addr} {Hs H : Hp} {p : Addr} {vs : List V} {ds : List D} (s : Same Hs H) (hp : H p = none) (h : IsAll K Hs vs ds) (hl : ds.length ≤ LIM) :
    Tr PB Hs H (upd Hs p (.tup vs)) (upd H p (.tup vs)) ∧ Is K (upd Hs p (.tup vs)) (.ref p) (.tup ds) := by
  have t : Tr PB Hs H (upd Hs p (.tup vs)) (upd H p (.tup vs)) := .new s hp
  exact ⟨t, .tup (SqT.of upd_same) (h.up t.st) hl⟩
theorem new_lst {PB : List Addr} {Hs H : Hp} {p : Addr} {vs : List V} {ds : List D} (s : Same Hs H) (hp : H p = none) (h : IsAll K Hs vs ds) (hl : ds.length ≤ LIM) :
    Tr PB Hs H (upd Hs p (.lst vs)) (upd H p (.lst vs)) ∧ Is K (upd Hs p (.lst vs)) (.ref p) (.lst ds) := by
  have t : Tr PB Hs H (upd Hs p (.lst vs)) (upd H p (.lst vs)) := .new s hp
  exact ⟨t, .lst upd_same (h.up t.st) hl⟩
theorem sn_tup (h : SnA K EX tr fr) : SnE K EX (tTup tr) (eTup fr) := fun PB Hs H σ ρ S Q e b s p =>
  h PB Hs H σ ρ S _ e b s (p.bind fun ds S1 vs Hs1 H1 t1 b1 r1 p1 => by
    by_cases hl : ds.length ≤ LIM
    · rw [if_pos hl] at p1
      refine ⟨by rw [r1.len]; exact lim_line hl, fun q hq => ?_⟩
      obtain ⟨t, i⟩ := new_tup (K := K) (PB := []) t1.sub hq r1 hl
      exact p1 _ _ _ t.wide (b1.tr t) i
    · rw [if_neg hl] at p1; exact False.elim p1)
theorem sn_lst (h : SnA K EX tr fr) : SnE K EX (tLst tr) (eLst fr) := fun PB Hs H σ ρ S Q e b s p =>
  h PB Hs H σ ρ S _ e b s (p.bind fun ds S1 vs Hs1 H1 t1 b1 r1 p1 => by
    by_cases hl : ds.length ≤ LIM
    · rw [if_pos hl] at p1
      refine ⟨by rw [r1.len]; exact lim_line hl, fun q hq => ?_⟩
      obtain ⟨t, i⟩ := new_lst (K := K) (PB := []) t1.sub hq r1 hl
      exact p1 _ _ _ t.wide (b1.tr t) i
    · rw [if_neg hl] at p1; exact False.elim p1)
end
end DN

set_option Elab.async false
set_option linter.all false
set_option maxRecDepth 100000
namespace DN
open PySem L2
/-! ### texts -/
theorem tx_nil : TX [] := ⟨by decide, by simp⟩
theorem tx_one {x : List Nat} (h : TX x) {c : Nat} (hc : c ∈ x) : TX [c] := ⟨(by decide : 1 ≤ LIM), fun d hd => by rw [List.mem_singleton] at hd; rw [hd]; exact h.2 c hc⟩
theorem tx_sub {x y : List Nat} (h : TX x) (hl : y.length ≤ x.length) (hm : ∀ c ∈ y, c ∈ x) : TX y := ⟨Nat.le_trans hl h.1, fun c hc => h.2 c (hm c hc)⟩
theorem tx_app {x y : List Nat} (h : TX x) (h' : TX y) (hl : x.length + y.length ≤ LIM) : TX (x ++ y) := ⟨by rw [List.length_append]; exact hl, fun c hc => (List.mem_append.mp hc).elim (h.2 c) (h'.2 c)⟩
theorem cut_len {α : Type} (xs : List α) (lo hi : Option Int) : (cut xs lo hi).length ≤ xs.length := by
  unfold cut; rw [List.length_take, List.length_drop]; omega
theorem cut_mem {α : Type} {xs : List α} {lo hi : Option Int} {c : α} (h : c ∈ cut xs lo hi) : c ∈ xs := List.mem_of_mem_drop (List.mem_of_mem_take h)
theorem str_len (x : List Nat) : (⟨x.toArray⟩ : Str).length = x.length := List.size_toArray
theorem str_add (x y : List Nat) : (⟨x.toArray⟩ : Str) ++ ⟨y.toArray⟩ = ⟨(x ++ y).toArray⟩ := by
  show Str.append _ _ = _
  unfold Str.append
  simp
theorem str_inj {x y : List Nat} (h : (⟨x.toArray⟩ : Str) = ⟨y.toArray⟩) : x = y := by
  have := congrArg (fun s : Str => s.cps.toList) h
  simpa using this

/-! ### an operation on two values, told by Den -/
def rD2 (K : PySem.W.Frag) (g : D → D → Option D) : R2 := fun x y H Q => ∃ PB Hs dx dy dz, Same Hs H ∧ IsB K PB Hs H x dx ∧ IsB K PB Hs H y dy ∧ g dx dy = some dz ∧ ∀ z Hs2 H2, Tr [] Hs H Hs2 H2 → Is K Hs2 z dz → Q z H2
/-- .. whose result is a new list -/
def rL2 (K : PySem.W.Frag) (g : D → D → Option (List D)) : R2 := fun x y H Q => ∃ PB Hs dx dy dz, Same Hs H ∧ IsB K PB Hs H x dx ∧ IsB K PB Hs H y dy ∧ g dx dy = some dz ∧ ∀ p vs, H p = none → IsAll K Hs vs dz → dz.length ≤ LIM → Q (.ref p) (upd H p (.lst vs))
def rD1 (K : PySem.W.Frag) (g : D → Option D) : V → Hp → VK → Prop := fun x H Q => ∃ PB Hs dx dz, Same Hs H ∧ IsB K PB Hs H x dx ∧ g dx = some dz ∧ ∀ z Hs2 H2, Tr [] Hs H Hs2 H2 → Is K Hs2 z dz → Q z H2
/-- a built-in by its arguments -/
def rDC (K : PySem.W.Frag) (g : Bi) : List V → Hp → VK → Prop := fun xs H Q => ∃ PB Hs ds dz, Same Hs H ∧ IsBs K PB Hs H xs ds ∧ g ds = some dz ∧ ∀ z Hs2 H2, Tr [] Hs H Hs2 H2 → Is K Hs2 z dz → Q z H2
def rLC (K : PySem.W.Frag) (g : D → Option (List D)) : List V → Hp → VK → Prop := fun xs H Q => ∃ PB Hs d dz x, Same Hs H ∧ xs = [x] ∧ IsB K PB Hs H x d ∧ g d = some dz ∧ ∀ p vs, H p = none → IsAll K Hs vs dz → dz.length ≤ LIM → Q (.ref p) (upd H p (.lst vs))
section
variable {K : PySem.W.Frag} {EX : Exn → Hp → Prop} {ta tb tc : TE} {fa fb fc : Den} {tA tB : TT} {gA gB : DenT} {tr : TA} {fr : DenL}
theorem sn_op {g : D → D → Option D} (ha : SnB K EX ta fa) (hb : SnB K EX tb fb) : SnE K EX (tOp (rD2 K g) ta tb) (e2 g fa fb) := fun PB Hs H σ ρ S Q e b s p =>
  ha PB Hs H σ ρ S _ e b s (p.bind fun d S1 v Hs1 H1 t1 b1 r1 p1 =>
    hb PB Hs1 H1 σ ρ S1 _ (e.tr t1) b1 t1.sub (p1.bind fun d' S2 v' Hs2 H2 t2 b2 r2 p2 => by
      obtain ⟨dz, hz, p3⟩ := p2.of1
      exact ⟨PB, Hs2, d, d', dz, t2.sub, r1.tr t2, r2, hz, fun z Hs3 H3 t3 i3 => p3 z Hs3 H3 t3.wide (b2.tr t3) i3⟩))
theorem sn_un {g : D → Option D} (ha : SnB K EX ta fa) : SnE K EX (tUn (rD1 K g) ta) (e1 g fa) := fun PB Hs H σ ρ S Q e b s p =>
  ha PB Hs H σ ρ S _ e b s (p.bind fun d S1 v Hs1 H1 t1 b1 r1 p1 => by
      obtain ⟨dz, hz, p3⟩ := p1.of1
      exact ⟨PB, Hs1, d, dz, t1.sub, r1, hz, fun z Hs3 H3 t3 i3 => p3 z Hs3 H3 t3.wide (b1.tr t3) i3⟩)
theorem sn_bi {g : Bi} (ha : SnAB K EX tr fr) : SnE K EX (tCB (rDC K g) tr) (eBi g fr) := fun PB Hs H σ ρ S Q e b s p =>
  ha PB Hs H σ ρ S _ e b s (p.bind fun d S1 v Hs1 H1 t1 b1 r1 p1 => by
      obtain ⟨dz, hz, p3⟩ := p1.of1
      exact ⟨PB, Hs1, d, dz, t1.sub, r1, hz, fun z Hs3 H3 t3 i3 => p3 z Hs3 H3 t3.wide (b1.tr t3) i3⟩)
/-- a new list, nobody else's -/
theorem sn_l2 {g : D → D → Option (List D)} (ha : SnB K EX ta fa) (hb : SnB K EX tb fb) : SnL K EX (tOp (rL2 K g) ta tb) (l2 g fa fb) := fun PB Hs H σ ρ S Q e b s p =>
  ha PB Hs H σ ρ S _ e b s (p.bind fun d S1 v Hs1 H1 t1 b1 r1 p1 =>
    hb PB Hs1 H1 σ ρ S1 _ (e.tr t1) b1 t1.sub (p1.bind fun d' S2 v' Hs2 H2 t2 b2 r2 p2 => by
      obtain ⟨dz, hz, p3⟩ := p2.of1
      refine ⟨PB, Hs2, d, d', dz, t2.sub, r1.tr t2, r2, hz, fun q vs hq hv hl => ?_⟩
      have hpb : q ∉ PB := fun m => by
        cases S2 with
        | off => rw [show PB = [] from b2] at m; cases m
        | on cs ns =>
          obtain ⟨B, C, eB, _, _, _, h3, h4⟩ := b2
          rw [eB] at m
          simp only [List.mem_cons, List.not_mem_nil, or_false] at m
          rcases m with rfl | rfl
          · rw [hq] at h3; cases h3
          · rw [hq] at h4; cases h4
      have t : Tr [] Hs2 H2 Hs2 (upd H2 q (.lst vs)) := .newU t2.sub hq
      exact p3 _ Hs2 _ t.wide (b2.tr t) ⟨q, vs, rfl, (t1.trans t2).old q hq, hpb, t2.sub.free hq, upd_same, hv, hl⟩))
end

/-! ### Den's data as the library's -/
mutual
def D.py : D → PyData
  | .non => .none
  | .bl b => .bool b
  | .int i => .int i
  | .str x => .str ⟨x.toArray⟩
  | .tup xs => .tuple (D.pys xs)
  | .lst xs => .list (D.pys xs)
def D.pys : List D → List PyData
  | [] => []
  | x :: xs => D.py x :: D.pys xs
end
mutual
theorem Is.dp {K : PySem.W.Frag} {H : Hp} : ∀ (d : D) (v : V), Is K H v d → Dp K H v d.py ∧ d.py.canLay0 = true
  | .non, _, h => by cases h; exact ⟨.non, rfl⟩
  | .bl b, _, h => by cases h; exact ⟨.bl b, rfl⟩
  | .int i, _, h => by cases h; exact ⟨.int i, rfl⟩
  | .str x, _, h => by
    cases h with
    | str _ hl =>
      refine ⟨.str _, ?_⟩
      show (PyData.str ⟨x.toArray⟩).canLay0 = true
      unfold PyData.canLay0 PyData.strOk
      show x.toArray.all _ = true
      rw [List.all_toArray, List.all_eq_true]
      exact fun c hc => decide_eq_true (hl.2 c hc)
  | .tup ds, _, h => by
    cases h with
    | tup h1 h2 h3 =>
      obtain ⟨a, b⟩ := IsAll.dp ds _ h2
      exact ⟨.tup h1 a, by show (PyData.tuple _).canLay0 = true; unfold PyData.canLay0; exact b⟩
  | .lst ds, _, h => by
    cases h with
    | lst h1 h2 h3 =>
      obtain ⟨a, b⟩ := IsAll.dp ds _ h2
      exact ⟨.lst (SqL.of h1) a, by show (PyData.list _).canLay0 = true; unfold PyData.canLay0; exact b⟩
theorem IsAll.dp {K : PySem.W.Frag} {H : Hp} : ∀ (ds : List D) (vs : List V), IsAll K H vs ds → DpAll K H vs (D.pys ds) ∧ PyData.canLayAll0 (D.pys ds) = true
  | [], _, h => by cases h; exact ⟨.nil, rfl⟩
  | d :: ds, _, h => by
    cases h with
    | cons h1 h2 =>
      obtain ⟨a, b⟩ := Is.dp d _ h1
      obtain ⟨a', b'⟩ := IsAll.dp ds _ h2
      exact ⟨.cons a a', by show PyData.canLayAll0 (_ :: _) = true; unfold PyData.canLayAll0; rw [b, b']; rfl⟩
end
mutual
theorem py_depth : ∀ d : D, d.py.depth = d.depth
  | .non => rfl | .bl _ => rfl | .int _ => rfl | .str _ => rfl
  | .tup xs => by
    show (PyData.tuple _).depth = _
    unfold PyData.depth D.depth
    rw [pys_depth xs, Nat.add_comm]
  | .lst xs => by
    show (PyData.list _).depth = _
    unfold PyData.depth D.depth
    rw [pys_depth xs, Nat.add_comm]
theorem pys_depth : ∀ ds : List D, PyData.depthAll (D.pys ds) = D.depths ds
  | [] => rfl
  | x :: xs => by
    show PyData.depthAll (_ :: _) = _
    unfold PyData.depthAll D.depths
    rw [py_depth x, pys_depth xs]
end
theorem str_beq (x y : List Nat) : ((⟨x.toArray⟩ : Str) == ⟨y.toArray⟩) = (x == y) := by
  by_cases h : x = y
  · subst h; simp
  · have h2 : ¬ (⟨x.toArray⟩ : Str) = ⟨y.toArray⟩ := fun e => h (str_inj e)
    rw [beq_eq_false_iff_ne.mpr h2, beq_eq_false_iff_ne.mpr h]
mutual
theorem py_eqv : ∀ a b : D, PyData.eqv a.py b.py = D.eqv a b
  | .non, b => by cases b <;> rfl
  | .bl _, b => by cases b <;> rfl
  | .int _, b => by cases b <;> rfl
  | .str x, b => by
    cases b with
    | str y => exact str_beq x y
    | _ => rfl
  | .tup xs, b => by
    cases b with
    | tup ys =>
      show PyData.eqv (.tuple _) (.tuple _) = D.eqv (.tup xs) (.tup ys)
      unfold PyData.eqv D.eqv
      exact pys_eqv xs ys
    | _ => rfl
  | .lst xs, b => by
    cases b with
    | lst ys =>
      show PyData.eqv (.list _) (.list _) = D.eqv (.lst xs) (.lst ys)
      unfold PyData.eqv D.eqv
      exact pys_eqv xs ys
    | _ => rfl
theorem pys_eqv : ∀ a b : List D, PyData.eqvAll (D.pys a) (D.pys b) = D.eqvs a b
  | [], b => by cases b <;> rfl
  | x :: xs, b => by
    cases b with
    | nil => rfl
    | cons y ys =>
      show PyData.eqvAll (_ :: _) (_ :: _) = _
      unfold PyData.eqvAll D.eqvs
      rw [py_eqv x y, pys_eqv xs ys]
end
theorem pys_any (d : D) : ∀ ds : List D, ((D.pys ds).any fun z => PyData.eqv z d.py) = inD d ds
  | [] => rfl
  | x :: xs => by
    show (((D.py x) :: (D.pys xs)).any _) = _
    unfold inD
    rw [List.any_cons, List.any_cons, py_eqv, pys_any d xs]
    rfl
/-! ### the order of texts -/
theorem strLt_iff : ∀ x y : List Nat, strLt x y = decide (x < y)
  | [], [] => by simp [strLt]
  | [], y :: ys => by simp [strLt]
  | x :: xs, [] => by simp [strLt]
  | x :: xs, y :: ys => by
    unfold strLt
    by_cases h : x = y
    · subst h
      rw [if_pos rfl, strLt_iff xs ys]
      simp [List.cons_lt_cons_iff]
    · rw [if_neg h]
      simp [List.cons_lt_cons_iff, h]
theorem intsOf_eq : ∀ {ds : List D} {ns : List Int}, intsOf ds = some ns → ds = ns.map D.int
  | [], ns, h => by cases h; rfl
  | .int i :: r, ns, h => by
    unfold intsOf at h
    cases e : intsOf r with
    | none => rw [e] at h; cases h
    | some m => rw [e] at h; cases h; rw [intsOf_eq e]; rfl
  | .non :: _, _, h => by cases h
  | .bl _ :: _, _, h => by cases h
  | .str _ :: _, _, h => by cases h
  | .tup _ :: _, _, h => by cases h
  | .lst _ :: _, _, h => by cases h
theorem bsOf_eq : ∀ {ds : List D} {ns : List Bool}, bsOf ds = some ns → ds = ns.map D.bl
  | [], ns, h => by cases h; rfl
  | .bl i :: r, ns, h => by
    unfold bsOf at h
    cases e : bsOf r with
    | none => rw [e] at h; cases h
    | some m => rw [e] at h; cases h; rw [bsOf_eq e]; rfl
  | .non :: _, _, h => by cases h
  | .int _ :: _, _, h => by cases h
  | .str _ :: _, _, h => by cases h
  | .tup _ :: _, _, h => by cases h
  | .lst _ :: _, _, h => by cases h
theorem strsOf_eq : ∀ {ds : List D} {ns : List (List Nat)}, strsOf ds = some ns → ds = ns.map D.str
  | [], ns, h => by cases h; rfl
  | .str i :: r, ns, h => by
    unfold strsOf at h
    cases e : strsOf r with
    | none => rw [e] at h; cases h
    | some m => rw [e] at h; cases h; rw [strsOf_eq e]; rfl
  | .non :: _, _, h => by cases h
  | .int _ :: _, _, h => by cases h
  | .bl _ :: _, _, h => by cases h
  | .tup _ :: _, _, h => by cases h
  | .lst _ :: _, _, h => by cases h
theorem lexLt_eq : ∀ a b : List Int, HT.lexLt a b = lexLt a b
  | [], [] => rfl
  | [], _ :: _ => rfl
  | _ :: _, [] => rfl
  | x :: xs, y :: ys => by unfold HT.lexLt lexLt; rw [lexLt_eq xs ys]
theorem sIx_eq (n d : Nat) (o : Option Int) : HT.sIx n d o = sIx n d o := by cases o <;> rfl
theorem ixN_eq (n : Nat) (i : Int) : L2.ixN n i = ixN n i := rfl
theorem at_eq {α : Type} (xs : List α) (i : Int) : L2.atI xs i = atD xs i := rfl
theorem IsAll.at {K : PySem.W.Frag} {H : Hp} {vs : List V} {ds : List D} {i : Int} {d : D} (h : IsAll K H vs ds) (e : atD ds i = some d) : ∃ v, L2.atI vs i = some v ∧ Is K H v d := by
  unfold atD at e
  show ∃ v, (L2.ixN vs.length i).bind (fun j => vs[j]?) = some v ∧ _
  rw [h.len, ixN_eq]
  cases q : ixN ds.length i with
  | none => rw [q] at e; cases e
  | some j =>
    rw [q] at e
    obtain ⟨v, h1, h2⟩ := h.get (i := j) (d := d) e
    exact ⟨v, h1, h2⟩
theorem IsAll.cut {K : PySem.W.Frag} {H : Hp} {vs : List V} {ds : List D} (h : IsAll K H vs ds) (lo hi : Option Int) : IsAll K H (cutV vs lo hi) (cut ds lo hi) := by
  unfold cutV DN.cut
  rw [h.len, sIx_eq, sIx_eq]
  exact (h.drop _).take _
theorem IsAll.rev {K : PySem.W.Frag} {H : Hp} : ∀ {vs : List V} {ds : List D}, IsAll K H vs ds → IsAll K H vs.reverse ds.reverse
  | _, _, .nil => .nil
  | _, _, .cons r t => by rw [List.reverse_cons, List.reverse_cons]; exact t.rev.snoc r
theorem IsAll.rep {K : PySem.W.Frag} {H : Hp} {vs : List V} {ds : List D} (h : IsAll K H vs ds) : ∀ n, IsAll K H (List.replicate n vs).flatten (List.replicate n ds).flatten
  | 0 => .nil
  | n + 1 => by rw [List.replicate_succ, List.replicate_succ, List.flatten_cons, List.flatten_cons]; exact h.append (h.rep n)
end DN

set_option Elab.async false
set_option linter.all false
set_option maxRecDepth 100000
namespace DN
open PySem L2
/-! ### the operators' rules, by Den's operations -/
section
variable {X : Cx}
theorem o_sub : OpR X (binaryOp .Sub) (rD2 X.K D.sub) := by
  rintro pins s σ H x y v u Q I rx ry ⟨PB, Hs, dx, dy, dz, hs, hx, hy, hg, q⟩
  cases dx <;> cases dy <;> first | (cases hg; done) | skip
  case int.int i j =>
    cases hg
    rw [hx.int] at rx; rw [hy.int] at ry
    exact op_sub pins s σ H _ _ v u Q I rx ry ⟨_, _, rfl, rfl, q _ Hs H (.refl hs) (.int _)⟩
theorem o_add : OpR X (binaryOp .Add) (rD2 X.K D.add) := by
  rintro pins s σ H x y v u Q I rx ry ⟨PB, Hs, dx, dy, dz, hs, hx, hy, hg, q⟩
  cases dx <;> cases dy <;> first | (cases hg; done) | skip
  case int.int i j =>
    cases hg
    rw [hx.int] at rx; rw [hy.int] at ry
    exact op_add pins s σ H _ _ v u Q I rx ry ⟨_, _, rfl, rfl, q _ Hs H (.refl hs) (.int _)⟩
  case str.str a b =>
    obtain ⟨e1, t1⟩ := hx.str
    obtain ⟨e2, t2⟩ := hy.str
    dsimp only [D.add] at hg
    by_cases hl : a.length + b.length ≤ LIM
    · rw [if_pos hl] at hg
      cases hg
      subst e1 e2
      refine op_add_str pins s σ H _ _ v u Q I rx ry ⟨_, _, rfl, rfl, by rw [str_len, str_len]; exact lim_line hl, ?_⟩
      rw [str_add]
      exact q _ Hs H (.refl hs) (.str _ (tx_app t1 t2 hl))
    · rw [if_neg hl] at hg; cases hg
  case tup.tup a b =>
    obtain ⟨p1, vs1, e1, h1, i1, l1⟩ := hx.tup hs
    obtain ⟨p2, vs2, e2, h2, i2, l2⟩ := hy.tup hs
    dsimp only [D.add] at hg
    by_cases hl : a.length + b.length ≤ LIM
    · rw [if_pos hl] at hg
      cases hg
      subst e1 e2
      refine op_catA pins s σ H _ _ v u Q I rx ry ⟨_, _, vs1, vs2, rfl, rfl, h1, h2, by rw [i1.len, i2.len]; exact lim_line hl, fun e => ?_, fun e e' => ?_, fun e e' p hp => ?_⟩
      · subst e
        cases i1
        rcases hy with hy | ⟨_, _, _, e, _⟩
        · exact q _ Hs H (.refl hs) hy
        · cases e
      · subst e'
        cases i2
        rw [List.append_nil] at q
        rcases hx with hx | ⟨_, _, _, e, _⟩
        · exact q _ Hs H (.refl hs) hx
        · cases e
      · obtain ⟨t, i⟩ := new_tup (K := X.K) (PB := []) hs hp (i1.append i2) (by rw [List.length_append]; exact hl)
        exact q _ _ _ t i
    · rw [if_neg hl] at hg; cases hg
  case lst.lst a b =>
    obtain ⟨p1, vs1, e1, h1, i1, l1⟩ := hx.lst hs
    obtain ⟨p2, vs2, e2, h2, i2, l2⟩ := hy.lst hs
    dsimp only [D.add] at hg
    by_cases hl : a.length + b.length ≤ LIM
    · rw [if_pos hl] at hg
      cases hg
      subst e1 e2
      refine op_cat pins s σ H _ _ v u Q I rx ry ⟨_, _, vs1, vs2, rfl, rfl, h1, h2, by rw [i1.len, i2.len]; exact lim_line hl, fun p hp => ?_⟩
      obtain ⟨t, i⟩ := new_lst (K := X.K) (PB := []) hs hp (i1.append i2) (by rw [List.length_append]; exact hl)
      exact q _ _ _ t i
    · rw [if_neg hl] at hg; cases hg
theorem o_addL : OpR X (binaryOp .Add) (rL2 X.K lCat) := by
  rintro pins s σ H x y v u Q I rx ry ⟨PB, Hs, dx, dy, dz, hs, hx, hy, hg, q⟩
  cases dx <;> cases dy <;> first | (cases hg; done) | skip
  case lst.lst a b =>
    obtain ⟨p1, vs1, e1, h1, i1, l1⟩ := hx.lst hs
    obtain ⟨p2, vs2, e2, h2, i2, l2⟩ := hy.lst hs
    dsimp only [lCat] at hg
    by_cases hl : a.length + b.length ≤ LIM
    · rw [if_pos hl] at hg
      cases hg
      subst e1 e2
      exact op_cat pins s σ H _ _ v u Q I rx ry ⟨_, _, vs1, vs2, rfl, rfl, h1, h2, by rw [i1.len, i2.len]; exact lim_line hl, fun p hp => q p _ hp (i1.append i2) (by rw [List.length_append]; exact hl)⟩
    · rw [if_neg hl] at hg; cases hg
theorem rep_len {α : Type} (n : Nat) (x : List α) : (List.replicate n x).flatten.length = n * x.length := by simp
theorem rep_lim {α : Type} {n : Int} {x : List α} (h1 : n ≤ 1000) (h2 : x.length ≤ 1000) : (List.replicate n.toNat x).flatten.length ≤ LIM := by
  rw [rep_len]
  have a : n.toNat ≤ 1000 := by omega
  exact Nat.le_trans (Nat.mul_le_mul a h2) (by decide)
theorem foldl_app (x : Array Nat) : ∀ (n : Nat) (acc : Array Nat), (List.replicate n x).foldl (· ++ ·) acc = acc ++ (List.replicate n x.toList).flatten.toArray
  | 0, acc => by simp
  | n + 1, acc => by
    rw [List.replicate_succ, List.foldl_cons, foldl_app x n, List.replicate_succ, List.flatten_cons]
    apply Array.toList_inj.mp
    simp
theorem o_mul : OpR X (binaryOp .Mult) (rD2 X.K D.mul) := by
  rintro pins s σ H x y v u Q I rx ry ⟨PB, Hs, dx, dy, dz, hs, hx, hy, hg, q⟩
  cases dx <;> cases dy <;> first | (cases hg; done) | skip
  case int.int i j =>
    dsimp only [D.mul] at hg
    by_cases hc : (-(2 ^ 64) < i ∧ i < 2 ^ 64) ∨ (-(2 ^ 64) < j ∧ j < 2 ^ 64)
    · rw [if_pos hc] at hg
      cases hg
      rw [hx.int] at rx; rw [hy.int] at ry
      exact op_mul pins s σ H _ _ v u Q I rx ry ⟨_, _, rfl, rfl, hc, q _ Hs H (.refl hs) (.int _)⟩
    · rw [if_neg hc] at hg; cases hg
  case str.int a n =>
    dsimp only [D.mul] at hg
    by_cases hc : n ≤ 1000 ∧ -(2 ^ 62) < n ∧ a.length ≤ 1000
    · rw [if_pos hc] at hg
      cases hg
      obtain ⟨e1, t1⟩ := hx.str
      rw [e1] at rx; rw [hy.int] at ry
      obtain ⟨t, rfl⟩ := rx
      obtain ⟨t', rfl⟩ := ry
      have hT : TX (List.replicate n.toNat a).flatten := ⟨rep_lim hc.1 hc.2.2, fun c hm => by
        obtain ⟨l, hl, hm⟩ := List.mem_flatten.mp hm
        rw [List.mem_replicate] at hl
        rw [hl.2] at hm
        exact t1.2 c hm⟩
      have fin := q _ Hs H (.refl hs) (.str _ hT)
      refine PySem.P.mul_str (by
          have h1 : ¬ n < -(2 ^ 63 : Int) := by omega
          have h2 : ¬ n ≥ 2 ^ 63 := by omega
          rw [decide_eq_false h1, decide_eq_false h2]; rfl) (fun h1 h2 => ?_) (fun h1 h2 => ?_) ?_
      · rw [str_len]
        have h3 : (1 : Int) ≤ n := by omega
        have h4 : ((2 : Int) ^ 63 - 1) / n ≥ (2 ^ 63 - 1) / 1000 := by
          apply Int.le_ediv_of_mul_le (by omega)
          have : ((2 : Int) ^ 63 - 1) / 1000 * n ≤ (2 ^ 63 - 1) / 1000 * 1000 := Int.mul_le_mul_of_nonneg_left hc.1 (by decide)
          omega
        omega
      · rw [str_len]
        unfold PySem.Builtin.Str.tooLong
        rw [decide_eq_false]
        have a1 : a.length * n.toNat ≤ 1000 * 1000 := Nat.mul_le_mul hc.2.2 (by omega)
        have := sizeLine_eq
        omega
      · by_cases h1 : n < 1
        · rw [if_pos h1]
          have e : n.toNat = 0 := by omega
          rw [e] at fin
          exact ⟨Nat.zero_le _, ⟨.str _, H, I.tok _, ⟨_, rfl⟩, fin⟩⟩
        · rw [if_neg h1]
          by_cases h2 : (n == 1 || (⟨a.toArray⟩ : Str).length == 0) = true
          · rw [if_pos h2]
            have e : (List.replicate n.toNat a).flatten = a := by
              rw [Bool.or_eq_true, beq_iff_eq, beq_iff_eq, str_len] at h2
              rcases h2 with h2 | h2
              · subst h2; simp
              · have : a = [] := List.eq_nil_of_length_eq_zero h2
                subst this; simp
            rw [e] at fin
            exact ⟨.str _, H, I, ⟨_, rfl⟩, fin⟩
          · rw [if_neg h2]
            rw [foldl_app]
            rw [Array.empty_append]
            exact ⟨by rw [str_len]; exact lim_line hT.1, ⟨.str _, H, I.tok _, ⟨_, rfl⟩, fin⟩⟩
    · rw [if_neg hc] at hg; cases hg
  case tup.int a n =>
    dsimp only [D.mul] at hg
    by_cases hc : 2 ≤ n ∧ n ≤ 1000 ∧ a ≠ [] ∧ a.length ≤ 1000
    · rw [if_pos hc] at hg
      cases hg
      obtain ⟨p1, vs1, e1, h1, i1, l1⟩ := hx.tup hs
      rw [e1] at rx; rw [hy.int] at ry
      refine op_repT pins s σ H _ _ v u Q I rx ry ⟨_, _, vs1, rfl, rfl, h1, fun e => ?_, hc.1, hc.2.1, by rw [i1.len]; exact hc.2.2.2, fun p hp => ?_⟩
      · subst e; cases i1; exact hc.2.2.1 rfl
      · obtain ⟨t, i⟩ := new_tup (K := X.K) (PB := []) hs hp (i1.rep n.toNat) (rep_lim hc.2.1 hc.2.2.2)
        exact q _ _ _ t i
    · rw [if_neg hc] at hg; cases hg
  case lst.int a n =>
    dsimp only [D.mul] at hg
    by_cases hc : n ≤ 1000 ∧ -(2 ^ 62) < n ∧ a.length ≤ 1000
    · rw [if_pos hc] at hg
      cases hg
      obtain ⟨p1, vs1, e1, h1, i1, l1⟩ := hx.lst hs
      rw [e1] at rx; rw [hy.int] at ry
      refine op_rep pins s σ H _ _ v u Q I rx ry ⟨_, _, vs1, rfl, rfl, h1, by omega, by omega, ?_, fun p hp => ?_⟩
      · rw [i1.len, Nat.mul_comm]
        have := rep_lim (x := a) hc.1 hc.2.2
        rw [rep_len] at this
        exact lim_line this
      · obtain ⟨t, i⟩ := new_lst (K := X.K) (PB := []) hs hp (i1.rep n.toNat) (rep_lim hc.1 hc.2.2)
        exact q _ _ _ t i
    · rw [if_neg hc] at hg; cases hg
theorem o_mulL : OpR X (binaryOp .Mult) (rL2 X.K lRep) := by
  rintro pins s σ H x y v u Q I rx ry ⟨PB, Hs, dx, dy, dz, hs, hx, hy, hg, q⟩
  cases dx <;> cases dy <;> first | (cases hg; done) | skip
  case lst.int a n =>
    dsimp only [lRep] at hg
    by_cases hc : n ≤ 1000 ∧ -(2 ^ 62) < n ∧ a.length ≤ 1000
    · rw [if_pos hc] at hg
      cases hg
      obtain ⟨p1, vs1, e1, h1, i1, l1⟩ := hx.lst hs
      rw [e1] at rx; rw [hy.int] at ry
      refine op_rep pins s σ H _ _ v u Q I rx ry ⟨_, _, vs1, rfl, rfl, h1, by omega, by omega, ?_, fun p hp => q p _ hp (i1.rep n.toNat) (rep_lim hc.1 hc.2.2)⟩
      rw [i1.len, Nat.mul_comm]
      have := rep_lim (x := a) hc.1 hc.2.2
      rw [rep_len] at this
      exact lim_line this
    · rw [if_neg hc] at hg; cases hg
theorem o_fdiv : OpR X (binaryOp .FloorDiv) (rD2 X.K D.fdiv) := by
  rintro pins s σ H x y v u Q I rx ry ⟨PB, Hs, dx, dy, dz, hs, hx, hy, hg, q⟩
  cases dx <;> cases dy <;> first | (cases hg; done) | skip
  case int.int i j =>
    dsimp only [D.fdiv] at hg
    by_cases hc : j ≠ 0 ∧ j.natAbs < 1073741824
    · rw [if_pos hc] at hg
      cases hg
      rw [hx.int] at rx; rw [hy.int] at ry
      exact op_fdivN pins s σ H _ _ v u Q I rx ry ⟨_, _, rfl, rfl, hc, q _ Hs H (.refl hs) (.int _)⟩
    · rw [if_neg hc] at hg; cases hg
theorem o_mod : OpR X (binaryOp .Mod) (rD2 X.K D.mod) := by
  rintro pins s σ H x y v u Q I rx ry ⟨PB, Hs, dx, dy, dz, hs, hx, hy, hg, q⟩
  cases dx <;> cases dy <;> first | (cases hg; done) | skip
  case int.int i j =>
    dsimp only [D.mod] at hg
    by_cases hc : j ≠ 0
    · rw [if_pos hc] at hg
      cases hg
      rw [hx.int] at rx; rw [hy.int] at ry
      exact op_modN pins s σ H _ _ v u Q I rx ry ⟨_, _, rfl, rfl, hc, q _ Hs H (.refl hs) (.int _)⟩
    · rw [if_neg hc] at hg; cases hg
theorem o_pow : OpR X (binaryOp .Pow) (rD2 X.K D.pow) := by
  rintro pins s σ H x y v u Q I rx ry ⟨PB, Hs, dx, dy, dz, hs, hx, hy, hg, q⟩
  cases dx <;> cases dy <;> first | (cases hg; done) | skip
  case int.int i j =>
    dsimp only [D.pow] at hg
    by_cases hc : 0 ≤ j ∧ j ≤ 1000000 ∧ i.natAbs < 2 ^ 64
    · rw [if_pos hc] at hg
      cases hg
      rw [hx.int] at rx; rw [hy.int] at ry
      exact op_pow pins s σ H _ _ v u Q I rx ry ⟨_, _, rfl, rfl, hc, q _ Hs H (.refl hs) (.int _)⟩
    · rw [if_neg hc] at hg; cases hg
theorem o_shl : OpR X (binaryOp .LShift) (rD2 X.K D.shl) := by
  rintro pins s σ H x y v u Q I rx ry ⟨PB, Hs, dx, dy, dz, hs, hx, hy, hg, q⟩
  cases dx <;> cases dy <;> first | (cases hg; done) | skip
  case int.int i j =>
    dsimp only [D.shl] at hg
    by_cases hc : 0 ≤ j ∧ j ≤ 1000000 ∧ i.natAbs < 2 ^ 64
    · rw [if_pos hc] at hg
      cases hg
      rw [hx.int] at rx; rw [hy.int] at ry
      exact op_shl pins s σ H _ _ v u Q I rx ry ⟨_, _, rfl, rfl, hc, q _ Hs H (.refl hs) (.int _)⟩
    · rw [if_neg hc] at hg; cases hg
theorem o_neg : UnR X (unaryOp .USub) (rD1 X.K D.neg) := by
  rintro pins s σ H x v Q I rx ⟨PB, Hs, dx, dz, hs, hx, hg, q⟩
  cases dx <;> first | (cases hg; done) | skip
  case int i =>
    cases hg
    rw [hx.int] at rx
    exact un_neg pins s σ H _ v Q I rx ⟨_, rfl, q _ Hs H (.refl hs) (.int _)⟩
/-! comparisons -/
theorem room64 {A : Around} {a b : D} (hu : A.units + 70 < cLine) (h : min a.depth b.depth ≤ 64) : A.units + min a.py.depth b.py.depth < cLine := by
  rw [py_depth, py_depth]; omega
theorem o_eq (hu : X.A.units + 70 < cLine) : OpR X (compareOp .Eq) (rD2 X.K D.eq) := by
  rintro pins s σ H x y v u Q I rx ry ⟨PB, Hs, dx, dy, dz, hs, hx, hy, hg, q⟩
  dsimp only [D.eq] at hg
  by_cases hc : min dx.depth dy.depth ≤ 64
  · rw [if_pos hc] at hg
    cases hg
    obtain ⟨h1, c1⟩ := (hx.now hs).dp
    obtain ⟨h2, c2⟩ := (hy.now hs).dp
    obtain ⟨as, r1⟩ := Dp.reads I _ x v h1 rx
    obtain ⟨bs, r2⟩ := Dp.reads I _ y u h2 ry
    refine SeqAt.compareEq_reads r1 r2 c1 c2 (room64 hu hc) ⟨.bl _, H, I, rfl, ?_⟩
    rw [py_eqv]
    exact q _ Hs H (.refl hs) (.bl _)
  · rw [if_neg hc] at hg; cases hg
theorem o_ne (hu : X.A.units + 70 < cLine) : OpR X (compareOp .NotEq) (rD2 X.K D.ne) := by
  rintro pins s σ H x y v u Q I rx ry ⟨PB, Hs, dx, dy, dz, hs, hx, hy, hg, q⟩
  dsimp only [D.ne] at hg
  by_cases hc : min dx.depth dy.depth ≤ 64
  · rw [if_pos hc] at hg
    cases hg
    obtain ⟨h1, c1⟩ := (hx.now hs).dp
    obtain ⟨h2, c2⟩ := (hy.now hs).dp
    obtain ⟨as, r1⟩ := Dp.reads I _ x v h1 rx
    obtain ⟨bs, r2⟩ := Dp.reads I _ y u h2 ry
    refine SeqAt.compareNe_reads r1 r2 c1 c2 (room64 hu hc) ⟨.bl _, H, I, rfl, ?_⟩
    rw [py_eqv]
    exact q _ Hs H (.refl hs) (.bl _)
  · rw [if_neg hc] at hg; cases hg
theorem roomIn {A : Around} {a : D} {ds : List D} (hu : A.units + 70 < cLine) (h : min (D.depths ds) a.depth ≤ 64) : A.units + 1 + min (PyData.depthAll (D.pys ds)) a.py.depth < cLine := by
  rw [py_depth, pys_depth]; omega
theorem mem_sgn {c : Nat} {z : List Nat} : decide (c ∈ (⟨z.toArray⟩ : Str).cps.toList) = decide (c ∈ z) := rfl
theorem o_in (hu : X.A.units + 70 < cLine) : OpR X (compareOp .In) (rD2 X.K D.isIn) := by
  rintro pins s σ H x y v u Q I rx ry ⟨PB, Hs, dx, dy, dz, hs, hx, hy, hg, q⟩
  have seq : ∀ ds b, b = inD dx ds → dz = .bl b → min (D.depths ds) dx.depth ≤ 64 → (dy = .lst ds ∨ dy = .tup ds) → wpAny (model X.prog X.w) X.A (compareOp .In v u) (EP X pins σ Q) X.xe s := by
    intro ds b hb hz hc hd
    obtain ⟨h1, c1⟩ := (hx.now hs).dp
    obtain ⟨h2, c2⟩ := (hy.now hs).dp
    obtain ⟨as, r1⟩ := Dp.reads I _ x v h1 rx
    obtain ⟨bs, r2⟩ := Dp.reads I _ y u h2 ry
    have fin : wpAny (model X.prog X.w) X.A (pure (Value.bool b)) (EP X pins σ Q) X.xe s := wpAny_pure ⟨.bl b, H, I, rfl, by
      have := q (.bl b) Hs H (.refl hs)
      rw [hz] at this
      exact this (.bl b)⟩
    have fin' : EP X pins σ Q (.bool b) s := ⟨.bl b, H, I, rfl, by
      have := q (.bl b) Hs H (.refl hs)
      rw [hz] at this
      exact this (.bl b)⟩
    rcases hd with rfl | rfl
    · exact SeqAt.in_list_reads r2 r1 c2 c1 (roomIn hu hc) (by rw [pys_any, ← hb]; exact fin')
    · exact SeqAt.in_tuple_reads r2 r1 c2 c1 (roomIn hu hc) (by rw [pys_any, ← hb]; exact fin')
  unfold D.isIn at hg
  cases hm : D.mem dx dy with
  | none => rw [hm] at hg; cases hg
  | some b =>
    rw [hm] at hg
    have hz : dz = .bl b := by cases hg; rfl
    cases dy with
    | lst ds =>
      have e : D.mem dx (.lst ds) = if min (D.depths ds) dx.depth ≤ 64 then some (inD dx ds) else none := by
        cases dx with
        | str x => cases x with
          | nil => rfl
          | cons c r => cases r <;> rfl
        | _ => rfl
      rw [e] at hm
      by_cases hc : min (D.depths ds) dx.depth ≤ 64
      · rw [if_pos hc] at hm
        exact seq ds b (by cases hm; rfl) hz hc (.inl rfl)
      · rw [if_neg hc] at hm; cases hm
    | tup ds =>
      have e : D.mem dx (.tup ds) = if min (D.depths ds) dx.depth ≤ 64 then some (inD dx ds) else none := by
        cases dx with
        | str x => cases x with
          | nil => rfl
          | cons c r => cases r <;> rfl
        | _ => rfl
      rw [e] at hm
      by_cases hc : min (D.depths ds) dx.depth ≤ 64
      · rw [if_pos hc] at hm
        exact seq ds b (by cases hm; rfl) hz hc (.inr rfl)
      · rw [if_neg hc] at hm; cases hm
    | str z =>
      cases dx with
      | str w =>
        cases w with
        | nil => cases hm
        | cons c r =>
          cases r with
          | nil =>
            cases hm
            obtain ⟨e1, _⟩ := hx.str
            obtain ⟨e2, _⟩ := hy.str
            rw [e1] at rx; rw [e2] at ry
            refine op_in_sign pins s σ H _ _ v u Q I rx ry ⟨c, _, rfl, rfl, ?_⟩
            rw [mem_sgn]
            have := q (.bl (decide (c ∈ z))) Hs H (.refl hs)
            rw [hz] at this
            exact this (.bl _)
          | cons _ _ => cases hm
      | _ => cases hm
    | _ => cases dx with
      | str x => cases x with
        | nil => cases hm
        | cons c r => cases r <;> cases hm
      | _ => cases hm
end
end DN

set_option Elab.async false
set_option linter.all false
set_option maxRecDepth 100000
namespace DN
open PySem L2
section
variable {X : Cx}
theorem mem_lst (dx : D) (ds : List D) : D.mem dx (.lst ds) = if min (D.depths ds) dx.depth ≤ 64 then some (inD dx ds) else none := by
  cases dx with
  | str x => cases x with
    | nil => rfl
    | cons c r => cases r <;> rfl
  | _ => rfl
theorem mem_tup (dx : D) (ds : List D) : D.mem dx (.tup ds) = if min (D.depths ds) dx.depth ≤ 64 then some (inD dx ds) else none := by
  cases dx with
  | str x => cases x with
    | nil => rfl
    | cons c r => cases r <;> rfl
  | _ => rfl
theorem o_notIn (hu : X.A.units + 70 < cLine) : OpR X (compareOp .NotIn) (rD2 X.K D.notIn) := by
  rintro pins s σ H x y v u Q I rx ry ⟨PB, Hs, dx, dy, dz, hs, hx, hy, hg, q⟩
  have seq : ∀ ds b, b = inD dx ds → dz = .bl (!b) → min (D.depths ds) dx.depth ≤ 64 → (dy = .lst ds ∨ dy = .tup ds) → wpAny (model X.prog X.w) X.A (compareOp .NotIn v u) (EP X pins σ Q) X.xe s := by
    intro ds b hb hz hc hd
    obtain ⟨h1, c1⟩ := (hx.now hs).dp
    obtain ⟨h2, c2⟩ := (hy.now hs).dp
    obtain ⟨as, r1⟩ := Dp.reads I _ x v h1 rx
    obtain ⟨bs, r2⟩ := Dp.reads I _ y u h2 ry
    have fin' : EP X pins σ Q (.bool (!b)) s := ⟨.bl (!b), H, I, rfl, by
      have := q (.bl (!b)) Hs H (.refl hs)
      rw [hz] at this
      exact this (.bl _)⟩
    rcases hd with rfl | rfl
    · exact SeqAt.notIn_list_reads r2 r1 c2 c1 (roomIn hu hc) (by rw [pys_any, ← hb]; exact fin')
    · exact SeqAt.notIn_tuple_reads r2 r1 c2 c1 (roomIn hu hc) (by rw [pys_any, ← hb]; exact fin')
  unfold D.notIn at hg
  cases hm : D.mem dx dy with
  | none => rw [hm] at hg; cases hg
  | some b =>
    rw [hm] at hg
    have hz : dz = .bl (!b) := by cases hg; rfl
    cases dy with
    | lst ds =>
      rw [mem_lst] at hm
      by_cases hc : min (D.depths ds) dx.depth ≤ 64
      · rw [if_pos hc] at hm
        exact seq ds b (by cases hm; rfl) hz hc (.inl rfl)
      · rw [if_neg hc] at hm; cases hm
    | tup ds =>
      rw [mem_tup] at hm
      by_cases hc : min (D.depths ds) dx.depth ≤ 64
      · rw [if_pos hc] at hm
        exact seq ds b (by cases hm; rfl) hz hc (.inr rfl)
      · rw [if_neg hc] at hm; cases hm
    | str z =>
      cases dx with
      | str w =>
        cases w with
        | nil => cases hm
        | cons c r =>
          cases r with
          | nil =>
            cases hm
            obtain ⟨e1, _⟩ := hx.str
            obtain ⟨e2, _⟩ := hy.str
            rw [e1] at rx; rw [e2] at ry
            refine op_notIn_sign pins s σ H _ _ v u Q I rx ry ⟨c, _, rfl, rfl, ?_⟩
            rw [mem_sgn]
            have := q (.bl (!decide (c ∈ z))) Hs H (.refl hs)
            rw [hz] at this
            exact this (.bl _)
          | cons _ _ => cases hm
      | _ => cases hm
    | _ => cases dx with
      | str x => cases x with
        | nil => cases hm
        | cons c r => cases r <;> cases hm
      | _ => cases hm
theorem o_lt (hu : X.A.units < cLine) : OpR X (compareOp .Lt) (rD2 X.K D.lt) := by
  rintro pins s σ H x y v u Q I rx ry ⟨PB, Hs, dx, dy, dz, hs, hx, hy, hg, q⟩
  cases dx <;> cases dy <;> first | (cases hg; done) | skip
  case int.int i j =>
    cases hg
    rw [hx.int] at rx; rw [hy.int] at ry
    exact op_lt pins s σ H _ _ v u Q I rx ry ⟨_, _, rfl, rfl, q _ Hs H (.refl hs) (.bl _)⟩
  case str.str a b =>
    cases hg
    obtain ⟨e1, _⟩ := hx.str
    obtain ⟨e2, _⟩ := hy.str
    rw [e1] at rx; rw [e2] at ry
    refine op_lt_str pins s σ H _ _ v u Q I rx ry ⟨_, _, rfl, rfl, ?_⟩
    have := q _ Hs H (.refl hs) (.bl _)
    rw [strLt_iff] at this
    exact this
  case tup.tup a b =>
    dsimp only [D.lt] at hg
    cases e1 : intsOf a with
    | none => rw [e1] at hg; cases hg
    | some ns =>
      cases e2 : intsOf b with
      | none => rw [e1, e2] at hg; cases hg
      | some ms =>
        rw [e1, e2] at hg
        cases hg
        obtain ⟨p1, vs1, f1, h1, i1, _⟩ := hx.tup hs
        obtain ⟨p2, vs2, f2, h2, i2, _⟩ := hy.tup hs
        rw [intsOf_eq e1] at i1
        rw [intsOf_eq e2] at i2
        rw [i1.intsOf] at h1
        rw [i2.intsOf] at h2
        rw [f1] at rx; rw [f2] at ry
        refine op_ltT hu pins s σ H _ _ v u Q I rx ry ⟨_, _, ns, ms, rfl, rfl, h1, h2, ?_⟩
        rw [lexLt_eq]
        exact q _ Hs H (.refl hs) (.bl _)
theorem o_le : OpR X (compareOp .LtE) (rD2 X.K D.le) := by
  rintro pins s σ H x y v u Q I rx ry ⟨PB, Hs, dx, dy, dz, hs, hx, hy, hg, q⟩
  cases dx <;> cases dy <;> first | (cases hg; done) | skip
  case int.int i j =>
    cases hg
    rw [hx.int] at rx; rw [hy.int] at ry
    exact op_le pins s σ H _ _ v u Q I rx ry ⟨_, _, rfl, rfl, q _ Hs H (.refl hs) (.bl _)⟩
  case str.str a b =>
    cases hg
    obtain ⟨e1, _⟩ := hx.str
    obtain ⟨e2, _⟩ := hy.str
    rw [e1] at rx; rw [e2] at ry
    refine op_le_str pins s σ H _ _ v u Q I rx ry ⟨_, _, rfl, rfl, ?_⟩
    have := q _ Hs H (.refl hs) (.bl _)
    rw [strLt_iff] at this
    exact this
theorem o_gt : OpR X (compareOp .Gt) (rD2 X.K D.gt) := by
  rintro pins s σ H x y v u Q I rx ry ⟨PB, Hs, dx, dy, dz, hs, hx, hy, hg, q⟩
  cases dx <;> cases dy <;> first | (cases hg; done) | skip
  case int.int i j =>
    cases hg
    rw [hx.int] at rx; rw [hy.int] at ry
    exact op_gt pins s σ H _ _ v u Q I rx ry ⟨_, _, rfl, rfl, q _ Hs H (.refl hs) (.bl _)⟩
  case str.str a b =>
    cases hg
    obtain ⟨e1, _⟩ := hx.str
    obtain ⟨e2, _⟩ := hy.str
    rw [e1] at rx; rw [e2] at ry
    refine op_gt_str pins s σ H _ _ v u Q I rx ry ⟨_, _, rfl, rfl, ?_⟩
    have := q _ Hs H (.refl hs) (.bl _)
    rw [strLt_iff] at this
    exact this
theorem o_ge : OpR X (compareOp .GtE) (rD2 X.K D.ge) := by
  rintro pins s σ H x y v u Q I rx ry ⟨PB, Hs, dx, dy, dz, hs, hx, hy, hg, q⟩
  cases dx <;> cases dy <;> first | (cases hg; done) | skip
  case int.int i j =>
    cases hg
    rw [hx.int] at rx; rw [hy.int] at ry
    exact op_ge pins s σ H _ _ v u Q I rx ry ⟨_, _, rfl, rfl, q _ Hs H (.refl hs) (.bl _)⟩
  case str.str a b =>
    cases hg
    obtain ⟨e1, _⟩ := hx.str
    obtain ⟨e2, _⟩ := hy.str
    rw [e1] at rx; rw [e2] at ry
    refine op_ge_str pins s σ H _ _ v u Q I rx ry ⟨_, _, rfl, rfl, ?_⟩
    have := q _ Hs H (.refl hs) (.bl _)
    rw [strLt_iff] at this
    exact this
theorem isNon_eq {PB : List Addr} {Hs H : Hp} {x : V} {d : D} (h : IsB X.K PB Hs H x d) : decide (x = V.non) = d.isNon := by
  rcases h with h | ⟨p, vs, ds, rfl, rfl, _⟩
  · cases h <;> rfl
  · rfl
theorem o_is : OpR X (compareOp .Is) (rD2 X.K D.is) := by
  rintro pins s σ H x y v u Q I rx ry ⟨PB, Hs, dx, dy, dz, hs, hx, hy, hg, q⟩
  cases dy with
  | non =>
    have e : dz = .bl dx.isNon := by cases dx <;> (cases hg; rfl)
    subst e
    rw [hy.non] at ry
    refine op_isN pins s σ H x _ v u Q I rx ry ⟨rfl, ?_⟩
    rw [isNon_eq hx]
    exact q _ Hs H (.refl hs) (.bl _)
  | bl b =>
    cases dx with
    | bl a =>
      cases hg
      rw [hx.bl] at rx; rw [hy.bl] at ry
      refine op_isBl pins s σ H _ _ v u Q I rx ry ⟨a, b, rfl, rfl, ?_⟩
      have := q _ Hs H (.refl hs) (.bl _)
      rw [Bool.beq_eq_decide_eq] at this
      exact this
    | _ => cases hg
  | _ => cases dx <;> cases hg
theorem o_isNot : OpR X (compareOp .IsNot) (rD2 X.K D.isNot) := by
  rintro pins s σ H x y v u Q I rx ry ⟨PB, Hs, dx, dy, dz, hs, hx, hy, hg, q⟩
  cases dy with
  | non =>
    have e : dz = .bl (!dx.isNon) := by cases dx <;> (cases hg; rfl)
    subst e
    rw [hy.non] at ry
    refine op_notN pins s σ H x _ v u Q I rx ry ⟨rfl, ?_⟩
    rw [isNon_eq hx]
    exact q _ Hs H (.refl hs) (.bl _)
  | bl b =>
    cases dx with
    | bl a =>
      cases hg
      rw [hx.bl] at rx; rw [hy.bl] at ry
      refine op_notBl pins s σ H _ _ v u Q I rx ry ⟨a, b, rfl, rfl, ?_⟩
      have := q _ Hs H (.refl hs) (.bl _)
      rw [Bool.beq_eq_decide_eq] at this
      exact this
    | _ => cases hg
  | _ => cases dx <;> cases hg
/-! items, slices -/
theorem atD_mem {α : Type} {xs : List α} {i : Int} {c : α} (h : atD xs i = some c) : c ∈ xs := by
  unfold atD at h
  cases q : ixN xs.length i with
  | none => rw [q] at h; cases h
  | some j => rw [q] at h; exact List.mem_of_getElem? h
theorem o_ix : IxR X (rD2 X.K D.ix) := by
  rintro value slice pins s σ H x y v u Q I rx ry ⟨PB, Hs, dx, dy, dz, hs, hx, hy, hg, q⟩ hsub
  cases dy with
  | int i =>
    rw [hy.int] at ry
    cases dx with
    | lst ds =>
      obtain ⟨p1, vs1, e1, h1, i1, l1⟩ := hx.lst hs
      rw [e1] at rx
      obtain ⟨z, hz, iz⟩ := i1.at (i := i) hg
      exact ix_list value slice pins s σ H _ _ v u Q I rx ry ⟨_, _, i, z, rfl, rfl, SqL.of h1, hz, q z Hs H (.refl hs) iz⟩ hsub
    | tup ds =>
      obtain ⟨p1, vs1, e1, h1, i1, l1⟩ := hx.tup hs
      rw [e1] at rx
      obtain ⟨z, hz, iz⟩ := i1.at (i := i) hg
      exact ix_tup value slice pins s σ H _ _ v u Q I rx ry ⟨_, _, i, z, rfl, rfl, h1, hz, q z Hs H (.refl hs) iz⟩ hsub
    | str a =>
      obtain ⟨e1, t1⟩ := hx.str
      rw [e1] at rx
      dsimp only [D.ix] at hg
      cases e : atD a i with
      | none => rw [e] at hg; cases hg
      | some c =>
        rw [e] at hg
        cases hg
        exact ix_str value slice pins s σ H _ _ v u Q I rx ry ⟨_, i, c, rfl, rfl, by rw [str_len]; exact lim_line t1.1, e, q _ Hs H (.refl hs) (.str [c] (tx_one t1 (atD_mem e)))⟩ hsub
    | _ => cases hg
  | _ => cases dx <;> cases hg
def rDSl (K : PySem.W.Frag) : V → Option Int → Option Int → Hp → VK → Prop := fun x lo hi H Q => ∃ PB Hs dx dz, Same Hs H ∧ IsB K PB Hs H x dx ∧ dx.sl lo hi = some dz ∧ ∀ z Hs2 H2, Tr [] Hs H Hs2 H2 → Is K Hs2 z dz → Q z H2
theorem tx_cut {x : List Nat} (h : TX x) (lo hi : Option Int) : TX (cut x lo hi) := tx_sub h (cut_len _ _ _) fun _ => cut_mem
theorem cutS_eq (x : List Nat) (lo hi : Option Int) : cutS ⟨x.toArray⟩ lo hi = ⟨(cut x lo hi).toArray⟩ := by
  unfold cutS cut
  rw [str_len, sIx_eq, sIx_eq]
theorem cut_whole {α : Type} {xs : List α} {lo hi : Option Int} (h : HT.sIx xs.length 0 lo = 0 ∧ HT.sIx xs.length xs.length hi = xs.length) : cut xs lo hi = xs := by
  unfold cut
  rw [← sIx_eq, ← sIx_eq, h.1, h.2]
  simp
theorem o_sl : SlR X (rDSl X.K) := by
  rintro pins s σ H x v vl vu lo hi sl Q I rx hsl pl pu ⟨PB, Hs, dx, dz, hs, hx, hg, q⟩
  cases dx with
  | str a =>
    cases hg
    obtain ⟨e1, t1⟩ := hx.str
    rw [e1] at rx
    refine sl_str pins s σ H _ v vl vu lo hi sl Q I rx hsl pl pu ⟨_, rfl, by rw [str_len]; exact lim_line t1.1, ?_⟩
    rw [cutS_eq]
    exact q _ Hs H (.refl hs) (.str _ (tx_cut t1 lo hi))
  | lst ds =>
    cases hg
    obtain ⟨p1, vs1, e1, h1, i1, l1⟩ := hx.lst hs
    rw [e1] at rx
    refine sl_list pins s σ H _ v vl vu lo hi sl Q I rx hsl pl pu ⟨_, _, rfl, SqL.of h1, fun p hp => ?_⟩
    obtain ⟨t, i⟩ := new_lst (K := X.K) (PB := []) hs hp (i1.cut lo hi) (Nat.le_trans (cut_len _ _ _) l1)
    exact q _ _ _ t i
  | tup ds =>
    cases hg
    obtain ⟨p1, vs1, e1, h1, i1, l1⟩ := hx.tup hs
    rw [e1] at rx
    refine sl_tupA pins s σ H _ v vl vu lo hi sl Q I rx hsl pl pu ⟨_, _, rfl, h1, fun hw => ?_, fun hw p hp => ?_⟩
    · rw [i1.len] at hw
      rw [cut_whole hw] at q
      rcases hx with hx | ⟨_, _, _, e, _⟩
      · rw [e1] at hx
        exact q _ Hs H (.refl hs) hx
      · cases e
    · obtain ⟨t, i⟩ := new_tup (K := X.K) (PB := []) hs hp (i1.cut lo hi) (Nat.le_trans (cut_len _ _ _) l1)
      exact q _ _ _ t i
  | _ => cases hg
end
/-! ### parts of slices -/
def SnO (K : PySem.W.Frag) (EX : Exn → Hp → Prop) (t : TO) (f : DenO) : Prop := ∀ PB Hs H σ ρ S Q, EnvIs K PB Hs H σ ρ → BoxIs PB Hs H S → Same Hs H → Post EX PB Hs H (fun _ _ (o : Option Int) (o' : Option Int) => o = o') Q (f ρ S) → t σ H Q
structure QO (K : PySem.W.Frag) (X : Cx) (EX : Exn → Hp → Prop) (e : Option Expr) (t : TO) (f : DenO) : Prop where
  po : PO X e t
  sn : SnO K EX t f
section
variable {K : PySem.W.Frag} {EX : Exn → Hp → Prop} {ta tb tc : TE} {fa fb fc : Den} {tA tB : TT} {gA gB : DenT} {tr : TA} {fr : DenL}
theorem sn_oNo : SnO K EX tNoPart oNo := fun PB Hs H σ ρ S Q e b s p => p none Hs H (.refl s) b rfl
theorem sn_oSome (h : SnE K EX ta fa) : SnO K EX (tPart ta) (oSome fa) := fun PB Hs H σ ρ S Q e b s p =>
  h PB Hs H σ ρ S _ e b s (p.bind fun d S1 v Hs1 H1 t1 b1 r1 p1 => by
    cases d with
    | int i => exact ⟨i, (show IsB K PB Hs1 H1 v (.int i) from .inl r1).int, p1 _ Hs1 H1 (.refl t1.sub) b1 rfl⟩
    | _ => exact False.elim p1)
theorem sn_sl {tl th : TO} {fl fh : DenO} (ha : SnB K EX ta fa) (hl : SnO K EX tl fl) (hh : SnO K EX th fh) : SnE K EX (tSl (rDSl K) ta tl th) (eSl fa fl fh) := fun PB Hs H σ ρ S Q e b s p =>
  ha PB Hs H σ ρ S _ e b s (p.bind fun d S1 v Hs1 H1 t1 b1 r1 p1 =>
    hl PB Hs1 H1 σ ρ S1 _ (e.tr t1) b1 t1.sub (p1.bind fun o S2 o' Hs2 H2 t2 b2 r2 p2 =>
      hh PB Hs2 H2 σ ρ S2 _ ((e.tr t1).tr t2) b2 t2.sub (p2.bind fun u S3 u' Hs3 H3 t3 b3 r3 p3 => by
        subst r2 r3
        obtain ⟨dz, hz, p4⟩ := p3.of1
        exact ⟨PB, Hs3, d, dz, t3.sub, (r1.tr t2).tr t3, hz, fun z Hs4 H4 t4 i4 => p4 z Hs4 H4 t4.wide (b3.tr t4) i4⟩)))
end
end DN

set_option Elab.async false
set_option linter.all false
set_option maxRecDepth 100000
namespace DN
open PySem L2
/-! ### tests, truth, and, or, not, if else -/
section
variable {K : PySem.W.Frag} {EX : Exn → Hp → Prop} {ta tb tc : TE} {fa fb fc : Den} {tA tB' : TT} {gA gB : DenT} {tr : TA} {fr : DenL}
theorem truV {PB : List Addr} {Hs H : Hp} {x : V} {d : D} (h : IsB K PB Hs H x d) (s : Same Hs H) : TruV K x H d.truth := by
  have n := h.now s
  cases n with
  | non => rfl
  | bl b => rfl
  | int i => rfl
  | str x hx =>
    refine ⟨by rw [str_len]; exact lim_line hx.1, ?_⟩
    rw [str_len]
    cases x with
    | nil => rfl
    | cons c r =>
      show (!false) = _
      have : ((((c :: r).length : Nat) : Int) != 0) = true := by
        rw [bne_iff_ne, List.length_cons]; omega
      rw [this]; rfl
  | tup h1 h2 h3 => exact .inr (.inl ⟨_, h1, by cases h2 <;> rfl⟩)
  | lst h1 h2 h3 => exact .inl ⟨_, SqL.of h1, by cases h2 <;> rfl⟩
theorem sn_tval (h : SnE K EX ta fa) : SnT K EX (tB ta) (tVal fa) := fun PB Hs H σ ρ S Q e b s p =>
  h PB Hs H σ ρ S _ e b s (p.bind fun d S1 v Hs1 H1 t1 b1 r1 p1 => by
    cases d with
    | bl k => cases r1; exact ⟨k, rfl, p1 k Hs1 H1 (.refl t1.sub) b1 rfl⟩
    | _ => exact False.elim p1)
theorem sn_ttest (h : SnE K EX ta fa) : SnT K EX (L2.tTest ta) (tVal fa) := sn_tval h
theorem sn_ttruth (h : SnB K EX ta fa) : SnT K EX (fun σ H Q => ta σ H fun x H' => ∃ k, TruV K x H' k ∧ Q k H') (tTruth fa) := fun PB Hs H σ ρ S Q e b s p =>
  h PB Hs H σ ρ S _ e b s (p.bind fun d S1 v Hs1 H1 t1 b1 r1 p1 => ⟨d.truth, truV r1 t1.sub, p1 _ Hs1 H1 (.refl t1.sub) b1 rfl⟩)
theorem sn_tand (ha : SnT K EX tA gA) (hb : SnT K EX tB' gB) : SnT K EX (L2.tAnd tA tB') (DN.tAnd gA gB) := fun PB Hs H σ ρ S Q e b s p =>
  ha PB Hs H σ ρ S _ e b s (p.bind fun k S1 v Hs1 H1 t1 b1 r1 p1 => by
    subst r1
    cases v with
    | true => exact hb PB Hs1 H1 σ ρ S1 Q (e.tr t1) b1 t1.sub p1
    | false => exact p1 _ Hs1 H1 (.refl t1.sub) b1 rfl)
theorem sn_tor (ha : SnT K EX tA gA) (hb : SnT K EX tB' gB) : SnT K EX (L2.tOr tA tB') (DN.tOr gA gB) := fun PB Hs H σ ρ S Q e b s p =>
  ha PB Hs H σ ρ S _ e b s (p.bind fun k S1 v Hs1 H1 t1 b1 r1 p1 => by
    subst r1
    cases v with
    | false => exact hb PB Hs1 H1 σ ρ S1 Q (e.tr t1) b1 t1.sub p1
    | true => exact p1 _ Hs1 H1 (.refl t1.sub) b1 rfl)
theorem sn_tnot (ha : SnT K EX tA gA) : SnT K EX (L2.tNot tA) (DN.tNot gA) := fun PB Hs H σ ρ S Q e b s p =>
  ha PB Hs H σ ρ S _ e b s (p.bind fun k S1 v Hs1 H1 t1 b1 r1 p1 => by
    subst r1
    exact p1 _ Hs1 H1 (.refl t1.sub) b1 rfl)
theorem sn_tyes : SnT K EX L2.tYes DN.tYes := fun PB Hs H σ ρ S Q e b s p => p true Hs H (.refl s) b rfl
theorem sn_andV (ha : SnE K EX ta fa) (hb : SnE K EX tb fb) : SnE K EX (tAndV ta tb) (eAnd fa fb) := fun PB Hs H σ ρ S Q e b s p =>
  ha PB Hs H σ ρ S _ e b s (p.bind fun d S1 v Hs1 H1 t1 b1 r1 p1 => by
    cases d with
    | bl k =>
      cases r1
      refine ⟨k, rfl, ?_⟩
      cases k with
      | true => exact hb PB Hs1 H1 σ ρ S1 Q (e.tr t1) b1 t1.sub p1
      | false => exact p1 _ Hs1 H1 (.refl t1.sub) b1 (.bl _)
    | _ => exact False.elim p1)
theorem sn_orV (ha : SnE K EX ta fa) (hb : SnE K EX tb fb) : SnE K EX (tOrV ta tb) (eOr fa fb) := fun PB Hs H σ ρ S Q e b s p =>
  ha PB Hs H σ ρ S _ e b s (p.bind fun d S1 v Hs1 H1 t1 b1 r1 p1 => by
    cases d with
    | bl k =>
      cases r1
      refine ⟨k, rfl, ?_⟩
      cases k with
      | false => exact hb PB Hs1 H1 σ ρ S1 Q (e.tr t1) b1 t1.sub p1
      | true => exact p1 _ Hs1 H1 (.refl t1.sub) b1 (.bl _)
    | _ => exact False.elim p1)
theorem sn_notV (ha : SnE K EX ta fa) : SnE K EX (tNotV ta) (eNot fa) := fun PB Hs H σ ρ S Q e b s p =>
  ha PB Hs H σ ρ S _ e b s (p.bind fun d S1 v Hs1 H1 t1 b1 r1 p1 => by
    cases d with
    | bl k => cases r1; exact ⟨k, rfl, p1 _ Hs1 H1 (.refl t1.sub) b1 (.bl _)⟩
    | _ => exact False.elim p1)
theorem sn_notT (ha : SnB K EX ta fa) : SnE K EX (tNotT K ta) (eNotT fa) := fun PB Hs H σ ρ S Q e b s p =>
  ha PB Hs H σ ρ S _ e b s (p.bind fun d S1 v Hs1 H1 t1 b1 r1 p1 => ⟨d.truth, truV r1 t1.sub, p1 _ Hs1 H1 (.refl t1.sub) b1 (.bl _)⟩)
theorem sn_if (hc : SnT K EX tA gA) (ha : SnE K EX ta fa) (hb : SnE K EX tb fb) : SnE K EX (tIf tA ta tb) (eIf gA fa fb) := fun PB Hs H σ ρ S Q e b s p =>
  hc PB Hs H σ ρ S _ e b s (p.bind fun k S1 v Hs1 H1 t1 b1 r1 p1 => by
    subst r1
    cases v with
    | true => exact ha PB Hs1 H1 σ ρ S1 Q (e.tr t1) b1 t1.sub p1
    | false => exact hb PB Hs1 H1 σ ρ S1 Q (e.tr t1) b1 t1.sub p1)
theorem sn_chain {g h : D → D → Option D} (ha : SnB K EX ta fa) (hb : SnB K EX tb fb) (hc : SnB K EX tc fc) : SnE K EX (tChain (rD2 K g) (rD2 K h) ta tb tc) (eChain g h fa fb fc) := fun PB Hs H σ ρ S Q e b s p =>
  ha PB Hs H σ ρ S _ e b s (p.bind fun d S1 v Hs1 H1 t1 b1 r1 p1 =>
    hb PB Hs1 H1 σ ρ S1 _ (e.tr t1) b1 t1.sub (p1.bind fun d' S2 v' Hs2 H2 t2 b2 r2 p2 => by
      obtain ⟨dz, hz, p3⟩ := p2.of
      cases dz with
      | bl k =>
        refine ⟨PB, Hs2, d, d', _, t2.sub, r1.tr t2, r2, hz, fun z Hs3 H3 t3 i3 => ?_⟩
        cases i3
        refine ⟨k, rfl, ?_⟩
        cases k with
        | false => exact p3 _ Hs3 H3 t3.wide (b2.tr t3) (.bl _)
        | true =>
          exact hc PB Hs3 H3 σ ρ S2 _ (((e.tr t1).tr t2).tr t3.wide) (b2.tr t3) t3.sub ((p3.step t3.wide).bind fun d4 S4 v4 Hs4 H4 t4 b4 r4 p4 => by
            obtain ⟨dw, hw, p5⟩ := p4.of1
            exact ⟨PB, Hs4, d', d4, dw, t4.sub, (r2.tr t3.wide).tr t4, r4, hw, fun z Hs5 H5 t5 i5 => p5 z Hs5 H5 t5.wide (b4.tr t5) i5⟩)
      | _ => exact False.elim p3))
end
/-! ### the same with the code they stand for -/
section
variable {X : Cx} {K : PySem.W.Frag} {EX : Exn → Hp → Prop} {a b c : Expr} {ta tb tc : TE} {fa fb fc : Den} {tA tB' : TT} {gA gB : DenT} {tr : TA} {fr : DenL} {pos : Pos} {rest es : List Expr}
theorem QE.toB (h : QE K X EX a ta fa) : QB K X EX a ta fa := ⟨h.pe, h.sn.toB⟩
theorem qv (i : Nat) {x : Str} (hN : X.N[i]? = some x := by rfl) (hv : Vis X.env.scope x := by first | exact Or.inl rfl | exact Or.inr (Or.inl rfl) | exact Or.inr (Or.inr rfl)) (hd : (x == ("__debug__" : Str)) = false := by decide)
    (hcd : (x == ("__classdict__" : Str)) = false := by decide) : QE K X EX (.Name x pos) (tVar i) (eV i) := ⟨pe_var hN hv hd hcd, sn_var⟩
theorem qb (i : Nat) {x : Str} (hN : X.N[i]? = some x := by rfl) (hv : Vis X.env.scope x := by first | exact Or.inl rfl | exact Or.inr (Or.inl rfl) | exact Or.inr (Or.inr rfl)) (hd : (x == ("__debug__" : Str)) = false := by decide)
    (hcd : (x == ("__classdict__" : Str)) = false := by decide) : QB K X EX (.Name x pos) (tVar i) (eB i) := ⟨pe_var hN hv hd hcd, sn_varB⟩
theorem q_int {i : Int} {j : Nat} : QE K X EX (.Constant (.int i) j pos) (tC (.int i)) (eC (.int i)) := ⟨pe_int, sn_c fun _ => .int i⟩
theorem q_bl {k : Bool} {j : Nat} : QE K X EX (.Constant (.bool k) j pos) (tC (.bl k)) (eC (.bl k)) := ⟨pe_bl, sn_c fun _ => .bl k⟩
theorem q_non {j : Nat} : QE K X EX (.Constant .none j pos) (tC .non) (eC .non) := ⟨pe_non, sn_c fun _ => .non⟩
/-- a written text: its codes, shown by rfl -/
theorem tx_all {x : List Nat} (h : (decide (x.length ≤ LIM) && x.all (· < 0x110000)) = true) : TX x := by
  rw [Bool.and_eq_true, decide_eq_true_eq, List.all_eq_true] at h
  exact ⟨h.1, fun c hc => of_decide_eq_true (h.2 c hc)⟩
theorem q_str {x : Str} {j : Nat} (l : List Nat) (h : x = ⟨l.toArray⟩ := by decide +kernel) (h2 : (decide (l.length ≤ LIM) && l.all (· < 0x110000)) = true := by decide +kernel) : QE K X EX (.Constant (.str x) j pos) (tC (.str x)) (eC (.str l)) :=
  ⟨pe_str, sn_c fun _ => by rw [h]; exact .str l (tx_all h2)⟩
/-- a module's constant -/
theorem q_glob {x : Str} {v : V} {u : Value} {d : D} (hg : Gl X x) (hm : X.mg x = some u) (r : RelV v u) (h : ∀ H, Is K H v d) (hd : (x == ("__debug__" : Str)) = false := by decide) : QE K X EX (.Name x pos) (tC v) (eC d) := ⟨pe_glob hg hm r hd, sn_c h⟩
theorem q_op {op : Operator} {g : D → D → Option D} (ho : OpR X (binaryOp op) (rD2 K g)) (ha : QB K X EX a ta fa) (hb : QB K X EX b tb fb) : QE K X EX (.BinOp a op b pos) (tOp (rD2 K g) ta tb) (e2 g fa fb) := ⟨pe_op ho ha.pe hb.pe, sn_op ha.sn hb.sn⟩
theorem q_opL {op : Operator} {g : D → D → Option (List D)} (ho : OpR X (binaryOp op) (rL2 K g)) (ha : QB K X EX a ta fa) (hb : QB K X EX b tb fb) : QL K X EX (.BinOp a op b pos) (tOp (rL2 K g) ta tb) (l2 g fa fb) := ⟨pe_op ho ha.pe hb.pe, sn_l2 ha.sn hb.sn⟩
theorem q_un {op : UnaryOp} {g : D → Option D} (ho : UnR X (unaryOp op) (rD1 K g)) (ha : QB K X EX a ta fa) : QE K X EX (.UnaryOp op a pos) (tUn (rD1 K g) ta) (e1 g fa) := ⟨pe_un ho ha.pe, sn_un ha.sn⟩
theorem q_cmp {op : CmpOp} {g : D → D → Option D} (ho : OpR X (compareOp op) (rD2 K g)) (ha : QB K X EX a ta fa) (hb : QB K X EX b tb fb) (hm : behindInMarks op b = false) : QE K X EX (.Compare a [op] [b] pos) (tOp (rD2 K g) ta tb) (e2 g fa fb) := ⟨pe_cmpR ho ha.pe hb.pe hm, sn_op ha.sn hb.sn⟩
theorem q_tcmp {op : CmpOp} {g : D → D → Option D} (ho : OpR X (compareOp op) (rD2 K g)) (ha : QB K X EX a ta fa) (hb : QB K X EX b tb fb) (hm : behindInMarks op b = false) : QT K X EX (.Compare a [op] [b] pos) (L2.tTest (tOp (rD2 K g) ta tb)) (tVal (e2 g fa fb)) := ⟨pt_cmpR ho ha.pe hb.pe hm, sn_tval (sn_op ha.sn hb.sn)⟩
theorem q_chain {op op' : CmpOp} {g g' : D → D → Option D} (ho : OpR X (compareOp op) (rD2 K g)) (ho' : OpR X (compareOp op') (rD2 K g')) (ha : QB K X EX a ta fa) (hb : QB K X EX b tb fb) (hc : QB K X EX c tc fc) (hm : lastMarks [op, op'] [b, c] = false := by with_unfolding_all rfl) :
    QE K X EX (.Compare a [op, op'] [b, c] pos) (tChain (rD2 K g) (rD2 K g') ta tb tc) (eChain g g' fa fb fc) := ⟨pe_chain ho ho' ha.pe hb.pe hc.pe hm, sn_chain ha.sn hb.sn hc.sn⟩
theorem q_tchain {op op' : CmpOp} {g g' : D → D → Option D} (ho : OpR X (compareOp op) (rD2 K g)) (ho' : OpR X (compareOp op') (rD2 K g')) (ha : QB K X EX a ta fa) (hb : QB K X EX b tb fb) (hc : QB K X EX c tc fc) (hm : lastMarks [op, op'] [b, c] = false := by with_unfolding_all rfl) :
    QT K X EX (.Compare a [op, op'] [b, c] pos) (L2.tTest (tChain (rD2 K g) (rD2 K g') ta tb tc)) (tVal (eChain g g' fa fb fc)) := ⟨pt_chain ho ho' ha.pe hb.pe hc.pe hm, sn_tval (sn_chain ha.sn hb.sn hc.sn)⟩
theorem q_tval (ha : QE K X EX a ta fa) (he : ∀ whole, isTrue a X.env whole = (do let v ← whole; standAt a.pos; holding [v] (truthy v)) := by intro _; rfl) : QT K X EX a (tB ta) (tVal fa) := ⟨pt_val ha.pe he, sn_tval ha.sn⟩
theorem q_ttruth (ha : QB K X EX a ta fa) (he : ∀ whole, isTrue a X.env whole = (do let v ← whole; standAt a.pos; holding [v] (truthy v)) := by intro _; rfl) (hK : X.K = K := by rfl) : QT K X EX a (fun σ H Q => ta σ H fun x H' => ∃ k, TruV K x H' k ∧ Q k H') (tTruth fa) := by
  subst hK
  exact ⟨pt_truth ha.pe he, sn_ttruth ha.sn⟩
structure QW (K : PySem.W.Frag) (X : Cx) (EX : Exn → Hp → Prop) (e : Expr) (t : TT) (f : DenT) : Prop where
  pw : PW X e t
  sn : SnT K EX t f
theorem QW.pt {e : Expr} (h : QW K X EX e tA gA) : QT K X EX e tA gA := ⟨h.pw.pt, h.sn⟩
theorem qw_and1 (ha : QT K X EX a tA gA) : QW K X EX (.BoolOp .And [a] pos) tA gA := ⟨pw_and1 ha.pt, ha.sn⟩
theorem qw_or1 (ha : QT K X EX a tA gA) : QW K X EX (.BoolOp .Or [a] pos) tA gA := ⟨pw_or1 ha.pt, ha.sn⟩
theorem qw_and (ha : QT K X EX a tA gA) (hb : QW K X EX (.BoolOp .And (b :: rest) pos) tB' gB) : QW K X EX (.BoolOp .And (a :: b :: rest) pos) (L2.tAnd tA tB') (DN.tAnd gA gB) := ⟨pw_and ha.pt hb.pw, sn_tand ha.sn hb.sn⟩
theorem qw_or (ha : QT K X EX a tA gA) (hb : QW K X EX (.BoolOp .Or (b :: rest) pos) tB' gB) : QW K X EX (.BoolOp .Or (a :: b :: rest) pos) (L2.tOr tA tB') (DN.tOr gA gB) := ⟨pw_or ha.pt hb.pw, sn_tor ha.sn hb.sn⟩
theorem q_tnot (ha : QT K X EX a tA gA) : QT K X EX (.UnaryOp .Not a pos) (L2.tNot tA) (DN.tNot gA) := ⟨pt_not ha.pt, sn_tnot ha.sn⟩
theorem q_one {op : BoolOp} (h : QE K X EX a ta fa) : QE K X EX (.BoolOp op [a] pos) ta fa := ⟨pe_one h.pe, h.sn⟩
theorem q_and (ha : QE K X EX a ta fa) (hb : QE K X EX (.BoolOp .And (b :: rest) pos) tb fb) : QE K X EX (.BoolOp .And (a :: b :: rest) pos) (tAndV ta tb) (eAnd fa fb) := ⟨pe_and ha.pe hb.pe, sn_andV ha.sn hb.sn⟩
theorem q_or (ha : QE K X EX a ta fa) (hb : QE K X EX (.BoolOp .Or (b :: rest) pos) tb fb) : QE K X EX (.BoolOp .Or (a :: b :: rest) pos) (tOrV ta tb) (eOr fa fb) := ⟨pe_or ha.pe hb.pe, sn_orV ha.sn hb.sn⟩
theorem q_not (ha : QE K X EX a ta fa) : QE K X EX (.UnaryOp .Not a pos) (tNotV ta) (eNot fa) := ⟨pe_not ha.pe, sn_notV ha.sn⟩
theorem q_notT (ha : QB K X EX a ta fa) (hK : X.K = K := by rfl) : QE K X EX (.UnaryOp .Not a pos) (tNotT K ta) (eNotT fa) := by
  subst hK
  exact ⟨pe_notT ha.pe, sn_notT ha.sn⟩
theorem q_if (hc : QT K X EX c tA gA) (ha : QE K X EX a ta fa) (hb : QE K X EX b tb fb) : QE K X EX (.IfExp c a b pos) (tIf tA ta tb) (eIf gA fa fb) := ⟨pe_ifExp hc.pt ha.pe hb.pe, sn_if hc.sn ha.sn hb.sn⟩
theorem qa_nil : QA K X EX [] tNil aNil := ⟨pa_nil, sn_nil⟩
theorem qa_cons (ha : QE K X EX a ta fa) (hr : QA K X EX es tr fr) (hs : starEach (a :: es) X.env = (false, eval a X.env) :: starEach es X.env := by rfl) : QA K X EX (a :: es) (tCons ta tr) (aCons fa fr) := ⟨pa_cons ha.pe hr.pa hs, sn_cons ha.sn hr.sn⟩
theorem qab_nil : QAB K X EX [] tNil aNil := ⟨pa_nil, sn_nilB⟩
theorem qab_cons (ha : QB K X EX a ta fa) (hr : QAB K X EX es tr fr) (hs : starEach (a :: es) X.env = (false, eval a X.env) :: starEach es X.env := by rfl) : QAB K X EX (a :: es) (tCons ta tr) (aCons fa fr) := ⟨pa_cons ha.pe hr.pa hs, sn_consB ha.sn hr.sn⟩
theorem q_tup {k : Nat} (h : QA K X EX es tr fr) : QE K X EX (.Tuple es k pos) (tTup tr) (eTup fr) := ⟨pe_tup h.pa, sn_tup h.sn⟩
theorem q_lst (h : QA K X EX es tr fr) : QE K X EX (.List es pos) (tLst tr) (eLst fr) := ⟨pe_lst h.pa, sn_lst h.sn⟩
theorem q_ix (ha : QB K X EX a ta fa) (hb : QB K X EX b tb fb) (hs : PlainIx b) (hK : X.K = K := by rfl) : QE K X EX (.Subscript a b pos) (tOp (rD2 K D.ix) ta tb) (e2 D.ix fa fb) := by
  subst hK
  exact ⟨pe_ix o_ix ha.pe hb.pe hs, sn_op ha.sn hb.sn⟩
theorem qo_no : QO K X EX none tNoPart oNo := ⟨po_none, sn_oNo⟩
theorem qo_some (h : QE K X EX a ta fa) : QO K X EX (some a) (tPart ta) (oSome fa) := ⟨po_some h.pe, sn_oSome h.sn⟩
theorem q_sl {lo hi : Option Expr} {tl th : TO} {fl fh : DenO} {p2 : Pos} (ha : QB K X EX a ta fa) (hl : QO K X EX lo tl fl) (hh : QO K X EX hi th fh) (hK : X.K = K := by rfl) : QE K X EX (.Subscript a (.Slice lo hi none p2) pos) (tSl (rDSl K) ta tl th) (eSl fa fl fh) := by
  subst hK
  exact ⟨pe_slice o_sl ha.pe hl.po hh.po, sn_sl ha.sn hl.sn hh.sn⟩
end
end DN

set_option Elab.async false
set_option linter.all false
set_option maxRecDepth 100000
namespace DN
open PySem L2 PySem.Spec PyProof.Rows
/-! ### isinstance(x, T), T a built-in class -/
theorem isT_ty {K : PySem.W.Frag} {H : Hp} {v : V} {d : D} (h : Is K H v d) : ∃ T, TyX K H v (.type T) ∧ (match d with | .non => T = "NoneType" | .bl _ => T = "bool" | .int _ => T = "int" | .str _ => T = "str" | .tup _ => T = "tuple" | .lst _ => T = "list") := by
  cases h with
  | non => exact ⟨_, .base .non, rfl⟩
  | bl b => exact ⟨_, .base (.bl b), rfl⟩
  | int i => exact ⟨_, .base (.int i), rfl⟩
  | str x _ => exact ⟨_, .base (.str _), rfl⟩
  | tup h1 _ _ =>
    rcases h1 with (h | ⟨o, h⟩) | ⟨o, its, n, hk, hc, _⟩
    · exact ⟨_, .base (.tup h), rfl⟩
    · exact ⟨_, .fTuple h, rfl⟩
    · exact ⟨_, .kTuple hk hc, rfl⟩
  | lst h1 _ _ => exact ⟨_, .base (.lst h1), rfl⟩
/-- what the six kinds answer -/
def kitAll (T : String) : Bool := kitB "NoneType" T == some (D.isTy T .non) && kitB "bool" T == some (D.isTy T (.bl true)) && kitB "int" T == some (D.isTy T (.int 0)) && kitB "str" T == some (D.isTy T (.str [])) && kitB "tuple" T == some (D.isTy T (.tup [])) && kitB "list" T == some (D.isTy T (.lst []))
theorem kit_int : kitAll "int" = true := by decide +kernel
theorem kit_bool : kitAll "bool" = true := by decide +kernel
theorem kit_str : kitAll "str" = true := by decide +kernel
theorem kit_tuple : kitAll "tuple" = true := by decide +kernel
theorem kit_list : kitAll "list" = true := by decide +kernel
theorem kit_d {T : String} (h : kitAll T = true) {K : PySem.W.Frag} {H : Hp} {v : V} {d : D} (i : Is K H v d) : ∃ t, TyX K H v t ∧ PySem.W.kitOne K t (.type T) = some (d.isTy T) := by
  obtain ⟨T', ty, e⟩ := isT_ty i
  simp only [kitAll, Bool.and_eq_true, beq_iff_eq] at h
  obtain ⟨⟨⟨⟨⟨h1, h2⟩, h3⟩, h4⟩, h5⟩, h6⟩ := h
  refine ⟨_, ty, kit_ty ?_⟩
  cases d with
  | non => rw [e]; exact h1
  | bl b => rw [e]; exact h2
  | int b => rw [e]; exact h3
  | str b => rw [e]; exact h4
  | tup b => rw [e]; exact h5
  | lst b => rw [e]; exact h6
section
variable {K : PySem.W.Frag} {EX : Exn → Hp → Prop} {ta tb tc : TE} {fa fb fc : Den} {tA tB' : TT} {gA gB : DenT} {tr : TA} {fr : DenL}
theorem sn_isi {T : String} (hT : kitAll T = true) (ha : SnB K EX ta fa) : SnE K EX (tCB (rIsi K) (tCons ta (tCons (tC (.ty T)) tNil))) (e1 (D.isi T) fa) := fun PB Hs H σ ρ S Q e b s p =>
  ha PB Hs H σ ρ S _ e b s (p.bind fun d S1 v Hs1 H1 t1 b1 r1 p1 => by
    obtain ⟨t, ty, k⟩ := kit_d hT (r1.now t1.sub)
    exact ⟨v, .ty T, t, .type T, d.isTy T, rfl, .ty T, ty, k, p1 _ Hs1 H1 (.refl t1.sub) b1 (.bl _)⟩)
end
section
variable {X : Cx}
theorem ibs_one {K : PySem.W.Frag} {PB : List Addr} {Hs H : Hp} {xs : List V} {d : D} (h : IsBs K PB Hs H xs [d]) : ∃ x, xs = [x] ∧ IsB K PB Hs H x d := by
  cases h with
  | cons h1 h2 => cases h2; exact ⟨_, rfl, h1⟩
theorem ibs_two {K : PySem.W.Frag} {PB : List Addr} {Hs H : Hp} {xs : List V} {d d' : D} (h : IsBs K PB Hs H xs [d, d']) : ∃ x y, xs = [x, y] ∧ IsB K PB Hs H x d ∧ IsB K PB Hs H y d' := by
  cases h with
  | cons h1 h2 =>
    cases h2 with
    | cons h3 h4 => cases h4; exact ⟨_, _, rfl, h1, h3⟩
theorem c_len : CallR X (.builtin "len") (rDC X.K bLen) := by
  rintro pins s σ H xs us Q I rx ⟨PB, Hs, ds, dz, hs, hx, hg, q⟩
  match ds, hg with
  | [d], hg =>
    obtain ⟨x, rfl, hd⟩ := ibs_one hx
    have n := hd.now hs
    refine call_len pins s σ H _ us Q I rx ?_
    cases n with
    | str y hy => cases hg; exact ⟨_, y.length, rfl, ⟨by rw [str_len]; exact lim_line hy.1, by rw [str_len]⟩, q _ Hs H (.refl hs) (.int _)⟩
    | tup h1 h2 h3 => cases hg; exact ⟨_, _, rfl, .inr ⟨_, h1, h2.len.symm⟩, q _ Hs H (.refl hs) (.int _)⟩
    | lst h1 h2 h3 => cases hg; exact ⟨_, _, rfl, .inl ⟨_, SqL.of h1, h2.len.symm⟩, q _ Hs H (.refl hs) (.int _)⟩
    | _ => cases hg
theorem c_abs : CallR X (.builtin "abs") (rDC X.K bAbs) := by
  rintro pins s σ H xs us Q I rx ⟨PB, Hs, ds, dz, hs, hx, hg, q⟩
  match ds, hg with
  | [.int i], hg =>
    obtain ⟨x, rfl, hd⟩ := ibs_one hx
    cases hg
    rw [hd.int] at rx
    exact call_abs pins s σ H _ us Q I rx ⟨i, rfl, q _ Hs H (.refl hs) (.int _)⟩
theorem c_max2 (hc : X.calm = true) : CallR X (.builtin "max") (rDC X.K bMax2) := by
  rintro pins s σ H xs us Q I rx ⟨PB, Hs, ds, dz, hs, hx, hg, q⟩
  match ds, hg with
  | [.int i, .int j], hg =>
    obtain ⟨x, y, rfl, hd, hd'⟩ := ibs_two hx
    cases hg
    rw [hd.int, hd'.int] at rx
    exact call_max2 hc pins s σ H _ us Q I rx ⟨i, j, rfl, q _ Hs H (.refl hs) (.int _)⟩
theorem c_min2 (hc : X.calm = true) : CallR X (.builtin "min") (rDC X.K bMin2) := by
  rintro pins s σ H xs us Q I rx ⟨PB, Hs, ds, dz, hs, hx, hg, q⟩
  match ds, hg with
  | [.int i, .int j], hg =>
    obtain ⟨x, y, rfl, hd, hd'⟩ := ibs_two hx
    cases hg
    rw [hd.int, hd'.int] at rx
    exact call_min2 hc pins s σ H _ us Q I rx ⟨i, j, rfl, q _ Hs H (.refl hs) (.int _)⟩
theorem c_int : CallR X (.type "int") (rDC X.K bInt) := by
  rintro pins s σ H xs us Q I rx ⟨PB, Hs, ds, dz, hs, hx, hg, q⟩
  match ds, hg with
  | [.int i], hg =>
    obtain ⟨x, rfl, hd⟩ := ibs_one hx
    cases hg
    rw [hd.int] at rx
    exact call_int1 pins s σ H _ us Q I rx (.inl ⟨i, rfl, q _ Hs H (.refl hs) (.int _)⟩)
  | [.bl i], hg =>
    obtain ⟨x, rfl, hd⟩ := ibs_one hx
    cases hg
    rw [hd.bl] at rx
    exact call_int1 pins s σ H _ us Q I rx (.inr ⟨i, rfl, q _ Hs H (.refl hs) (.int _)⟩)
open TL in
theorem figs_tl (i : Int) : figs i = TL.tl (Str.ofString (toString i)) := (TL.tl_ofString _).symm
theorem figs_nat (n : Nat) : figs (n : Int) = TL.numL n := by rw [figs_tl, TL.tl_num]
theorem figs_neg (n : Nat) : figs (Int.negSucc n) = 45 :: TL.numL (n + 1) := by
  rw [← figs_nat]
  unfold figs
  have e : toString (Int.negSucc n) = "-" ++ toString (((n + 1 : Nat) : Int)) := rfl
  rw [e, String.toList_append, List.map_append]
  rfl
theorem figs_len {i : Int} (h : i.natAbs < 10 ^ 100) : (figs i).length ≤ 101 := by
  cases i with
  | ofNat n =>
    rw [show figs (Int.ofNat n) = TL.numL n from figs_nat n]
    exact Nat.le_succ_of_le (TL.numL_len (by decide) h)
  | negSucc n =>
    rw [figs_neg, List.length_cons]
    exact Nat.succ_le_succ (TL.numL_len (by decide) h)
theorem figs_tx {i : Int} (h : i.natAbs < 10 ^ 100) : TX (figs i) := by
  refine ⟨Nat.le_trans (figs_len h) (by decide), fun c hc => ?_⟩
  unfold figs at hc
  obtain ⟨d, _, rfl⟩ := List.mem_map.mp hc
  have := d.valid
  simp only [UInt32.isValidChar, Nat.isValidChar] at this
  show d.val.toNat < _
  omega
theorem c_str : CallR X (.type "str") (rDC X.K bStr) := by
  rintro pins s σ H xs us Q I rx ⟨PB, Hs, ds, dz, hs, hx, hg, q⟩
  match ds, hg with
  | [.int i], hg =>
    obtain ⟨x, rfl, hd⟩ := ibs_one hx
    dsimp only [bStr] at hg
    by_cases hc : i.natAbs < 10 ^ 100
    · rw [if_pos hc] at hg
      cases hg
      rw [hd.int] at rx
      have hl : i.natAbs.log2 < 1920 := by
        by_cases h0 : i.natAbs = 0
        · rw [h0]; decide
        · exact (Nat.log2_lt h0).mpr (Nat.lt_trans hc (by decide))
      refine call_str_int pins s σ H _ us Q I rx ⟨i, rfl, hl, ?_⟩
      have e : (Str.ofString (toString i)) = ⟨(figs i).toArray⟩ := by
        rw [Str.ofString_eq_toList]
        rfl
      show Q (.str (Str.ofString (toString i))) H
      rw [e]
      exact q _ Hs H (.refl hs) (.str _ (figs_tx hc))
    · rw [if_neg hc] at hg; cases hg
theorem maxL_mem : ∀ (r : List Int) (x : Int), (r.foldl (fun m y => if y > m then y else m) x) ∈ x :: r ∧ ∀ y ∈ x :: r, y ≤ r.foldl (fun m y => if y > m then y else m) x
  | [], x => by simp
  | y :: r, x => by
    obtain ⟨h1, h2⟩ := maxL_mem r (if y > x then y else x)
    rw [List.foldl_cons]
    refine ⟨?_, fun z hz => ?_⟩
    · rcases List.mem_cons.mp h1 with h | h
      · rw [h]; split <;> simp
      · simp [h]
    · have h3 := h2 (if y > x then y else x) (List.mem_cons_self)
      rcases List.mem_cons.mp hz with rfl | hz
      · split at h3 <;> (split <;> omega)
      · rcases List.mem_cons.mp hz with rfl | hz
        · split at h3 <;> (split <;> omega)
        · exact h2 z (List.mem_cons_of_mem _ hz)
theorem minL_mem : ∀ (r : List Int) (x : Int), (r.foldl (fun m y => if y < m then y else m) x) ∈ x :: r ∧ ∀ y ∈ x :: r, r.foldl (fun m y => if y < m then y else m) x ≤ y
  | [], x => by simp
  | y :: r, x => by
    obtain ⟨h1, h2⟩ := minL_mem r (if y < x then y else x)
    rw [List.foldl_cons]
    refine ⟨?_, fun z hz => ?_⟩
    · rcases List.mem_cons.mp h1 with h | h
      · rw [h]; split <;> simp
      · simp [h]
    · have h3 := h2 (if y < x then y else x) (List.mem_cons_self)
      rcases List.mem_cons.mp hz with rfl | hz
      · split at h3 <;> (split <;> omega)
      · rcases List.mem_cons.mp hz with rfl | hz
        · split at h3 <;> (split <;> omega)
        · exact h2 z (List.mem_cons_of_mem _ hz)
/-- a list of ints, read -/
theorem ints_at {K : PySem.W.Frag} {PB : List Addr} {Hs H : Hp} {v : V} {d : D} {ns : List Int} (h : IsB K PB Hs H v d) (hs : Same Hs H) (e : d.intsL = some ns) : ∃ p, v = .ref p ∧ SqL K H p (ns.map V.int) := by
  cases d with
  | lst ds =>
    obtain ⟨p, vs, e1, h1, i1, _⟩ := h.lst hs
    rw [intsOf_eq e] at i1
    rw [i1.intsOf] at h1
    exact ⟨p, e1, SqL.of h1⟩
  | _ => cases e
/-- .. or a tuple -/
theorem ints_atT {K : PySem.W.Frag} {PB : List Addr} {Hs H : Hp} {v : V} {d : D} {ns : List Int} (h : IsB K PB Hs H v d) (hs : Same Hs H) (e : d.intsLT = some ns) : ∃ p, v = .ref p ∧ (SqL K H p (ns.map V.int) ∨ SqT K H p (ns.map V.int)) := by
  cases d with
  | lst ds =>
    obtain ⟨p, e1, h1⟩ := ints_at (ns := ns) h hs e
    exact ⟨p, e1, .inl h1⟩
  | tup ds =>
    obtain ⟨p, vs, e1, h1, i1, _⟩ := h.tup hs
    rw [intsOf_eq e] at i1
    rw [i1.intsOf] at h1
    exact ⟨p, e1, .inr h1⟩
  | _ => cases e
section
variable {prog : Program} {w : World} {A : Around} {E : Value → Shared → Prop} {s : Shared} {l : Addr}
theorem tup_kept {s : Shared} {l : Addr} {h' : Heap} (hk : ∀ b o, b ∉ [s.heap.objs.size] → (s.heap.push { cls := .type "tuple_iterator", data := .fields #[.ref l, .int 0 0] }).get? b = some o → h'.get? b = some o) :
    ∀ b o, s.heap.get? b = some o → h'.get? b = some o := fun b o e => by
  refine hk b o (fun hm => ?_) (Heap.get?_push_of_some _ e)
  rcases List.mem_cons.mp hm with e1 | hm
  · exact absurd (e1 ▸ Heap.lt_size e) (Nat.lt_irrefl _)
  · cases hm
theorem tup_fp {s : Shared} {l : Addr} {o : Obj} (hlt : l < s.heap.objs.size) : ∀ b ∈ [s.heap.objs.size, l], b < ({ s with heap := s.heap.push o } : Shared).heap.objs.size := fun b hb => by
  show b < (s.heap.push _).objs.size
  rw [Heap.size_push]
  rcases List.mem_cons.mp hb with rfl | hb
  · exact Nat.lt_succ_self _
  · rcases List.mem_cons.mp hb with rfl | hb
    · exact Nat.lt_succ_of_lt hlt
    · cases hb
theorem max_intTup {xs : Array (Int × Tok)} {Q : Value → Shared → Prop} (hh : A.handled = none) (hl : s.heap.IsTuple l (intItems xs)) (hne : 0 < xs.size)
    (h : ∀ v h' tk, (intItems xs)[argBest (fun i j => decide (numAt xs i > numAt xs j)) (xs.size - 1)]? = some v → (∀ b o, s.heap.get? b = some o → h'.get? b = some o) → Q v { s with heap := h', toks := tk }) :
    wpAny (model prog w) A (call (.builtin "max") [.ref l]) Q E s := by
  have hlt : l < s.heap.objs.size := by obtain ⟨_, e, _⟩ := hl; exact Heap.lt_size e
  refine call_max_walk (wpAny_pyIter_tuple hl ?_)
  refine ⟨_, _, _, _, _, _, _, rfl, Walks.tuple (A := A.in1) hh _ l (Nat.ne_of_lt hlt) (intItems xs), ⟨⟨_, Heap.get?_push_size _ rfl, rfl, rfl⟩, hl.push _⟩, tup_fp hlt, by simpa [intItems] using hne, CmpOf.ints_gt (numAt xs) (fun _ _ => intItems_at), fun v h' tk hP hk => ?_⟩
  exact h v h' tk (by simpa [intItems] using hP) (tup_kept hk)
theorem min_intTup {xs : Array (Int × Tok)} {Q : Value → Shared → Prop} (hh : A.handled = none) (hl : s.heap.IsTuple l (intItems xs)) (hne : 0 < xs.size)
    (h : ∀ v h' tk, (intItems xs)[argBest (fun i j => decide (numAt xs i < numAt xs j)) (xs.size - 1)]? = some v → (∀ b o, s.heap.get? b = some o → h'.get? b = some o) → Q v { s with heap := h', toks := tk }) :
    wpAny (model prog w) A (call (.builtin "min") [.ref l]) Q E s := by
  have hlt : l < s.heap.objs.size := by obtain ⟨_, e, _⟩ := hl; exact Heap.lt_size e
  refine call_min_walk (wpAny_pyIter_tuple hl ?_)
  refine ⟨_, _, _, _, _, _, _, rfl, Walks.tuple (A := A.in1) hh _ l (Nat.ne_of_lt hlt) (intItems xs), ⟨⟨_, Heap.get?_push_size _ rfl, rfl, rfl⟩, hl.push _⟩, tup_fp hlt, by simpa [intItems] using hne, CmpOf.ints_lt (numAt xs) (fun _ _ => intItems_at), fun v h' tk hP hk => ?_⟩
  exact h v h' tk (by simpa [intItems] using hP) (tup_kept hk)
theorem max_rawT {its : List Value} {ns : List Int} {Q : Value → Shared → Prop} (hh : A.handled = none) (hl : s.heap.IsTuple l its.toArray) (hi : IntsAre its ns) (hne : 0 < ns.length)
    (h : ∀ h' tk M t', (∀ b o, s.heap.get? b = some o → h'.get? b = some o) → M ∈ ns → (∀ a, a ∈ ns → a ≤ M) → Q (.int M t') { s with heap := h', toks := tk }) : wpAny (model prog w) A (call (.builtin "max") [.ref l]) Q E s := by
  obtain ⟨xs, e⟩ := hi.allInts.items
  have hn : numsOf (intItems xs).toList = ns := by rw [← e]; exact hi.numsOf
  rw [nums_intItems] at hn
  subst hn
  rw [e] at hl
  have hsz : 0 < xs.size := by simpa using hne
  refine max_intTup hh hl hsz fun v h' tk hv hk => ?_
  obtain ⟨t, rfl⟩ := intItems_at hv
  obtain ⟨h1, h2⟩ := argBest_gt (numAt xs) (xs.size - 1)
  refine h h' tk _ t hk ?_ fun a ha => ?_
  · rw [numAt_eq]; exact PySem.getD_mem (by rw [List.length_map, Array.length_toList]; omega)
  · obtain ⟨j, hj, rfl⟩ := mem_getD ha
    rw [List.length_map, Array.length_toList] at hj
    rw [← numAt_eq]; exact h2 j (by omega)
theorem min_rawT {its : List Value} {ns : List Int} {Q : Value → Shared → Prop} (hh : A.handled = none) (hl : s.heap.IsTuple l its.toArray) (hi : IntsAre its ns) (hne : 0 < ns.length)
    (h : ∀ h' tk M t', (∀ b o, s.heap.get? b = some o → h'.get? b = some o) → M ∈ ns → (∀ a, a ∈ ns → M ≤ a) → Q (.int M t') { s with heap := h', toks := tk }) : wpAny (model prog w) A (call (.builtin "min") [.ref l]) Q E s := by
  obtain ⟨xs, e⟩ := hi.allInts.items
  have hn : numsOf (intItems xs).toList = ns := by rw [← e]; exact hi.numsOf
  rw [nums_intItems] at hn
  subst hn
  rw [e] at hl
  have hsz : 0 < xs.size := by simpa using hne
  refine min_intTup hh hl hsz fun v h' tk hv hk => ?_
  obtain ⟨t, rfl⟩ := intItems_at hv
  obtain ⟨h1, h2⟩ := argBest_lt (numAt xs) (xs.size - 1)
  refine h h' tk _ t hk ?_ fun a ha => ?_
  · rw [numAt_eq]; exact PySem.getD_mem (by rw [List.length_map, Array.length_toList]; omega)
  · obtain ⟨j, hj, rfl⟩ := mem_getD ha
    rw [List.length_map, Array.length_toList] at hj
    rw [← numAt_eq]; exact h2 j (by omega)
theorem sum_rawT {its : List Value} {ns : List Int} {Q : Value → Shared → Prop} (hh : A.handled = none) (hl : s.heap.IsTuple l its.toArray) (hi : IntsAre its ns)
    (h : ∀ h' tk t', (∀ b o, s.heap.get? b = some o → h'.get? b = some o) → Q (.int ns.sum t') { s with heap := h', toks := tk }) : wpAny (model prog w) A (call (.builtin "sum") [.ref l]) Q E s := by
  obtain ⟨xs, e⟩ := hi.allInts.items
  have hn : numsOf (intItems xs).toList = ns := by rw [← e]; exact hi.numsOf
  rw [nums_intItems] at hn
  rw [e] at hl
  refine PySem.W.ktm_sumG hh hl fun h' tk t' hk => ?_
  have := h h' tk t' hk
  rw [preSum_eq, List.take_of_length_le (by simp), hn]; exact this
end
theorem cr_maxT {X : Cx} (hc : X.calm = true) : CallR X (.builtin "max") (fun vs H Q => ∃ (a : Addr) (ns : List Int), vs = [V.ref a] ∧ SqT X.K H a (ns.map V.int) ∧ 0 < ns.length ∧ ∀ m, m ∈ ns → (∀ y, y ∈ ns → y ≤ m) → Q (.int m) H) := by
  intro pins s σ H vs us Q I r h
  obtain ⟨a, ns, rfl, hs, hne, q⟩ := h
  obtain ⟨its, rv, hl, _⟩ := I.tuple hs
  rw [Vals.ref1 r]
  exact max_rawT (I.ok.hd hc) hl rv.ints hne fun h' tk m t' hk h1 h2 => ⟨.int _, H, I.kept hk, ⟨_, rfl⟩, q m h1 h2⟩
theorem cr_minT {X : Cx} (hc : X.calm = true) : CallR X (.builtin "min") (fun vs H Q => ∃ (a : Addr) (ns : List Int), vs = [V.ref a] ∧ SqT X.K H a (ns.map V.int) ∧ 0 < ns.length ∧ ∀ m, m ∈ ns → (∀ y, y ∈ ns → m ≤ y) → Q (.int m) H) := by
  intro pins s σ H vs us Q I r h
  obtain ⟨a, ns, rfl, hs, hne, q⟩ := h
  obtain ⟨its, rv, hl, _⟩ := I.tuple hs
  rw [Vals.ref1 r]
  exact min_rawT (I.ok.hd hc) hl rv.ints hne fun h' tk m t' hk h1 h2 => ⟨.int _, H, I.kept hk, ⟨_, rfl⟩, q m h1 h2⟩
theorem cr_sumT {X : Cx} (hc : X.calm = true) : CallR X (.builtin "sum") (fun vs H Q => ∃ (a : Addr) (ns : List Int), vs = [V.ref a] ∧ SqT X.K H a (ns.map V.int) ∧ Q (.int ns.sum) H) := by
  intro pins s σ H vs us Q I r h
  obtain ⟨a, ns, rfl, hs, q⟩ := h
  obtain ⟨its, rv, hl, _⟩ := I.tuple hs
  rw [Vals.ref1 r]
  exact sum_rawT (I.ok.hd hc) hl rv.ints fun h' tk t' hk => ⟨.int _, H, I.kept hk, ⟨_, rfl⟩, q⟩
theorem bls_at {K : PySem.W.Frag} {PB : List Addr} {Hs H : Hp} {v : V} {d : D} {ns : List Bool} (h : IsB K PB Hs H v d) (hs : Same Hs H) (e : d.blsL = some ns) : ∃ p, v = .ref p ∧ SqL K H p (ns.map V.bl) := by
  cases d with
  | lst ds =>
    obtain ⟨p, vs, e1, h1, i1, _⟩ := h.lst hs
    rw [bsOf_eq e] at i1
    rw [i1.bls] at h1
    exact ⟨p, e1, SqL.of h1⟩
  | _ => cases e
theorem c_sum (hc : X.calm = true) : CallR X (.builtin "sum") (rDC X.K bSum) := by
  rintro pins s σ H xs us Q I rx ⟨PB, Hs, ds, dz, hs, hx, hg, q⟩
  match ds, hg with
  | [d], hg =>
    obtain ⟨x, rfl, hd⟩ := ibs_one hx
    dsimp only [bSum] at hg
    cases e : d.intsLT with
    | none => rw [e] at hg; cases hg
    | some ns =>
      rw [e] at hg
      cases hg
      obtain ⟨p, rfl, h1 | h1⟩ := ints_atT hd hs e
      · exact cr_sum hc pins s σ H _ us Q I rx ⟨p, ns, rfl, h1, q _ Hs H (.refl hs) (.int _)⟩
      · exact cr_sumT hc pins s σ H _ us Q I rx ⟨p, ns, rfl, h1, q _ Hs H (.refl hs) (.int _)⟩
theorem c_max (hc : X.calm = true) : CallR X (.builtin "max") (rDC X.K bMax) := by
  rintro pins s σ H xs us Q I rx ⟨PB, Hs, ds, dz, hs, hx, hg, q⟩
  match ds, hg with
  | [d], hg =>
    obtain ⟨x, rfl, hd⟩ := ibs_one hx
    dsimp only [bMax] at hg
    cases e : d.intsLT with
    | none => rw [e] at hg; cases hg
    | some ns =>
      rw [e] at hg
      obtain ⟨p, rfl, h1⟩ := ints_atT hd hs e
      cases ns with
      | nil => cases hg
      | cons n r =>
        cases hg
        rcases h1 with h1 | h1
        · refine cr_max hc pins s σ H _ us Q I rx ⟨p, n :: r, rfl, h1, Nat.succ_pos _, fun m hm hle => ?_⟩
          obtain ⟨g1, g2⟩ := maxL_mem r n
          have : m = r.foldl (fun m y => if y > m then y else m) n := Int.le_antisymm (g2 m hm) (hle _ g1)
          rw [this]
          exact q _ Hs H (.refl hs) (.int _)
        · refine cr_maxT hc pins s σ H _ us Q I rx ⟨p, n :: r, rfl, h1, Nat.succ_pos _, fun m hm hle => ?_⟩
          obtain ⟨g1, g2⟩ := maxL_mem r n
          have : m = r.foldl (fun m y => if y > m then y else m) n := Int.le_antisymm (g2 m hm) (hle _ g1)
          rw [this]
          exact q _ Hs H (.refl hs) (.int _)
theorem c_min (hc : X.calm = true) : CallR X (.builtin "min") (rDC X.K bMin) := by
  rintro pins s σ H xs us Q I rx ⟨PB, Hs, ds, dz, hs, hx, hg, q⟩
  match ds, hg with
  | [d], hg =>
    obtain ⟨x, rfl, hd⟩ := ibs_one hx
    dsimp only [bMin] at hg
    cases e : d.intsLT with
    | none => rw [e] at hg; cases hg
    | some ns =>
      rw [e] at hg
      obtain ⟨p, rfl, h1⟩ := ints_atT hd hs e
      cases ns with
      | nil => cases hg
      | cons n r =>
        cases hg
        rcases h1 with h1 | h1
        · refine cr_min hc pins s σ H _ us Q I rx ⟨p, n :: r, rfl, h1, Nat.succ_pos _, fun m hm hle => ?_⟩
          obtain ⟨g1, g2⟩ := minL_mem r n
          have : m = r.foldl (fun m y => if y < m then y else m) n := Int.le_antisymm (hle _ g1) (g2 m hm)
          rw [this]
          exact q _ Hs H (.refl hs) (.int _)
        · refine cr_minT hc pins s σ H _ us Q I rx ⟨p, n :: r, rfl, h1, Nat.succ_pos _, fun m hm hle => ?_⟩
          obtain ⟨g1, g2⟩ := minL_mem r n
          have : m = r.foldl (fun m y => if y < m then y else m) n := Int.le_antisymm (hle _ g1) (g2 m hm)
          rw [this]
          exact q _ Hs H (.refl hs) (.int _)
theorem c_all (hc : X.calm = true) : CallR X (.builtin "all") (rDC X.K bAll) := by
  rintro pins s σ H xs us Q I rx ⟨PB, Hs, ds, dz, hs, hx, hg, q⟩
  match ds, hg with
  | [d], hg =>
    obtain ⟨x, rfl, hd⟩ := ibs_one hx
    dsimp only [bAll] at hg
    cases e : d.blsL with
    | none => rw [e] at hg; cases hg
    | some ns =>
      rw [e] at hg
      cases hg
      obtain ⟨p, rfl, h1⟩ := bls_at hd hs e
      exact cr_all hc pins s σ H _ us Q I rx ⟨p, ns, rfl, h1, q _ Hs H (.refl hs) (.bl _)⟩
theorem c_any (hc : X.calm = true) : CallR X (.builtin "any") (rDC X.K bAny) := by
  rintro pins s σ H xs us Q I rx ⟨PB, Hs, ds, dz, hs, hx, hg, q⟩
  match ds, hg with
  | [d], hg =>
    obtain ⟨x, rfl, hd⟩ := ibs_one hx
    dsimp only [bAny] at hg
    cases e : d.blsL with
    | none => rw [e] at hg; cases hg
    | some ns =>
      rw [e] at hg
      cases hg
      obtain ⟨p, rfl, h1⟩ := bls_at hd hs e
      exact cr_any hc pins s σ H _ us Q I rx ⟨p, ns, rfl, h1, q _ Hs H (.refl hs) (.bl _)⟩
theorem c_tuple : CallR X (.type "tuple") (rDC X.K bTuple) := by
  rintro pins s σ H xs us Q I rx ⟨PB, Hs, ds, dz, hs, hx, hg, q⟩
  match ds, hg with
  | [d], hg =>
    obtain ⟨x, rfl, hd⟩ := ibs_one hx
    cases d with
    | tup es =>
      cases hg
      obtain ⟨p, vs, rfl, h1, i1, _⟩ := hd.tup hs
      refine call_tuple_of pins s σ H _ us Q I rx ⟨p, vs, rfl, .inr ⟨h1, ?_⟩⟩
      rcases hd with hd | ⟨_, _, _, e, _⟩
      · exact q _ Hs H (.refl hs) hd
      · cases e
    | lst es =>
      cases hg
      obtain ⟨p, vs, rfl, h1, i1, l1⟩ := hd.lst hs
      refine call_tuple_of pins s σ H _ us Q I rx ⟨p, vs, rfl, .inl ⟨SqL.of h1, fun l hl => ?_⟩⟩
      obtain ⟨t, i⟩ := new_tup (K := X.K) (PB := []) hs hl i1 l1
      exact q _ _ _ t i
    | _ => cases hg
theorem c_list : CallR X (.type "list") (rLC X.K lList) := by
  rintro pins s σ H xs us Q I rx ⟨PB, Hs, d, dz, x, hs, rfl, hd, hg, q⟩
  cases d with
  | lst es =>
    cases hg
    obtain ⟨p, vs, rfl, h1, i1, l1⟩ := hd.lst hs
    exact call_list_of pins s σ H _ us Q I rx ⟨p, vs, rfl, .inl (SqL.of h1), fun l hl => q l vs hl i1 l1⟩
  | tup es =>
    cases hg
    obtain ⟨p, vs, rfl, h1, i1, l1⟩ := hd.tup hs
    exact call_list_of pins s σ H _ us Q I rx ⟨p, vs, rfl, .inr h1, fun l hl => q l vs hl i1 l1⟩
  | _ => cases hg
end
end DN

set_option Elab.async false
set_option linter.all false
set_option maxRecDepth 100000
namespace DN
open PySem L2
/-! ### enumerate over a text, a tuple -/
def ItS (n : Nat) (f : Nat → Option V) : It :=
  ⟨fun i _ => i < n, fun i H v H' => ∃ T x, v = .ref T ∧ H T = none ∧ H' = upd H T (.tup [.int (i : Nat), x]) ∧ f i = some x, fun i _ => i = n⟩
theorem calm_in1 {A : Around} (h : A.handled = none) : A.in1.handled = none := h
theorem turn_enumS {P : Program} {w : World} {K : PySem.W.Frag} {elts : List Expr} {kk : Nat} {tpos : Pos} (x : Str) (t : Tok) (e it : Addr) :
    Turn P w K (.Tuple elts kk tpos) (ItS x.cps.size fun i => x.cps[i]?.map fun c => .str ⟨#[c]⟩) [e, it] e (fun i h => (∃ old, IsEnum h e it ((i : Nat) : Int) old) ∧ h.IsStrIter it (strIterType x) x t i ∧ e ≠ it) where
  mem := by simp
  obj := fun i h st b hb => by
    obtain ⟨⟨old, he⟩, ⟨o, ho, hc, hd⟩, _⟩ := st
    have e' : b = e ∨ b = it := by simpa using hb
    rcases e' with z | z
    · rw [z]; exact ⟨_, he, fun v q => nomatch q⟩
    · rw [z]; exact ⟨o, ho, fun v q => by rw [hd] at q; cases q⟩
  keep := fun i h h' st k => let ⟨⟨old, he⟩, ⟨o, ho, r⟩, hne⟩ := st; ⟨⟨old, k e (by simp) _ he⟩, ⟨o, k it (by simp) o ho, r⟩, hne⟩
  item := by
    intro X hP hw hK hc i pins s σ H E I hf st hg
    subst hP hw hK
    obtain ⟨⟨old, he⟩, hit, hne⟩ := st
    have hel : e < s.heap.objs.size := Heap.lt_size he
    have hil : it < s.heap.objs.size := by obtain ⟨_, q, _⟩ := hit; exact Heap.lt_size q
    refine wpAny_pyNext_enum_itemC (Draws.text (prog := X.prog) (w := X.w) (calm_in1 (I.ok.hd hc)) it x t) he hit hg hne (by simpa using hne) fun u h' tk hP ho hit' hT hsz hk => ?_
    obtain ⟨c, tc, hcx, rfl⟩ := hP
    refine ⟨_, rfl, wpAny_letOwnedTupleGo_enum (s := { s with heap := h', toks := tk + 1 }) ho fun h'' he' sb => ?_⟩
    have hT2 : h''.get? s.heap.objs.size = some { cls := .type "tuple", data := .seq #[.int i tk, .str ⟨#[c]⟩ tc] } := (sb.2 _ (Nat.ne_of_gt hel)).trans hT
    have new : ObjOk X.prog X.w (upd H s.heap.objs.size (.tup [.int (i : Nat), .str ⟨#[c]⟩])) h'' s.heap.objs.size (.tup [.int (i : Nat), .str ⟨#[c]⟩]) :=
      ⟨by show 2 ≤ sizeLine; decide, [.int i tk, .str ⟨#[c]⟩ tc], .cons ⟨_, rfl⟩ (.cons ⟨_, rfl⟩ .nil), ⟨_, hT2, rfl, _, rfl⟩⟩
    have I1 : L2.Inv X pins σ (upd H s.heap.objs.size (.tup [.int (i : Nat), .str ⟨#[c]⟩])) { s with heap := h'', toks := tk + 1 } :=
      I.turnedNew (ch := [e, it]) (fun b ob hb q => (sb.2 b (fun z => hb (by simp [z]))).trans (hk b ob (fun z => hb (by simp [z])) (fun z => hb (by simp [z])) q)) hf (Nat.le_refl _) new
    obtain ⟨oi, hoi, ri⟩ := id hit'
    refine ⟨.ref s.heap.objs.size, _, I1, rfl, ⟨_, _, rfl, I.hok.fresh (Nat.le_refl _), rfl, by show x.cps[i]?.map _ = _; rw [hcx]; rfl⟩, ⟨⟨.str ⟨#[c]⟩ tc, ?_⟩, ⟨oi, (sb.2 it (Ne.symm hne)).trans hoi, ri⟩, hne⟩, fun b hb => ?_⟩
    · have e1 : ((i + 1 : Nat) : Int) = (i : Int) + 1 := by omega
      rw [e1]; exact he'
    · have hb' : b < s.heap.objs.size := by
        have e' : b = e ∨ b = it := by simpa using hb
        rcases e' with z | z
        · rw [z]; exact hel
        · rw [z]; exact hil
      rw [upd_ne (Nat.ne_of_lt hb')]
      exact (hf b hb).1
  done := by
    intro X hP hw hK hc i pins s σ H E I hf st hg
    subst hP hw hK
    obtain ⟨⟨old, he⟩, hit, hne⟩ := st
    obtain ⟨f0, f1, f2, f3, f4, f5⟩ := hf it (by simp)
    have hi : i = x.cps.size := hg
    subst hi
    have D := Draws.text (prog := X.prog) (w := X.w) (A := X.A.in1) (calm_in1 (I.ok.hd hc)) it x t
    exact wpAny_pyNext_enum_endD D he hit fun h' eb => ⟨rfl, I.turned (t' := s.toks) (fun b o hb q => eb b o hb q) f0 f1 f3 f4 f5⟩
  self := fun A i s Q E st h => let ⟨⟨_, he⟩, _⟩ := st; wpAny_pyIter_enum he h
theorem turn_enumT {P : Program} {w : World} {K : PySem.W.Frag} {elts : List Expr} {kk : Nat} {tpos : Pos} (a e it : Addr) (xs : List V) :
    Turn P w K (.Tuple elts kk tpos) ⟨fun i H => i < xs.length ∧ SqT K H a xs, fun i H v H' => ∃ T x, v = .ref T ∧ H T = none ∧ H' = upd H T (.tup [.int (i : Nat), x]) ∧ xs[i]? = some x, fun i H => i = xs.length ∧ SqT K H a xs⟩ [e, it] e
      (fun i h => (∃ old, IsEnum h e it ((i : Nat) : Int) old) ∧ h.IsTupleIter it a i ∧ e ≠ it) where
  mem := by simp
  obj := fun i h st b hb => by
    obtain ⟨⟨old, he⟩, ⟨o, ho, hc, hd⟩, _⟩ := st
    have e' : b = e ∨ b = it := by simpa using hb
    rcases e' with z | z
    · rw [z]; exact ⟨_, he, fun v q => nomatch q⟩
    · rw [z]; exact ⟨o, ho, fun v q => by rw [hd] at q; cases q⟩
  keep := fun i h h' st k => let ⟨⟨old, he⟩, hi, hne⟩ := st; ⟨⟨old, k e (by simp) _ he⟩, hi.at fun o q => k it (by simp) o q, hne⟩
  item := by
    intro X hP hw hK hc i pins s σ H E I hf st hg
    subst hP hw hK
    obtain ⟨⟨old, he⟩, hit, hne⟩ := st
    obtain ⟨hlt, hq⟩ := hg
    obtain ⟨its, rv, p, hz⟩ := I.tuple hq
    have hel : e < s.heap.objs.size := Heap.lt_size he
    have hil : it < s.heap.objs.size := by obtain ⟨_, q, _⟩ := hit; exact Heap.lt_size q
    have ae : a ≠ e := fun z => by
      obtain ⟨o, ho, hcl, _⟩ := p
      rw [z, he] at ho
      cases ho
      simp at hcl
    have ai : a ≠ it := fun z => by
      obtain ⟨o, ho, hcl, _⟩ := p
      obtain ⟨o2, ho2, hcl2, _⟩ := hit
      rw [z, ho2] at ho
      cases ho
      rw [hcl2] at hcl
      simp at hcl
    refine wpAny_pyNext_enum_itemC (Draws.tuple (prog := X.prog) (w := X.w) (calm_in1 (I.ok.hd hc)) it a ai its.toArray) he (St := fun i h => h.IsTupleIter it a i ∧ h.IsTuple a its.toArray) ⟨hit, p⟩ (by simpa [← rv.length] using hlt) hne (by simpa using ⟨hne, Ne.symm ae⟩) fun u h' tk hP ho hit' hT hsz hk => ?_
    obtain ⟨x, hx⟩ : ∃ x, xs[i]? = some x := ⟨xs[i], by simp [hlt]⟩
    obtain ⟨u', hu', ru⟩ := rv.get hx
    have eu : u' = u := by
      have : its[i]? = some u := by simpa using hP
      rw [hu'] at this
      exact Option.some.inj this
    subst eu
    refine ⟨_, rfl, wpAny_letOwnedTupleGo_enum (s := { s with heap := h', toks := tk + 1 }) ho fun h'' he' sb => ?_⟩
    have hT2 : h''.get? s.heap.objs.size = some { cls := .type "tuple", data := .seq #[.int i tk, u'] } := (sb.2 _ (Nat.ne_of_gt hel)).trans hT
    have new : ObjOk X.prog X.w (upd H s.heap.objs.size (.tup [.int (i : Nat), x])) h'' s.heap.objs.size (.tup [.int (i : Nat), x]) :=
      ⟨by show 2 ≤ sizeLine; decide, [.int i tk, u'], .cons ⟨_, rfl⟩ (.cons ru .nil), ⟨_, hT2, rfl, _, rfl⟩⟩
    have I1 : L2.Inv X pins σ (upd H s.heap.objs.size (.tup [.int (i : Nat), x])) { s with heap := h'', toks := tk + 1 } :=
      I.turnedNew (ch := [e, it]) (fun b ob hb q => (sb.2 b (fun z => hb (by simp [z]))).trans (hk b ob (fun z => hb (by simp [z])) (fun z => hb (by simp [z])) q)) hf (Nat.le_refl _) new
    refine ⟨.ref s.heap.objs.size, _, I1, rfl, ⟨_, _, rfl, I.hok.fresh (Nat.le_refl _), rfl, hx⟩, ⟨⟨u', ?_⟩, hit'.1.at fun o q => (sb.2 it (Ne.symm hne)).trans q, hne⟩, fun b hb => ?_⟩
    · have e1 : ((i + 1 : Nat) : Int) = (i : Int) + 1 := by omega
      rw [e1]; exact he'
    · have hb' : b < s.heap.objs.size := by
        have e' : b = e ∨ b = it := by simpa using hb
        rcases e' with z | z
        · rw [z]; exact hel
        · rw [z]; exact hil
      rw [upd_ne (Nat.ne_of_lt hb')]
      exact (hf b hb).1
  done := by
    intro X hP hw hK hc i pins s σ H E I hf st hg
    subst hP hw hK
    obtain ⟨⟨old, he⟩, hit, hne⟩ := st
    obtain ⟨hi, hq⟩ := hg
    obtain ⟨its, rv, p, hz⟩ := I.tuple hq
    obtain ⟨f0, f1, f2, f3, f4, f5⟩ := hf it (by simp)
    have ai : a ≠ it := fun z => by
      obtain ⟨o, ho, hcl, _⟩ := p
      obtain ⟨o2, ho2, hcl2, _⟩ := hit
      rw [z, ho2] at ho
      cases ho
      rw [hcl2] at hcl
      simp at hcl
    have hsz : i = its.toArray.size := by rw [hi, rv.length]; simp
    have D := Draws.tuple (prog := X.prog) (w := X.w) (A := X.A.in1) (calm_in1 (I.ok.hd hc)) it a ai its.toArray
    refine wpAny_pyNext_enum_endD D he (St := fun i h => h.IsTupleIter it a i ∧ h.IsTuple a its.toArray) ⟨by rw [← hsz]; exact hit, p⟩ fun h' eb => ⟨rfl, I.turned (t' := s.toks) (fun b o hb q => eb b o hb q) f0 f1 f3 f4 f5⟩
  self := fun A i s Q E st h => let ⟨⟨_, he⟩, _⟩ := st; wpAny_pyIter_enum he h

/-! ### enumerate(tuple) is made -/
set_option maxHeartbeats 400000 in
theorem meets_enumerate_newT (t : Addr) (items : Array Value) (n : Nat) (dct : Option Addr) (sl : Array (Option Value)) :
    Meets (Builtin.«enumerate.__new__» ⟨[.type "enumerate", .ref t], []⟩) (fun _ R s => s.heap.get? t = some ⟨.type "tuple", dct, .seq items n, sl⟩ ∧
      R (.ok (.ret (.ref (s.heap.push { cls := .type "tuple_iterator", data := .fields #[.ref t, .int 0 0] }).objs.size))) { s with heap := (s.heap.push { cls := .type "tuple_iterator", data := .fields #[.ref t, .int 0 0] }).push { cls := .type "enumerate", data := .fields #[.none, .bool false, .ref s.heap.objs.size, rawInt 0, .none, .none] } }) :=
  .of_wp fun prog w A R s h => by
    obtain ⟨hp, g, d, tk, os⟩ := s; obtain ⟨hl, h⟩ := h
    have hL : hp.IsTuple t items := ⟨_, hl, rfl, n, rfl⟩
    have hsub := sub_enumerate
    wp_walk using wpAny_loadPart' hl, wpAny_pyIter_tuple hL
    refine wpAny_stack_any fun st => wpAny_pure ?_
    split
    · rename_i c _ _ _ _ _
      cases (c == Value.type "enumerate")
      · wp_walk using wpAny_loadPart' hl, wpAny_pyIter_tuple hL
        exact ⟨_, rfl, h⟩
      · wp_walk using wpAny_loadPart' hl, wpAny_pyIter_tuple hL
        exact ⟨_, rfl, h⟩
    · wp_walk using wpAny_loadPart' hl, wpAny_pyIter_tuple hL
      exact ⟨_, rfl, h⟩
theorem call_enumerate_tup {prog : Program} {w : World} {A : Around} {E : Value → Shared → Prop} {s : Shared} {t : Addr} {items : Array Value} {Q : Value → Shared → Prop} (hL : s.heap.IsTuple t items)
    (h : ∀ h', IsEnum h' (s.heap.objs.size + 1) s.heap.objs.size 0 .none → h'.IsTupleIter s.heap.objs.size t 0 → h'.objs.size = s.heap.objs.size + 2 →
      (∀ b o, s.heap.get? b = some o → h'.get? b = some o) → Q (.ref (s.heap.objs.size + 1)) { s with heap := h' }) :
    wpAny (model prog w) A (call (.type "enumerate") [.ref t]) Q E s := by
  obtain ⟨⟨c, dct, dt, sl⟩, hl, hc, n, hd⟩ := hL
  replace hc : c = .type "tuple" := hc
  replace hd : dt = .seq items n := hd
  subst hc hd
  refine callType_new F.called_enumerate (by decide) (F.typeCall_enumerate_1 _) (F.newCall_enumerate_1 _) (fun obj => F.args_object_init_2 obj _) F.entry_enumerate_new
    (meets_enumerate_newT t items n dct sl) ⟨hl, ?_⟩
  have hz : (s.heap.push { cls := .type "tuple_iterator", data := .fields #[.ref t, .int 0 0] }).objs.size = s.heap.objs.size + 1 := Heap.size_push ..
  show _ ∧ _
  rw [hz]
  have he : IsEnum ((s.heap.push { cls := .type "tuple_iterator", data := .fields #[.ref t, .int 0 0] }).push { cls := .type "enumerate", data := .fields #[.none, .bool false, .ref s.heap.objs.size, rawInt 0, .none, .none] }) (s.heap.objs.size + 1) s.heap.objs.size 0 .none := by
    have := Heap.get?_push_size (s.heap.push { cls := .type "tuple_iterator", data := .fields #[.ref t, .int 0 0] }) (o := { cls := .type "enumerate", data := .fields #[.none, .bool false, .ref s.heap.objs.size, rawInt 0, .none, .none] }) rfl
    rw [hz] at this; exact this
  refine ⟨⟨_, he, rfl⟩, h _ he ⟨_, Heap.get?_push_of_some _ (Heap.get?_push_size _ rfl), rfl, rfl⟩ (by rw [Heap.size_push, hz]) fun b o x => Heap.get?_push_of_some _ (Heap.get?_push_of_some _ x)⟩
/-! ### what is walked, of any kind -/
/-- a list, a tuple, a text by what it is -/
def iAny (K : PySem.W.Frag) (te : TE) : TI := fun σ H R => te σ H fun v H1 =>
  (∃ a xs, v = .ref a ∧ SqL K H1 a xs ∧ R (Itl K a) H1) ∨ (∃ a xs, v = .ref a ∧ SqT K H1 a xs ∧ R (Itt K a) H1) ∨ ∃ x, v = .str x ∧ R (Its x) H1
theorem pi_any {X : Cx} {tg e : Expr} {te : TE} (he : PE X e te) : PI X tg e (iAny X.K te) := by
  refine ⟨fun pins s σ H R I h => ?_⟩
  refine thn (he.run pins s σ H _ I h) fun v s1 ⟨y, H1, I1, r1, q⟩ => ?_
  rcases q with ⟨a, xs, ex, hq, q⟩ | ⟨a, xs, ex, hq, q⟩ | ⟨x, ex, q⟩
  · subst ex
    cases r1
    obtain ⟨its, rv, p, hz⟩ := I1.list hq
    exact wpAny_pyIter_list p.isList (pi_one (tk := s1.toks) I1 _ (turn_list a _) ⟨_, Heap.get?_push_size _ rfl, rfl, rfl⟩ q)
  · subst ex
    cases r1
    obtain ⟨its, rv, p, hz⟩ := I1.tuple hq
    exact wpAny_pyIter_tuple (show s1.heap.IsTuple a its.toArray from p) (pi_one (tk := s1.toks) I1 _ (turn_tuple a _) ⟨_, Heap.get?_push_size _ rfl, rfl, rfl⟩ q)
  · subst ex
    obtain ⟨t, rfl⟩ := r1
    cases ha : x.cps.all (· < 128)
    · exact wpAny_pyIter_wide ha (pi_one (tk := s1.toks) I1 _ (turn_str _ x t "str_iterator" (.inr rfl)) ⟨_, Heap.get?_push_size _ rfl, rfl, rfl⟩ q)
    · exact wpAny_pyIter_ascii ha (pi_one (tk := s1.toks) I1 _ (turn_str _ x t "str_ascii_iterator" (.inl rfl)) ⟨_, Heap.get?_push_size _ rfl, rfl, rfl⟩ q)
def ItT (K : PySem.W.Frag) (a : Addr) (xs : List V) : It := ⟨fun i H => i < xs.length ∧ SqT K H a xs, fun i H v H' => ∃ T x, v = .ref T ∧ H T = none ∧ H' = upd H T (.tup [.int (i : Nat), x]) ∧ xs[i]? = some x, fun i H => i = xs.length ∧ SqT K H a xs⟩
def ItX (x : Str) : It := ItS x.cps.size fun i => x.cps[i]?.map fun c => .str ⟨#[c]⟩
def iEnumAny (K : PySem.W.Frag) (ta : TA) : TI := fun σ H R => ta σ H fun vs H1 =>
  (∃ a xs, vs = [.ref a] ∧ SqL K H1 a xs ∧ R (Ite K a) H1) ∨ (∃ a xs, vs = [.ref a] ∧ SqT K H1 a xs ∧ R (ItT K a xs) H1) ∨ ∃ x, vs = [.str x] ∧ R (ItX x) H1
open PySem.Spec PyProof.Rows in
theorem pi_enumAny {X : Cx} {e : Expr} {ta : TA} {p pos tpos : Pos} {elts : List Expr} {kk : Nat} (hg : Gl X "enumerate") (hm : X.mg "enumerate" = none) (ha : PA X [e] ta) (hs : starEach [e] X.env = [(false, eval e X.env)] := by rfl) :
    PI X (.Tuple elts kk tpos) (.Call (.Name "enumerate" p) [e] [] pos) (iEnumAny X.K ta) := by
  refine ⟨fun pins s σ H R I h => ?_⟩
  refine Call_ (ld_blt I hg hm PyProof.Rows.boot_enumerate (PyProof.Rows.callWith_type1 (thn (ha.run pos pins s σ H _ I h) fun us s1 ⟨vs, H1, I1, r1, q1⟩ => ?_) hs rfl))
  have fp2 : ∀ b, b ∈ [s1.heap.objs.size + 1, s1.heap.objs.size] → FpOk X pins H1 b := fun b hb => by
    have e' : b = s1.heap.objs.size + 1 ∨ b = s1.heap.objs.size := by simpa using hb
    have hle : s1.heap.objs.size ≤ b := by
      rcases e' with z | z
      · rw [z]; exact Nat.le_add_right _ _
      · rw [z]; exact Nat.le_refl _
    exact I1.fpOk hle (I1.hok.fresh hle)
  rcases q1 with ⟨a, xs, ex, hq, q⟩ | ⟨a, xs, ex, hq, q⟩ | ⟨x, ex, q⟩
  · subst ex
    cases r1 with
    | cons r rr =>
      cases rr
      cases r
      obtain ⟨its, rv, p', hz⟩ := I1.list hq
      refine call_enumerate_list p'.isList fun h' he hit hsz hk => wpAny_pyIter_enum he ?_
      have I2 : L2.Inv X pins σ H1 { s1 with heap := h' } := I1.kept (t' := s1.toks) hk
      exact ⟨s1.heap.objs.size + 1, [s1.heap.objs.size + 1, s1.heap.objs.size], _, _, H1, rfl, I2, turn_enum a (s1.heap.objs.size + 1) s1.heap.objs.size, ⟨⟨.none, he⟩, hit, Nat.succ_ne_self _⟩, fp2, q⟩
  · subst ex
    cases r1 with
    | cons r rr =>
      cases rr
      cases r
      obtain ⟨its, rv, p', hz⟩ := I1.tuple hq
      refine call_enumerate_tup (show s1.heap.IsTuple a its.toArray from p') fun h' he hit hsz hk => wpAny_pyIter_enum he ?_
      have I2 : L2.Inv X pins σ H1 { s1 with heap := h' } := I1.kept (t' := s1.toks) hk
      exact ⟨s1.heap.objs.size + 1, [s1.heap.objs.size + 1, s1.heap.objs.size], _, _, H1, rfl, I2, turn_enumT a (s1.heap.objs.size + 1) s1.heap.objs.size xs, ⟨⟨.none, he⟩, hit, Nat.succ_ne_self _⟩, fp2, q⟩
  · subst ex
    cases r1 with
    | cons r rr =>
      cases rr
      obtain ⟨t, rfl⟩ := r
      refine call_enumerate_str fun h' he hit hsz hk => wpAny_pyIter_enum he ?_
      have I2 : L2.Inv X pins σ H1 { s1 with heap := h' } := I1.kept (t' := s1.toks) hk
      exact ⟨s1.heap.objs.size + 1, [s1.heap.objs.size + 1, s1.heap.objs.size], _, _, H1, rfl, I2, turn_enumS x t (s1.heap.objs.size + 1) s1.heap.objs.size, ⟨⟨.none, he⟩, hit, Nat.succ_ne_self _⟩, fp2, q⟩
/-! ### a walk over plain values -/
structure WalkD (K : PySem.W.Frag) (J : It) (ds : List D) (G : Hp → Hp → Prop) : Prop where
  len : ds.length ≤ LIM
  goes : ∀ i Hs H, i < ds.length → Same Hs H → G Hs H → J.go i H
  stops : ∀ Hs H, Same Hs H → G Hs H → J.stop ds.length H
  yields : ∀ i Hs H x H', i < ds.length → Same Hs H → G Hs H → J.yld i H x H' → ∃ Hs' d, ds[i]? = some d ∧ Tr [] Hs H Hs' H' ∧ Is K Hs' x d
theorem WalkD.mono {K : PySem.W.Frag} {J : It} {ds : List D} {G G' : Hp → Hp → Prop} (w : WalkD K J ds G) (h : ∀ Hs H, G' Hs H → G Hs H) : WalkD K J ds G' :=
  ⟨w.len, fun i Hs H hi s g => w.goes i Hs H hi s (h _ _ g), fun Hs H s g => w.stops Hs H s (h _ _ g), fun i Hs H x H' hi s g y => w.yields i Hs H x H' hi s (h _ _ g) y⟩
section
variable {K : PySem.W.Frag}
/-- a list that stands as vs, its items plain in the stable heap -/
theorem wd_list {a : Addr} {ds : List D} (hl : ds.length ≤ LIM) : WalkD K (Itl K a) ds fun Hs H => ∃ vs, H a = some (.lst vs) ∧ IsAll K Hs vs ds :=
  ⟨hl, fun i Hs H hi s ⟨vs, h, r⟩ => ⟨vs, vs[i]'(by rw [r.len]; exact hi), SqL.of h, by simp⟩, fun Hs H s ⟨vs, h, r⟩ => ⟨vs, SqL.of h, by rw [r.len]; exact Nat.le_refl _⟩,
    fun i Hs H x H' hi s ⟨vs, h, r⟩ y => by
      obtain ⟨e, y⟩ := y
      subst e
      obtain ⟨d, hd, hx⟩ := r.get' (y vs (SqL.of h))
      exact ⟨Hs, d, hd, .refl s, hx⟩⟩
theorem wd_tup {a : Addr} {ds : List D} (hl : ds.length ≤ LIM) : WalkD K (Itt K a) ds fun Hs H => ∃ vs, SqT K H a vs ∧ IsAll K Hs vs ds :=
  ⟨hl, fun i Hs H hi s ⟨vs, h, r⟩ => ⟨vs, vs[i]'(by rw [r.len]; exact hi), h, by simp⟩, fun Hs H s ⟨vs, h, r⟩ => ⟨vs, h, by rw [r.len]; exact Nat.le_refl _⟩,
    fun i Hs H x H' hi s ⟨vs, h, r⟩ y => by
      obtain ⟨e, y⟩ := y
      subst e
      obtain ⟨d, hd, hx⟩ := r.get' (y vs h)
      exact ⟨Hs, d, hd, .refl s, hx⟩⟩
theorem wd_str {x : List Nat} (hx : TX x) : WalkD K (Its ⟨x.toArray⟩) (x.map fun c => .str [c]) fun _ _ => True := by
  have hl : (x.map fun c => D.str [c]).length = x.length := List.length_map _
  refine ⟨by rw [hl]; exact hx.1, fun i Hs H hi s _ => ?_, fun Hs H s _ => ?_, fun i Hs H y H' hi s _ yy => ?_⟩
  · show i < x.toArray.size
    rw [hl] at hi; simpa using hi
  · show x.toArray.size ≤ _
    rw [hl]; simp
  · obtain ⟨e, c, hc, e2⟩ := yy
    subst e e2
    have hc' : x[i]? = some c := by simpa using hc
    refine ⟨Hs, .str [c], by rw [List.getElem?_map, hc']; rfl, .refl s, .str [c] (tx_one hx (List.mem_of_getElem? hc'))⟩
theorem intsFrom_len : ∀ (n : Nat) (lo : Int), (intsFrom lo n).length = n
  | 0, _ => rfl
  | n + 1, lo => by unfold intsFrom; rw [List.length_cons, intsFrom_len n]
theorem intsFrom_get : ∀ (n : Nat) (lo : Int) (i : Nat), i < n → (intsFrom lo n)[i]? = some (.int (lo + i))
  | n + 1, lo, 0, _ => by unfold intsFrom; simp
  | n + 1, lo, i + 1, h => by
    unfold intsFrom
    rw [List.getElem?_cons_succ, intsFrom_get n (lo + 1) i (by omega)]
    congr 2
    omega
theorem wd_range {lo : Int} {n : Nat} (hn : n ≤ LIM) : WalkD K (Itr lo n) (intsFrom lo n) fun _ _ => True := by
  refine ⟨by rw [intsFrom_len]; exact hn, fun i Hs H hi s _ => ?_, fun Hs H s _ => ?_, fun i Hs H y H' hi s _ yy => ?_⟩
  · rw [intsFrom_len] at hi; exact hi
  · rw [intsFrom_len]; exact Nat.le_refl _
  · obtain ⟨e, e2⟩ := yy
    subst e e2
    rw [intsFrom_len] at hi
    exact ⟨Hs, _, intsFrom_get n lo i hi, .refl s, .int _⟩
theorem enumFrom_len : ∀ (ds : List D) (k : Nat), (enumFrom k ds).length = ds.length
  | [], _ => rfl
  | d :: ds, k => by unfold enumFrom; rw [List.length_cons, List.length_cons, enumFrom_len ds]
theorem enumFrom_get : ∀ (ds : List D) (k i : Nat) (d : D), ds[i]? = some d → (enumFrom k ds)[i]? = some (.tup [.int ((k + i : Nat) : Int), d])
  | [], _, _, _, h => by simp at h
  | x :: ds, k, 0, d, h => by
    unfold enumFrom
    have : x = d := by simpa using h
    subst this
    simp
  | x :: ds, k, i + 1, d, h => by
    unfold enumFrom
    rw [List.getElem?_cons_succ, enumFrom_get ds (k + 1) i d (by simpa using h)]
    have e : k + 1 + i = k + (i + 1) := by omega
    rw [e]
/-- a pair that is made on the way -/
theorem new_pair {Hs H : Hp} {T : Addr} {x y : V} {d e : D} (s : Same Hs H) (hT : H T = none) (h1 : Is K Hs x d) (h2 : Is K Hs y e) : ∃ Hs', Tr [] Hs H Hs' (upd H T (.tup [x, y])) ∧ Is K Hs' (.ref T) (.tup [d, e]) := by
  obtain ⟨t, i⟩ := new_tup (K := K) (PB := []) s hT (.cons h1 (.cons h2 .nil)) (by show 2 ≤ LIM; decide : [d, e].length ≤ LIM)
  exact ⟨_, t, i⟩
theorem wd_enumL {a : Addr} {ds : List D} (hl : ds.length ≤ LIM) : WalkD K (Ite K a) (enumFrom 0 ds) fun Hs H => ∃ vs, H a = some (.lst vs) ∧ IsAll K Hs vs ds := by
  refine ⟨by rw [enumFrom_len]; exact hl, fun i Hs H hi s ⟨vs, h, r⟩ => ?_, fun Hs H s ⟨vs, h, r⟩ => ?_, fun i Hs H y H' hi s ⟨vs, h, r⟩ yy => ?_⟩
  · rw [enumFrom_len, ← r.len] at hi
    exact ⟨vs, vs[i], SqL.of h, by simp⟩
  · exact ⟨vs, SqL.of h, by rw [enumFrom_len, r.len]; exact Nat.le_refl _⟩
  · obtain ⟨T, x, e1, hT, e2, hx⟩ := yy
    subst e1 e2
    obtain ⟨d, hd, hx⟩ := r.get' (hx vs (SqL.of h))
    obtain ⟨Hs', t, i'⟩ := new_pair (K := K) s hT (.int ((i : Nat) : Int)) hx
    exact ⟨Hs', _, by rw [enumFrom_get ds 0 i d hd, Nat.zero_add], t, i'⟩
theorem wd_enumT {a : Addr} {vs : List V} {ds : List D} (hl : ds.length ≤ LIM) (hv : vs.length = ds.length) : WalkD K (ItT K a vs) (enumFrom 0 ds) fun Hs H => SqT K H a vs ∧ IsAll K Hs vs ds := by
  refine ⟨by rw [enumFrom_len]; exact hl, fun i Hs H hi s ⟨h, r⟩ => ?_, fun Hs H s ⟨h, r⟩ => ?_, fun i Hs H y H' hi s ⟨h, r⟩ yy => ?_⟩
  · rw [enumFrom_len, ← hv] at hi
    exact ⟨hi, h⟩
  · exact ⟨by rw [enumFrom_len, hv], h⟩
  · obtain ⟨T, x, e1, hT, e2, hx⟩ := yy
    subst e1 e2
    obtain ⟨d, hd, hx⟩ := r.get' hx
    obtain ⟨Hs', t, i'⟩ := new_pair (K := K) s hT (.int ((i : Nat) : Int)) hx
    exact ⟨Hs', _, by rw [enumFrom_get ds 0 i d hd, Nat.zero_add], t, i'⟩
theorem wd_enumX {x : List Nat} (hx : TX x) : WalkD K (ItX ⟨x.toArray⟩) (enumFrom 0 (x.map fun c => .str [c])) fun _ _ => True := by
  have hl : (enumFrom 0 (x.map fun c => D.str [c])).length = x.length := by rw [enumFrom_len, List.length_map]
  refine ⟨by rw [hl]; exact hx.1, fun i Hs H hi s _ => ?_, fun Hs H s _ => ?_, fun i Hs H y H' hi s _ yy => ?_⟩
  · show i < x.toArray.size
    rw [hl] at hi; simpa using hi
  · show _ = x.toArray.size
    rw [hl]; simp
  · obtain ⟨T, z, e1, hT, e2, hz⟩ := yy
    subst e1 e2
    have hz' : (x.toArray[i]?).map (fun c => V.str ⟨#[c]⟩) = some z := hz
    cases hc : x.toArray[i]? with
    | none => rw [hc] at hz'; cases hz'
    | some c =>
      rw [hc] at hz'
      cases hz'
      have hc' : x[i]? = some c := by simpa using hc
      obtain ⟨Hs', t, i'⟩ := new_pair (K := K) s hT (.int ((i : Nat) : Int)) (.str [c] (tx_one hx (List.mem_of_getElem? hc')))
      exact ⟨Hs', _, by rw [enumFrom_get _ 0 i (.str [c]) (by rw [List.getElem?_map, hc']; rfl), Nat.zero_add], t, i'⟩
end
end DN

set_option Elab.async false
set_option linter.all false
set_option maxRecDepth 100000
namespace DN
open PySem L2
/-! ### what is walked -/
section
variable (K : PySem.W.Frag) (EX : Exn → Hp → Prop)
/-- for a loop: it stands whatever the loop's body does -/
def SnI (wi : TI) (f : DenL) : Prop := ∀ PB Hs H σ ρ S (R : It → Hp → Prop), EnvIs K PB Hs H σ ρ → BoxIs PB Hs H S → Same Hs H → Post EX PB Hs H (fun Hs1 _ J ds => WalkD K J ds fun Hs2 _ => Same Hs1 Hs2) R (f ρ S) → wi σ H R
/-- for a comprehension -/
def SnIC (wi : TI) (f : DenL) : Prop := ∀ PB Hs H σ ρ S (R : It → Hp → Prop), EnvIs K PB Hs H σ ρ → BoxIs PB Hs H S → Same Hs H → Post EX PB Hs H (fun Hs1 H1 J ds => WalkD K J ds fun Hs2 H2 => Tr PB Hs1 H1 Hs2 H2) R (f ρ S) → wi σ H R
end
section
variable {K : PySem.W.Frag} {EX : Exn → Hp → Prop} {ta tb tc : TE} {fa fb fc : Den} {tA tB' : TT} {gA gB : DenT} {tr : TA} {fr : DenL} {wi : TI}
theorem Post.weak {α β : Type} {PB : List Addr} {Hs H : Hp} {R R' : Hp → Hp → β → α → Prop} {Q : β → Hp → Prop} {r : Res α} (p : Post EX PB Hs H R Q r) (h : ∀ Hs2 H2 b a, R' Hs2 H2 b a → R Hs2 H2 b a) : Post EX PB Hs H R' Q r := by
  cases r with
  | ok a S => exact fun b Hs2 H2 t bx q => p b Hs2 H2 t bx (h _ _ _ _ q)
  | exc x S => exact p
  | bad => exact p
theorem SnI.toC (h : SnI K EX wi fr) : SnIC K EX wi fr := fun PB Hs H σ ρ S R e b s p => h PB Hs H σ ρ S R e b s (p.weak fun Hs1 H1 J ds w => w.mono fun _ _ t => t.st)
theorem sn_iany (ha : SnE K EX ta fa) : SnI K EX (iAny K ta) (iOf fa) := fun PB Hs H σ ρ S R e b s p =>
  ha PB Hs H σ ρ S _ e b s (p.bind fun d S1 v Hs1 H1 t1 b1 r1 p1 => by
    obtain ⟨ds, hd, p2⟩ := p1.of1
    cases r1 with
    | str x hx => cases hd; exact .inr (.inr ⟨_, rfl, p2 _ Hs1 H1 (.refl t1.sub) b1 ((wd_str hx).mono fun _ _ _ => trivial)⟩)
    | tup h1 h2 h3 => cases hd; exact .inr (.inl ⟨_, _, rfl, same_sqT t1.sub h1, p2 _ Hs1 H1 (.refl t1.sub) b1 (by
        refine ⟨h3, fun i Hs2 H2 hi s2 g => ?_, fun Hs2 H2 s2 g => ?_, fun i Hs2 H2 x H' hi s2 g y => ?_⟩
        · exact (wd_tup (K := K) h3).goes i Hs2 H2 hi s2 ⟨_, same_sqT s2 (same_sqT g h1), h2.up g⟩
        · exact (wd_tup (K := K) h3).stops Hs2 H2 s2 ⟨_, same_sqT s2 (same_sqT g h1), h2.up g⟩
        · exact (wd_tup (K := K) h3).yields i Hs2 H2 x H' hi s2 ⟨_, same_sqT s2 (same_sqT g h1), h2.up g⟩ y)⟩)
    | lst h1 h2 h3 => cases hd; exact .inl ⟨_, _, rfl, SqL.of (t1.sub _ _ h1), p2 _ Hs1 H1 (.refl t1.sub) b1 (by
        refine ⟨h3, fun i Hs2 H2 hi s2 g => ?_, fun Hs2 H2 s2 g => ?_, fun i Hs2 H2 x H' hi s2 g y => ?_⟩
        · exact (wd_list (K := K) h3).goes i Hs2 H2 hi s2 ⟨_, s2 _ _ (g _ _ h1), h2.up g⟩
        · exact (wd_list (K := K) h3).stops Hs2 H2 s2 ⟨_, s2 _ _ (g _ _ h1), h2.up g⟩
        · exact (wd_list (K := K) h3).yields i Hs2 H2 x H' hi s2 ⟨_, s2 _ _ (g _ _ h1), h2.up g⟩ y)⟩
    | _ => cases hd)
theorem sn_ianyC (ha : SnB K EX ta fa) : SnIC K EX (iAny K ta) (iOf fa) := fun PB Hs H σ ρ S R e b s p =>
  ha PB Hs H σ ρ S _ e b s (p.bind fun d S1 v Hs1 H1 t1 b1 r1 p1 => by
    obtain ⟨ds, hd, p2⟩ := p1.of1
    cases d with
    | str x =>
      cases hd
      obtain ⟨e1, hx⟩ := r1.str
      subst e1
      exact .inr (.inr ⟨_, rfl, p2 _ Hs1 H1 (.refl t1.sub) b1 ((wd_str hx).mono fun _ _ _ => trivial)⟩)
    | tup es =>
      cases hd
      obtain ⟨p1', vs, e1, h1, h2, h3⟩ := r1.tup t1.sub
      have hb : Is K Hs1 v (.tup ds) := by
        rcases r1 with r1 | ⟨_, _, _, e, _⟩
        · exact r1
        · cases e
      subst e1
      cases hb with
      | tup k1 k2 k3 =>
        exact .inr (.inl ⟨_, _, rfl, same_sqT t1.sub k1, p2 _ Hs1 H1 (.refl t1.sub) b1 ((wd_tup (K := K) h3).mono fun Hs2 H2 t => ⟨_, same_sqT t.sub (same_sqT t.st k1), k2.up t.st⟩)⟩)
    | lst es =>
      cases hd
      rcases r1 with r1 | ⟨p', vs, ds', e', rfl, n1, n2, n3, n4, n5⟩
      · cases r1 with
        | lst k1 k2 k3 =>
          exact .inl ⟨_, _, rfl, SqL.of (t1.sub _ _ k1), p2 _ Hs1 H1 (.refl t1.sub) b1 ((wd_list (K := K) k3).mono fun Hs2 H2 t => ⟨_, t.sub _ _ (t.st _ _ k1), k2.up t.st⟩)⟩
      · cases e'
        exact .inl ⟨_, _, rfl, SqL.of n3, p2 _ Hs1 H1 (.refl t1.sub) b1 ((wd_list (K := K) n5).mono fun Hs2 H2 t => ⟨_, t.keep _ _ n3 n1, n4.up t.st⟩)⟩
    | _ => cases hd)
theorem sn_range1 (ha : SnE K EX ta fa) : SnI K EX (iRng1 (tCons ta tNil)) (iRange1 fa) := fun PB Hs H σ ρ S R e b s p =>
  ha PB Hs H σ ρ S _ e b s (p.bind fun d S1 v Hs1 H1 t1 b1 r1 p1 => by
    cases d with
    | int n =>
      cases r1
      dsimp only at p1
      by_cases hn : -BIG ≤ n ∧ n ≤ (LIM : Int)
      · rw [if_pos hn] at p1
        have h0 := hn.1
        unfold BIG at h0
        refine ⟨n, rfl, by omega, Int.lt_of_le_of_lt hn.2 (by decide), ?_⟩
        exact p1 _ Hs1 H1 (.refl t1.sub) b1 ((wd_range (K := K) (by have := hn.2; omega)).mono fun _ _ _ => trivial)
      · rw [if_neg hn] at p1; exact False.elim p1
    | _ => exact False.elim p1)
theorem sn_range2 (ha : SnE K EX ta fa) (hb : SnE K EX tb fb) : SnI K EX (iRng2 (tCons ta (tCons tb tNil))) (iRange2 fa fb) := fun PB Hs H σ ρ S R e b s p =>
  ha PB Hs H σ ρ S _ e b s (p.bind fun d S1 v Hs1 H1 t1 b1 r1 p1 =>
    hb PB Hs1 H1 σ ρ S1 _ (e.tr t1) b1 t1.sub (p1.bind fun d' S2 v' Hs2 H2 t2 b2 r2 p2 => by
      cases d with
      | int lo =>
        cases d' with
        | int hi =>
          cases r1
          cases r2
          dsimp only at p2
          by_cases hn : -BIG ≤ lo ∧ lo ≤ BIG ∧ -BIG ≤ hi ∧ hi ≤ BIG ∧ hi - lo ≤ (LIM : Int)
          · rw [if_pos hn] at p2
            obtain ⟨h1, h2, h3, h4, h5⟩ := hn
            unfold BIG at h1 h2 h3 h4
            exact ⟨lo, hi, rfl, ⟨by omega, by omega, by omega, by omega⟩, p2 _ Hs2 H2 (.refl t2.sub) b2 ((wd_range (K := K) (by omega)).mono fun _ _ _ => trivial)⟩
          · rw [if_neg hn] at p2; exact False.elim p2
        | _ => exact False.elim p2
      | _ => exact False.elim p2))
theorem sn_enum (ha : SnE K EX ta fa) : SnI K EX (iEnumAny K (tCons ta tNil)) (iEnum fa) := fun PB Hs H σ ρ S R e b s p =>
  ha PB Hs H σ ρ S _ e b s (p.bind fun d S1 v Hs1 H1 t1 b1 r1 p1 => by
    cases r1 with
    | str x hx => exact .inr (.inr ⟨_, rfl, p1 _ Hs1 H1 (.refl t1.sub) b1 ((wd_enumX hx).mono fun _ _ _ => trivial)⟩)
    | tup h1 h2 h3 => exact .inr (.inl ⟨_, _, rfl, same_sqT t1.sub h1, p1 _ Hs1 H1 (.refl t1.sub) b1 (by
        refine ⟨by rw [enumFrom_len]; exact h3, fun i Hs2 H2 hi s2 g => ?_, fun Hs2 H2 s2 g => ?_, fun i Hs2 H2 x H' hi s2 g y => ?_⟩
        · exact (wd_enumT (K := K) h3 h2.len).goes i Hs2 H2 hi s2 ⟨same_sqT s2 (same_sqT g h1), h2.up g⟩
        · exact (wd_enumT (K := K) h3 h2.len).stops Hs2 H2 s2 ⟨same_sqT s2 (same_sqT g h1), h2.up g⟩
        · exact (wd_enumT (K := K) h3 h2.len).yields i Hs2 H2 x H' hi s2 ⟨same_sqT s2 (same_sqT g h1), h2.up g⟩ y)⟩)
    | lst h1 h2 h3 => exact .inl ⟨_, _, rfl, SqL.of (t1.sub _ _ h1), p1 _ Hs1 H1 (.refl t1.sub) b1 (by
        refine ⟨by rw [enumFrom_len]; exact h3, fun i Hs2 H2 hi s2 g => ?_, fun Hs2 H2 s2 g => ?_, fun i Hs2 H2 x H' hi s2 g y => ?_⟩
        · exact (wd_enumL (K := K) h3).goes i Hs2 H2 hi s2 ⟨_, s2 _ _ (g _ _ h1), h2.up g⟩
        · exact (wd_enumL (K := K) h3).stops Hs2 H2 s2 ⟨_, s2 _ _ (g _ _ h1), h2.up g⟩
        · exact (wd_enumL (K := K) h3).yields i Hs2 H2 x H' hi s2 ⟨_, s2 _ _ (g _ _ h1), h2.up g⟩ y)⟩
    | _ => exact False.elim p1)
/-! ### targets -/
theorem EnvIs.setPv {PB : List Addr} {Hs H : Hp} {σ : L2.St} {ρ : Env} {i : Nat} {v : V} {d : D} (e : EnvIs K PB Hs H σ ρ) (hi : i < ρ.length) (h : Is K Hs v d) : EnvIs K PB Hs H (σ.set i (some v)) (ρ.set i (.pv d)) := by
  have hs : i < σ.length := by rw [e.len]; exact hi
  have ne : ∀ j (sl : Slot), (ρ.set i (.pv d))[j]? = some sl → sl ≠ .pv d → j ≠ i ∧ ρ[j]? = some sl := fun j sl q n => by
    by_cases hj : i = j
    · subst hj
      rw [List.getElem?_set_self hi] at q
      exact absurd (Option.some.inj q).symm n
    · rw [List.getElem?_set_ne hj] at q
      exact ⟨fun z => hj z.symm, q⟩
  refine ⟨by rw [List.length_set, List.length_set]; exact e.len, fun j d' q => ?_, fun j ds q => ?_, fun j k ds es w q1 q2 q3 q4 => ?_, fun j q => ?_⟩
  · by_cases hj : i = j
    · subst hj
      rw [List.getElem?_set_self hi] at q
      cases q
      exact ⟨v, List.getElem?_set_self hs, h⟩
    · rw [List.getElem?_set_ne hj] at q
      obtain ⟨u, h1, h2⟩ := e.pv j d' q
      exact ⟨u, by rw [List.getElem?_set_ne hj]; exact h1, h2⟩
  · obtain ⟨hj, q⟩ := ne j _ q (by simp)
    obtain ⟨p, vs, h1, r⟩ := e.own j ds q
    exact ⟨p, vs, by rw [List.getElem?_set_ne (Ne.symm hj)]; exact h1, r⟩
  · obtain ⟨hj, q1⟩ := ne j _ q1 (by simp)
    obtain ⟨hk, q2⟩ := ne k _ q2 (by simp)
    rw [List.getElem?_set_ne (Ne.symm hj)] at q3
    rw [List.getElem?_set_ne (Ne.symm hk)] at q4
    exact e.one j k ds es w q1 q2 q3 q4
  · obtain ⟨hj, q⟩ := ne j _ q (by simp)
    obtain ⟨B, C, h1, h2⟩ := e.box j q
    exact ⟨B, C, h1, by rw [List.getElem?_set_ne (Ne.symm hj)]; exact h2⟩
/-- the slots js are set; the new slots fit in any later heap in which the old ones do -/
def SnG (K : PySem.W.Frag) (js : List Nat) (t : TG) (g : Tg) : Prop := ∀ Hs H σ ρ v d ρ' Q, Same Hs H → Is K Hs v d → g d ρ = some ρ' → (∀ σ', (∀ PB Hs' H', Same Hs Hs' → EnvIs K PB Hs' H' σ ρ → EnvIs K PB Hs' H' σ' ρ') → (∀ vs, (∀ j ∈ js, j ∈ vs) → wipe σ' vs = wipe σ vs) → Q σ' H) → t v σ H Q
def SnGs (K : PySem.W.Frag) (js : List Nat) (t : TGs) (g : List D → Env → Option Env) : Prop := ∀ Hs H σ ρ v d ρ' Q, Same Hs H → IsAll K Hs v d → g d ρ = some ρ' → (∀ σ', (∀ PB Hs' H', Same Hs Hs' → EnvIs K PB Hs' H' σ ρ → EnvIs K PB Hs' H' σ' ρ') → (∀ vs, (∀ j ∈ js, j ∈ vs) → wipe σ' vs = wipe σ vs) → Q σ' H) → t v σ H Q
theorem wipe_set {σ : L2.St} {i : Nat} {o : Option V} : ∀ {vs : List Nat}, i ∈ vs → wipe (σ.set i o) vs = wipe σ vs
  | v :: vs, h => by
    unfold wipe
    by_cases hm : i ∈ vs
    · rw [wipe_set hm]
    · have e : i = v := by
        rcases List.mem_cons.mp h with e | e
        · exact e
        · exact absurd e hm
      subst e
      have hw : ∀ (ws : List Nat), i ∉ ws → wipe (σ.set i o) ws = (wipe σ ws).set i o := by
        intro ws
        induction ws with
        | nil => intro _; rfl
        | cons w ws ih =>
          intro hn
          rw [List.mem_cons, not_or] at hn
          unfold wipe
          rw [ih hn.2, List.set_comm _ _ hn.1]
      rw [hw vs hm, List.set_set]
theorem sn_gname {i : Nat} : SnG K [i] (gName i) (gN i) := fun Hs H σ ρ v d ρ' Q s h hg k => by
  unfold gN at hg
  by_cases hi : i < ρ.length
  · rw [if_pos hi] at hg
    cases hg
    exact k _ (fun PB Hs' H' e' e => e.setPv hi (h.up e')) fun vs hv => wipe_set (hv i (by simp))
  · rw [if_neg hi] at hg; cases hg
theorem sn_gnil : SnGs K [] gNil gsNil := fun Hs H σ ρ v d ρ' Q s h hg k => by
  cases h with
  | nil => cases hg; exact ⟨rfl, k σ (fun _ _ _ _ e => e) fun _ _ => rfl⟩
  | cons _ _ => cases hg
theorem sn_gcons {js ks : List Nat} {t : TG} {g : Tg} {ts : TGs} {gs : List D → Env → Option Env} (h1 : SnG K js t g) (h2 : SnGs K ks ts gs) : SnGs K (js ++ ks) (gCons t ts) (gsCons g gs) := fun Hs H σ ρ v d ρ' Q s h hg k => by
  cases h with
  | nil => cases hg
  | cons hx hr =>
    dsimp only [gsCons] at hg
    cases q : g _ ρ with
    | none => rw [q] at hg; cases hg
    | some ρ1 =>
      rw [q] at hg
      refine ⟨_, _, rfl, h1 Hs H σ ρ _ _ ρ1 _ s hx q fun σ1 e1 w1 => ?_⟩
      exact h2 Hs H σ1 ρ1 _ _ ρ' _ s hr hg fun σ2 e2 w2 => k σ2 (fun PB Hs' H' z e => e2 PB Hs' H' z (e1 PB Hs' H' z e)) fun vs hv => (w2 vs fun j hj => hv j (List.mem_append_right _ hj)).trans (w1 vs fun j hj => hv j (List.mem_append_left _ hj))
theorem sn_gtup {ks : List Nat} {ts : TGs} {gs : List D → Env → Option Env} {n : Nat} (h : SnGs K ks ts gs) (hn : ∀ ds ρ ρ', gs ds ρ = some ρ' → ds.length = n) : SnG K ks (gTup K n ts) (gT gs) := fun Hs H σ ρ v d ρ' Q s hv hg k => by
  cases hv with
  | tup h1 h2 h3 =>
    exact ⟨_, _, rfl, same_sqT s h1, by rw [h2.len]; exact hn _ _ _ hg, h Hs H σ ρ _ _ ρ' Q s h2 hg k⟩
  | _ => cases hg
theorem gsn_nil : ∀ ds (ρ ρ' : Env), gsNil ds ρ = some ρ' → ds.length = 0 := fun ds ρ ρ' h => by
  cases ds with
  | nil => rfl
  | cons _ _ => cases h
theorem gsn_cons {g : Tg} {gs : List D → Env → Option Env} {n : Nat} (h : ∀ ds ρ ρ', gs ds ρ = some ρ' → ds.length = n) : ∀ ds ρ ρ', gsCons g gs ds ρ = some ρ' → ds.length = n + 1 := fun ds ρ ρ' q => by
  cases ds with
  | nil => cases q
  | cons d ds =>
    dsimp only [gsCons] at q
    cases e : g d ρ with
    | none => rw [e] at q; cases q
    | some ρ1 =>
      rw [e] at q
      rw [List.length_cons, h _ _ _ q]
/-! ### comprehensions -/
theorem EnvIs.unset {PB : List Addr} {Hs H : Hp} {σ : L2.St} {ρ : Env} {i : Nat} {o : Option V} (e : EnvIs K PB Hs H σ ρ) : EnvIs K PB Hs H (σ.set i o) (ρ.set i .no) := by
  have ne : ∀ j (sl : Slot), (ρ.set i .no)[j]? = some sl → sl ≠ .no → j ≠ i ∧ ρ[j]? = some sl := fun j sl q n => by
    by_cases hj : i = j
    · subst hj
      by_cases hi : i < ρ.length
      · rw [List.getElem?_set_self hi] at q
        exact absurd (Option.some.inj q).symm n
      · rw [List.getElem?_eq_none (by simpa using hi)] at q; cases q
    · rw [List.getElem?_set_ne hj] at q
      exact ⟨fun z => hj z.symm, q⟩
  refine ⟨by rw [List.length_set, List.length_set]; exact e.len, fun j d' q => ?_, fun j ds q => ?_, fun j k ds es w q1 q2 q3 q4 => ?_, fun j q => ?_⟩
  · obtain ⟨hj, q⟩ := ne j _ q (by simp)
    obtain ⟨u, h1, h2⟩ := e.pv j d' q
    exact ⟨u, by rw [List.getElem?_set_ne (Ne.symm hj)]; exact h1, h2⟩
  · obtain ⟨hj, q⟩ := ne j _ q (by simp)
    obtain ⟨p, vs, h1, r⟩ := e.own j ds q
    exact ⟨p, vs, by rw [List.getElem?_set_ne (Ne.symm hj)]; exact h1, r⟩
  · obtain ⟨hj, q1⟩ := ne j _ q1 (by simp)
    obtain ⟨hk, q2⟩ := ne k _ q2 (by simp)
    rw [List.getElem?_set_ne (Ne.symm hj)] at q3
    rw [List.getElem?_set_ne (Ne.symm hk)] at q4
    exact e.one j k ds es w q1 q2 q3 q4
  · obtain ⟨hj, q⟩ := ne j _ q (by simp)
    obtain ⟨B, C, h1, h2⟩ := e.box j q
    exact ⟨B, C, h1, by rw [List.getElem?_set_ne (Ne.symm hj)]; exact h2⟩
theorem EnvIs.wipe {PB : List Addr} {Hs H : Hp} {σ : L2.St} {ρ : Env} (e : EnvIs K PB Hs H σ ρ) : ∀ vs : List Nat, EnvIs K PB Hs H (wipe σ vs) (wipeE ρ vs)
  | [] => e
  | v :: vs => by
    unfold L2.wipe wipeE
    exact (e.wipe vs).unset
end
end DN

set_option Elab.async false
set_option linter.all false
set_option maxRecDepth 100000
namespace DN
open PySem L2
abbrev EXn : Exn → Hp → Prop := fun _ _ => False
section
variable {K : PySem.W.Frag} {EX : Exn → Hp → Prop} {ta tb te : TE} {fa fb fe : Den} {tt : TT} {c : DenT} {wi wi1 : TI} {fi fi1 : DenL} {g g1 : TG} {gD gD1 : Tg} {js js1 vs vs1 : List Nat}
theorem ok_bind {α β : Type} {m : M α} {k : α → M β} {S S' : BX} {r : β} (h : (m >>= k) S = .ok r S') : ∃ a S1, m S = .ok a S1 ∧ k a S1 = .ok r S' := by
  rw [bind_def] at h
  unfold M.bind at h
  cases e : m S with
  | ok a S1 => rw [e] at h; exact ⟨a, S1, rfl, h⟩
  | exc x S1 => rw [e] at h; cases h
  | bad => rw [e] at h; cases h
theorem ok_nox {α : Type} {m : M α} {S S' : BX} {r : α} (h : m.nox S = .ok r S') : m S = .ok r S' := by
  unfold M.nox at h
  cases e : m S with
  | ok a S1 => rw [e] at h; exact h
  | exc x S1 => rw [e] at h; cases h
  | bad => rw [e] at h; cases h
theorem ok_of {α : Type} {o : Option α} {S S' : BX} {r : α} (h : M.of o S = .ok r S') : o = some r ∧ S' = S := by
  cases o with
  | none => cases h
  | some a => cases h; exact ⟨rfl, rfl⟩
theorem Post.okN {α β : Type} {PB : List Addr} {Hs H : Hp} {R1 : Hp → Hp → β → α → Prop} {Q1 : β → Hp → Prop} {r : Res α} {a : α} {S1 : BX} (e : r = .ok a S1) (h : ∀ b Hs' H', Tr PB Hs H Hs' H' → BoxIs PB Hs' H' S1 → R1 Hs' H' b a → Q1 b H') : Post EX PB Hs H R1 Q1 r := by
  rw [e]; exact h
theorem wipe_wipe (σ : L2.St) (vs : List Nat) : wipe (wipe σ vs) vs = wipe σ vs := by
  have : ∀ ws : List Nat, (∀ x ∈ ws, x ∈ vs) → wipe (wipe σ ws) vs = wipe σ vs := by
    intro ws
    induction ws with
    | nil => intro _; rfl
    | cons w ws ih =>
      intro h
      show wipe ((wipe σ ws).set w none) vs = _
      rw [wipe_set (h w (by simp)), ih fun x hx => h x (List.mem_cons_of_mem _ hx)]
  exact this vs fun _ h => h
theorem Tr.mutU {PB : List Addr} {Hs1 H1 Hs H : Hp} {Dl : Addr} {o : HO} (t : Tr PB Hs1 H1 Hs H) (h1 : H1 Dl = none) (h2 : Hs Dl = none) : Tr PB Hs1 H1 Hs (upd H Dl o) :=
  ⟨t.st, fun x u e => by rw [upd_ne (ne_of_none e h2)]; exact t.sub x u e, fun x u e n => by rw [upd_ne (ne_of_none e h1)]; exact t.keep x u e n, t.un, fun x e => by
    by_cases hx : x = Dl
    · rw [hx]; exact h1
    · rw [upd_ne hx] at e; exact t.old x e⟩
theorem BoxIs.upd {PB : List Addr} {Hs H : Hp} {S : BX} {Dl : Addr} {o : HO} (b : BoxIs PB Hs H S) (h : Dl ∉ PB) : BoxIs PB Hs (upd H Dl o) S := by
  cases S with
  | off => exact b
  | on cells ns =>
    obtain ⟨B, C, e, ne, h1, h2, h3, h4⟩ := b
    rw [e] at h
    simp only [List.mem_cons, List.not_mem_nil, or_false, not_or] at h
    exact ⟨B, C, e, ne, h1, h2, by rw [upd_ne (Ne.symm h.1)]; exact h3, by rw [upd_ne (Ne.symm h.2)]; exact h4⟩
theorem BoxIs.notIn {PB : List Addr} {Hs H : Hp} {S : BX} {Dl : Addr} (b : BoxIs PB Hs H S) (h : H Dl = none) : Dl ∉ PB := fun m => by
  cases S with
  | off => rw [show PB = [] from b] at m; cases m
  | on cs ns =>
    obtain ⟨B, C, eB, _, _, _, h3, h4⟩ := b
    rw [eB] at m
    simp only [List.mem_cons, List.not_mem_nil, or_false] at m
    rcases m with rfl | rfl
    · rw [h] at h3; cases h3
    · rw [h] at h4; cases h4
/-- the state of a comprehension's new list -/
structure LcSt (K : PySem.W.Frag) (PB : List Addr) (Hs1 H1 : Hp) (Dl : Addr) (acc : List D) (S : BX) (Hs H : Hp) : Prop where
  tr : Tr PB Hs1 H1 Hs H
  box : BoxIs PB Hs H S
  un : Hs Dl = none
  at_ : ∃ vs, H Dl = some (.lst vs) ∧ IsAll K Hs vs acc
theorem LcSt.push {PB : List Addr} {Hs1 H1 : Hp} {Dl : Addr} {acc : List D} {S S4 : BX} {Hs H Hs4 H4 : Hp} {y : V} {yd : D} (l : LcSt K PB Hs1 H1 Dl acc S Hs H) (h1 : H1 Dl = none) (hpb : Dl ∉ PB) (hn : acc.length < LIM) (t : Tr PB Hs H Hs4 H4) (b : BoxIs PB Hs4 H4 S4) (i : Is K Hs4 y yd) :
    ∃ vs, H4 Dl = some (.lst vs) ∧ vs.length < sizeLine ∧ LcSt K PB Hs1 H1 Dl (acc ++ [yd]) S4 Hs4 (upd H4 Dl (.lst (vs ++ [y]))) := by
  obtain ⟨vs, hv, ha⟩ := l.at_
  refine ⟨vs, t.keep _ _ hv hpb, by rw [ha.len]; exact lim_lt (by omega), ?_⟩
  have u4 : Hs4 Dl = none := t.un _ _ hv l.un
  exact ⟨(l.tr.trans t).mutU h1 u4, b.upd hpb, u4, ⟨_, upd_same, (ha.up t.st).snoc i⟩⟩
theorem LcSt.go {PB : List Addr} {Hs1 H1 : Hp} {Dl : Addr} {acc : List D} {S S4 : BX} {Hs H Hs4 H4 : Hp} (l : LcSt K PB Hs1 H1 Dl acc S Hs H) (hpb : Dl ∉ PB) (t : Tr PB Hs H Hs4 H4) (b : BoxIs PB Hs4 H4 S4) : LcSt K PB Hs1 H1 Dl acc S4 Hs4 H4 := by
  obtain ⟨vs, hv, ha⟩ := l.at_
  exact ⟨l.tr.trans t, b, t.un _ _ hv l.un, ⟨vs, t.keep _ _ hv hpb, ha.up t.st⟩⟩
theorem LcSt.isL {PB : List Addr} {H0 Hs1 H1 : Hp} {Dl : Addr} {acc : List D} {S : BX} {Hs H : Hp} (l : LcSt K PB Hs1 H1 Dl acc S Hs H) (h0 : H0 Dl = none) (hpb : Dl ∉ PB) (hn : acc.length ≤ LIM) : IsL K PB H0 Hs H (.ref Dl) acc := by
  obtain ⟨vs, hv, ha⟩ := l.at_
  exact ⟨Dl, vs, rfl, h0, hpb, l.un, hv, ha, hn⟩
theorem drop_at {α : Type} {ds : List α} {i : Nat} {d : α} (hd : ds[i]? = some d) : ds.drop i = d :: ds.drop (i + 1) := by
  obtain ⟨h, e⟩ := List.getElem?_eq_some_iff.mp hd
  rw [List.drop_eq_getElem_cons h, e]
theorem gather_nil {ρ : Env} : gather gD c fe ρ [] = M.pure [] := rfl
theorem gather_cons {ρ : Env} {d : D} {ds : List D} : gather gD c fe ρ (d :: ds) = (M.of (gD d ρ) >>= fun ρ' => (c ρ').nox >>= fun k =>
    if k then (fe ρ').nox >>= fun y => gather gD c fe ρ ds >>= fun ys => M.pure (y :: ys) else gather gD c fe ρ ds) := rfl
theorem gather_len : ∀ {ds : List D} {ρ : Env} {S S' : BX} {ys : List D}, gather gD c fe ρ ds S = .ok ys S' → ys.length ≤ ds.length
  | [], _, _, _, _, h => by cases h; exact Nat.le_refl _
  | d :: ds, ρ, S, S', ys, h => by
    rw [gather_cons] at h
    obtain ⟨ρ', S1, _, h⟩ := ok_bind h
    obtain ⟨k, S2, _, h⟩ := ok_bind h
    cases k with
    | true =>
      obtain ⟨y, S3, _, h⟩ := ok_bind h
      obtain ⟨zs, S4, h4, h⟩ := ok_bind h
      cases h
      exact Nat.succ_le_succ (gather_len h4)
    | false => exact Nat.le_succ_of_le (gather_len h)
theorem sn_lc (hi : SnIC K EX wi fi) (hg : SnG K js g gD) (hjs : ∀ j ∈ js, j ∈ vs) (ht : SnT K EXn tt c) (he : SnE K EXn te fe) : SnL K EX (tLc wi g tt te vs) (lLc fi gD c fe vs) := by
  intro PB Hs H σ ρ S Q env bx same p
  refine hi PB Hs H σ ρ S _ env bx same (p.bind fun ds S1 J Hs1 H1 t1 b1 w p1 => fun Dl hD => ?_)
  have hpb : Dl ∉ PB := b1.notIn hD
  have hH : H Dl = none := t1.old Dl hD
  have hlen := w.len
  unfold M.nox at p1
  obtain ⟨zs, S5, hz⟩ : ∃ zs S5, gather gD c fe (wipeE ρ vs) ds S1 = .ok zs S5 := by
    cases q : gather gD c fe (wipeE ρ vs) ds S1 with
    | ok zs S5 => exact ⟨zs, S5, rfl⟩
    | exc x S5 => rw [q] at p1; exact p1.elim
    | bad => rw [q] at p1; exact p1.elim
  rw [hz] at p1
  have hzl : zs.length ≤ LIM := Nat.le_trans (gather_len hz) hlen
  let Inv : Nat → Hp → Prop := fun i H' => i ≤ ds.length ∧ ∃ Hs' S' acc rest, LcSt K PB Hs1 H1 Dl acc S' Hs' H' ∧ gather gD c fe (wipeE ρ vs) (ds.drop i) S' = .ok rest S5 ∧ acc ++ rest = zs
  refine ⟨fun i m H' => m = ds.length - i ∧ Inv i H', ⟨_, rfl, Nat.zero_le _, Hs1, S1, [], zs, ⟨.newU t1.sub hD, b1.upd hpb, t1.sub.free hD, ⟨[], upd_same, .nil⟩⟩, hz, rfl⟩, ?_⟩
  rintro i m H' ⟨rfl, hi', Hs', S', acc, rest, l, p', hzs⟩
  by_cases hlt : i < ds.length
  · refine .inr ⟨w.goes i Hs' H' hlt l.tr.sub l.tr, Inv (i + 1), fun H2 q => ⟨_, by omega, rfl, q⟩, fun x H2 y => ?_⟩
    obtain ⟨Hs2, d, hd, t2, ix⟩ := w.yields i Hs' H' x H2 hlt l.tr.sub l.tr y
    rw [drop_at hd, gather_cons] at p'
    obtain ⟨ρ', S1', hρ0, q1⟩ := ok_bind p'
    obtain ⟨hρ, eS⟩ := ok_of hρ0
    rw [eS] at q1
    obtain ⟨k, S3, hk, q2⟩ := ok_bind q1
    have l2 := l.go hpb t2.wide (l.box.tr t2)
    have e1 : EnvIs K PB Hs2 H2 (wipe σ vs) (wipeE ρ vs) := (env.tr (t1.trans l2.tr)).wipe vs
    refine hg Hs2 H2 _ _ x d ρ' _ t2.sub ix hρ fun σ2 tf2 w2 => ⟨by rw [w2 vs hjs, wipe_wipe], ?_⟩
    have e2 := tf2 PB Hs2 H2 (Same.refl _) e1
    refine ht PB Hs2 H2 σ2 ρ' _ _ e2 l2.box t2.sub (Post.okN (ok_nox hk) fun b Hs3 H3 t3 b3 r3 => ?_)
    subst r3
    have l3 := l2.go hpb t3 b3
    cases b with
    | true =>
      obtain ⟨yd, S4, hy, q3⟩ := ok_bind q2
      obtain ⟨ys, S6, hys, q4⟩ := ok_bind q3
      cases q4
      refine he PB Hs3 H3 σ2 ρ' S3 _ (e2.tr t3) b3 t3.sub (Post.okN (ok_nox hy) fun y4 Hs4 H4 t4 b4 r4 => ?_)
      have hal : acc.length < LIM := by
        have := congrArg List.length hzs
        rw [List.length_append, List.length_cons] at this
        omega
      obtain ⟨vs4, h4, h5, l4⟩ := l3.push hD hpb hal t4 b4 r4
      exact ⟨vs4, h4, h5, hlt, Hs4, S4, _, ys, l4, hys, by rw [List.append_assoc]; exact hzs⟩
    | false => exact ⟨hlt, Hs3, S3, acc, rest, l3, q2, hzs⟩
  · have e : i = ds.length := by omega
    subst e
    refine .inl ⟨w.stops Hs' H' l.tr.sub l.tr, ?_⟩
    rw [List.drop_length, gather_nil] at p'
    cases p'
    rw [List.append_nil] at hzs
    subst hzs
    exact p1 _ Hs' H' l.tr l.box (l.isL hH hpb hzl)
/-- a new list becomes stable -/
theorem sn_l2e {l : DenL} (h : SnL K EX ta l) : SnE K EX ta (eL l) := fun PB Hs H σ ρ S Q e b s p => h PB Hs H σ ρ S Q e b s (by
  unfold eL at p
  rw [bind_def] at p
  unfold M.bind at p
  cases q : l ρ S with
  | ok ds S1 =>
    rw [q] at p
    rintro v Hs2 H2 t bx ⟨q', vs, rfl, h0, hpb, hs, hh, hv, hl⟩
    have hst : Same Hs2 (upd Hs2 q' (.lst vs)) := fun x u z => by rw [upd_ne (ne_of_none z hs)]; exact z
    refine p _ (upd Hs2 q' (.lst vs)) H2 ⟨t.st.trans hst, fun x u z => ?_, t.keep, fun x u z z' => ?_, t.old⟩ ?_ (.lst upd_same (hv.up hst) hl)
    · by_cases hx : x = q'
      · subst hx; rw [upd_same] at z; cases z; exact hh
      · rw [upd_ne hx] at z; exact t.sub x u z
    · rw [upd_ne (ne_of_none z h0)]; exact t.un x u z z'
    · cases S1 with
      | off => exact bx
      | on cs ns =>
        obtain ⟨B, C, eB, ne, h1, h2, h3, h4⟩ := bx
        rw [eB] at hpb
        simp only [List.mem_cons, List.not_mem_nil, or_false, not_or] at hpb
        exact ⟨B, C, eB, ne, by rw [upd_ne (Ne.symm hpb.1)]; exact h1, by rw [upd_ne (Ne.symm hpb.2)]; exact h2, h3, h4⟩
  | exc x S1 => rw [q] at p; exact p
  | bad => rw [q] at p; exact p)
/-! two fors -/
theorem gather2_nil {ρ : Env} : gather2 gD c fi1 gD1 cc fe vs1 ρ [] = M.pure [] := rfl
theorem gather2_cons {cc : DenT} {ρ : Env} {d : D} {ds : List D} : gather2 gD c fi1 gD1 cc fe vs1 ρ (d :: ds) = (M.of (gD d ρ) >>= fun ρ' => (c ρ').nox >>= fun k =>
    if k then (fi1 ρ').nox >>= fun ds1 => gather gD1 cc fe (wipeE ρ' vs1) ds1 >>= fun ys => gather2 gD c fi1 gD1 cc fe vs1 ρ ds >>= fun zs => M.pure (ys ++ zs)
    else gather2 gD c fi1 gD1 cc fe vs1 ρ ds) := rfl
theorem sn_lc2 {tt1 : TT} {cc : DenT} (hi : SnIC K EX wi fi) (hg : SnG K js g gD) (hjs : ∀ j ∈ js, j ∈ vs) (ht : SnT K EXn tt c) (hi1 : SnI K EXn wi1 fi1) (hg1 : SnG K js1 g1 gD1) (hjs1 : ∀ j ∈ js1, j ∈ vs1) (ht1 : SnT K EXn tt1 cc) (he : SnE K EXn te fe) :
    SnL K EX (tLc2 wi g tt wi1 g1 tt1 te vs vs1) (lLc2 fi gD c fi1 gD1 cc fe vs vs1) := by
  intro PB Hs H σ ρ S Q env bx same p
  refine hi PB Hs H σ ρ S _ env bx same (p.bind fun ds S1 J Hs1 H1 t1 b1 w p1 => fun Dl hD => ?_)
  have hpb : Dl ∉ PB := b1.notIn hD
  have hH : H Dl = none := t1.old Dl hD
  have hlen := w.len
  obtain ⟨zs, S5, hz⟩ : ∃ zs S5, gather2 gD c fi1 gD1 cc fe vs1 (wipeE ρ vs) ds S1 = .ok zs S5 := by
    rw [bind_def] at p1
    unfold M.bind M.nox at p1
    cases q : gather2 gD c fi1 gD1 cc fe vs1 (wipeE ρ vs) ds S1 with
    | ok zs S5 => exact ⟨zs, S5, rfl⟩
    | exc x S5 => rw [q] at p1; exact p1.elim
    | bad => rw [q] at p1; exact p1.elim
  rw [bind_def] at p1
  unfold M.bind M.nox at p1
  rw [hz] at p1
  dsimp only at p1
  have hzl : zs.length ≤ LIM := by
    by_cases h : zs.length ≤ LIM
    · exact h
    · rw [if_neg h] at p1; exact p1.elim
  rw [if_pos hzl] at p1
  let Inv : Nat → Hp → Prop := fun i H' => i ≤ ds.length ∧ ∃ Hs' S' acc rest, LcSt K PB Hs1 H1 Dl acc S' Hs' H' ∧ gather2 gD c fi1 gD1 cc fe vs1 (wipeE ρ vs) (ds.drop i) S' = .ok rest S5 ∧ acc ++ rest = zs
  refine ⟨fun i m H' => m = ds.length - i ∧ Inv i H', ⟨_, rfl, Nat.zero_le _, Hs1, S1, [], zs, ⟨.newU t1.sub hD, b1.upd hpb, t1.sub.free hD, ⟨[], upd_same, .nil⟩⟩, hz, rfl⟩, ?_⟩
  rintro i m H' ⟨rfl, hi', Hs', S', acc, rest, l, p', hzs⟩
  by_cases hlt : i < ds.length
  · refine .inr ⟨w.goes i Hs' H' hlt l.tr.sub l.tr, Inv (i + 1), fun H2 q => ⟨_, by omega, rfl, q⟩, fun x H2 y => ?_⟩
    obtain ⟨Hs2, d, hd, t2, ix⟩ := w.yields i Hs' H' x H2 hlt l.tr.sub l.tr y
    rw [drop_at hd, gather2_cons] at p'
    obtain ⟨ρ', S1', hρ0, q1⟩ := ok_bind p'
    obtain ⟨hρ, eS⟩ := ok_of hρ0
    rw [eS] at q1
    obtain ⟨k, S3, hk, q2⟩ := ok_bind q1
    have l2 := l.go hpb t2.wide (l.box.tr t2)
    have e1 : EnvIs K PB Hs2 H2 (wipe σ vs) (wipeE ρ vs) := (env.tr (t1.trans l2.tr)).wipe vs
    refine hg Hs2 H2 _ _ x d ρ' _ t2.sub ix hρ fun σ2 tf2 w2 => ⟨by rw [w2 vs hjs, wipe_wipe], ?_⟩
    have e2 := tf2 PB Hs2 H2 (Same.refl _) e1
    refine ht PB Hs2 H2 σ2 ρ' _ _ e2 l2.box t2.sub (Post.okN (ok_nox hk) fun b Hs3 H3 t3 b3 r3 => ?_)
    subst r3
    have l3 := l2.go hpb t3 b3
    cases b with
    | false => exact ⟨hlt, Hs3, S3, acc, rest, l3, q2, hzs⟩
    | true =>
      obtain ⟨ds1, S4, hds1, q3⟩ := ok_bind q2
      obtain ⟨ys, S6, hys, q4⟩ := ok_bind q3
      obtain ⟨rest2, S7, hr2, q5⟩ := ok_bind q4
      cases q5
      refine hi1 PB Hs3 H3 σ2 ρ' S3 _ (e2.tr t3) b3 t3.sub (Post.okN (ok_nox hds1) fun J1 Hs4 H4 t4 b4 w1 => ?_)
      have l4 := l3.go hpb t4 b4
      have hlen1 := w1.len
      -- the inner walk
      let Inv1 : Nat → Hp → Prop := fun j H' => j ≤ ds1.length ∧ ∃ Hs' S' acc1 rest1, LcSt K PB Hs1 H1 Dl acc1 S' Hs' H' ∧ Same Hs4 Hs' ∧ gather gD1 cc fe (wipeE ρ' vs1) (ds1.drop j) S' = .ok rest1 S6 ∧ acc1 ++ rest1 = acc ++ ys
      refine ⟨fun j m H' => m = ds1.length - j ∧ Inv1 j H', ⟨_, rfl, Nat.zero_le _, Hs4, S4, acc, ys, l4, Same.refl _, hys, rfl⟩, ?_⟩
      rintro j m H5 ⟨rfl, hj', Hs5, S5', acc1, rest1, l5, s45, p5, hac⟩
      by_cases hjlt : j < ds1.length
      · refine .inr ⟨w1.goes j Hs5 H5 hjlt l5.tr.sub s45, Inv1 (j + 1), fun H2 q => ⟨_, by omega, rfl, q⟩, fun x1 H6 y1 => ?_⟩
        obtain ⟨Hs6, d1, hd1, t6, ix1⟩ := w1.yields j Hs5 H5 x1 H6 hjlt l5.tr.sub s45 y1
        rw [drop_at hd1, gather_cons] at p5
        obtain ⟨ρ2, S6', hρ1, q6⟩ := ok_bind p5
        obtain ⟨hρ2, eS2⟩ := ok_of hρ1
        rw [eS2] at q6
        obtain ⟨k1, S8, hk1, q7⟩ := ok_bind q6
        have l6 := l5.go hpb t6.wide (l5.box.tr t6)
        have s46 : Same Hs4 Hs6 := s45.trans t6.st
        have s26 : Same Hs2 Hs6 := (t3.st.trans t4.st).trans s46
        have e6 : EnvIs K PB Hs6 H6 σ2 ρ' := tf2 PB Hs6 H6 s26 ((env.tr (t1.trans l6.tr)).wipe vs)
        refine hg1 Hs6 H6 _ _ x1 d1 ρ2 _ t6.sub ix1 hρ2 fun σ3 tf3 w3 => ⟨by rw [w3 vs1 hjs1, wipe_wipe], ?_⟩
        have e7 := tf3 PB Hs6 H6 (Same.refl _) (e6.wipe vs1)
        refine ht1 PB Hs6 H6 σ3 ρ2 _ _ e7 l6.box t6.sub (Post.okN (ok_nox hk1) fun b1 Hs7 H7 t7 b7 r7 => ?_)
        subst r7
        have l7 := l6.go hpb t7 b7
        cases b1 with
        | false => exact ⟨hjlt, Hs7, S8, acc1, rest1, l7, s46.trans t7.st, q7, hac⟩
        | true =>
          obtain ⟨yd, S9, hy, q8⟩ := ok_bind q7
          obtain ⟨zs1, S10, hzs1, q9⟩ := ok_bind q8
          cases q9
          refine he PB Hs7 H7 σ3 ρ2 S8 _ (e7.tr t7) b7 t7.sub (Post.okN (ok_nox hy) fun y4 Hs9 H9 t9 b9 r9 => ?_)
          have hal : acc1.length < LIM := by
            have h1 := congrArg List.length hac
            have h2 := congrArg List.length hzs
            rw [List.length_append, List.length_cons, List.length_append] at h1
            rw [List.length_append, List.length_append] at h2
            omega
          obtain ⟨vs4, h4, h5, l9⟩ := l7.push hD hpb hal t9 b9 r9
          exact ⟨vs4, h4, h5, hjlt, Hs9, S9, _, zs1, l9, (s46.trans t7.st).trans t9.st, hzs1, by rw [List.append_assoc]; exact hac⟩
      · have e : j = ds1.length := by omega
        subst e
        refine .inl ⟨w1.stops Hs5 H5 l5.tr.sub s45, ?_⟩
        rw [List.drop_length, gather_nil] at p5
        cases p5
        rw [List.append_nil] at hac
        subst hac
        exact ⟨hlt, Hs5, S6, _, rest2, l5, hr2, by rw [List.append_assoc]; exact hzs⟩
  · have e : i = ds.length := by omega
    subst e
    refine .inl ⟨w.stops Hs' H' l.tr.sub l.tr, ?_⟩
    rw [List.drop_length, gather2_nil] at p'
    cases p'
    rw [List.append_nil] at hzs
    subst hzs
    exact p1 _ Hs' H' l.tr l.box (l.isL hH hpb hzl)
end
end DN

set_option Elab.async false
set_option linter.all false
set_option maxRecDepth 100000
namespace DN
open PySem L2
/-! ### statements -/
/-- where the def was entered: its box's addresses, the stable heap, the heap -/
structure Base where
  PB : List Addr
  Hs : Hp
  H : Hp
structure StIs (K : PySem.W.Frag) (B : Base) (PB : List Addr) (Hs H : Hp) (σ : L2.St) (ρ : Env) (S : BX) : Prop where
  env : EnvIs K PB Hs H σ ρ
  box : BoxIs PB Hs H S
  base : Tr B.PB B.Hs B.H Hs H
  pb : ∀ b ∈ PB, b ∈ B.PB ∨ B.H b = none
  own : ∀ (i : Nat) (ds : List D) (p : Addr), ρ[i]? = some (.own ds) → σ[i]? = some (some (.ref p)) → B.H p = none
  sameB : B.PB ≠ [] → PB = B.PB
def PostS (K : PySem.W.Frag) (EX : Exn → Hp → Prop) (B : Base) (D : Ends) : Res Flow → Prop
  | .ok (.nx ρ) S => ∀ PB σ Hs H, StIs K B PB Hs H σ ρ S → D.nx σ H
  | .ok (.bk ρ) S => ∀ PB σ Hs H, StIs K B PB Hs H σ ρ S → D.bk σ H
  | .ok (.ct ρ) S => ∀ PB σ Hs H, StIs K B PB Hs H σ ρ S → D.ct σ H
  | .ok (.rt d) S => ∀ PB v Hs H, Tr B.PB B.Hs B.H Hs H → BoxIs PB Hs H S → (B.PB ≠ [] → PB = B.PB) → Is K Hs v d → D.rt v H
  | .exc x S => ∀ PB Hs H, Tr B.PB B.Hs B.H Hs H → BoxIs PB Hs H S → (B.PB ≠ [] → PB = B.PB) → EX x H
  | .bad => False
def SnS (K : PySem.W.Frag) (EX : Exn → Hp → Prop) (t : TS) (f : DenS) : Prop := ∀ B PB Hs H σ ρ S D, StIs K B PB Hs H σ ρ S → PostS K EX B D (f ρ S) → t D σ H
section
variable {K : PySem.W.Frag} {EX : Exn → Hp → Prop} {ta tb te : TE} {fa fb fe : Den} {tt : TT} {c : DenT} {wi : TI} {fi : DenL} {g : TG} {gD : Tg} {js : List Nat} {tA tB' : TS} {gA gB : DenS}
theorem StIs.baseTr {B : Base} {PB : List Addr} {Hs H : Hp} {σ : L2.St} {ρ : Env} {S : BX} (s : StIs K B PB Hs H σ ρ S) {Hs1 H1 : Hp} (t : Tr PB Hs H Hs1 H1) : Tr B.PB B.Hs B.H Hs1 H1 := by
  refine ⟨s.base.st.trans t.st, t.sub, fun a o e n => ?_, fun a o e n => ?_, fun a e => s.base.old a (t.old a e)⟩
  · refine t.keep a o (s.base.keep a o e n) fun m => ?_
    rcases s.pb a m with h | h
    · exact n h
    · rw [h] at e; cases e
  · have h2 : H a ≠ none := fun z => by rw [s.base.old a z] at e; cases e
    obtain ⟨o2, e2⟩ := some_ne h2
    exact t.un a o2 e2 (s.base.un a o e n)
theorem StIs.tr {B : Base} {PB : List Addr} {Hs H : Hp} {σ : L2.St} {ρ : Env} {S S1 : BX} (s : StIs K B PB Hs H σ ρ S) {Hs1 H1 : Hp} (t : Tr PB Hs H Hs1 H1) (b : BoxIs PB Hs1 H1 S1) : StIs K B PB Hs1 H1 σ ρ S1 :=
  ⟨s.env.tr t, b, s.baseTr t, s.pb, s.own, s.sameB⟩
/-- an expression within a statement -/
theorem PostS.bind {α β : Type} {B : Base} {PB : List Addr} {Hs H : Hp} {σ : L2.St} {ρ : Env} {S : BX} {D : Ends} {R1 : Hp → Hp → β → α → Prop} {Q1 : β → Hp → Prop} {m : M α} {k : α → M Flow} (s : StIs K B PB Hs H σ ρ S)
    (p : PostS K EX B D ((m >>= k) S)) (h : ∀ a S1 b Hs1 H1, Tr PB Hs H Hs1 H1 → StIs K B PB Hs1 H1 σ ρ S1 → R1 Hs1 H1 b a → PostS K EX B D (k a S1) → Q1 b H1) : Post EX PB Hs H R1 Q1 (m S) := by
  rw [bind_def] at p
  unfold M.bind at p
  cases e : m S with
  | ok a S1 =>
    rw [e] at p
    exact fun b Hs1 H1 t bx r => h a S1 b Hs1 H1 t (s.tr t bx) r p
  | exc x S1 => rw [e] at p; exact fun Hs1 H1 t bx => p PB Hs1 H1 (s.baseTr t) bx s.sameB
  | bad => rw [e] at p; exact p.elim
theorem PostS.of {α : Type} {B : Base} {D : Ends} {o : Option α} {k : α → M Flow} {S : BX} (p : PostS K EX B D ((M.of o >>= k) S)) : ∃ a, o = some a ∧ PostS K EX B D (k a S) := by
  cases o with
  | none => exact False.elim p
  | some a => exact ⟨a, rfl, p⟩
theorem ss_next : SnS K EX L2.tNext sNext := fun B PB Hs H σ ρ S D s p => p PB σ Hs H s
theorem ss_seq (ha : SnS K EX tA gA) (hb : SnS K EX tB' gB) : SnS K EX (tSeq tA tB') (sSeq gA gB) := fun B PB Hs H σ ρ S D s p => by
  refine ha B PB Hs H σ ρ S { D with nx := tB' D } s ?_
  unfold sSeq at p
  rw [bind_def] at p
  unfold M.bind at p
  cases e : gA ρ S with
  | ok f S1 =>
    rw [e] at p
    cases f with
    | nx ρ' => exact fun PB' σ' Hs' H' s' => hb B PB' Hs' H' σ' ρ' S1 D s' p
    | rt d => exact p
    | bk ρ' => exact p
    | ct ρ' => exact p
  | exc x S1 => rw [e] at p; exact p
  | bad => rw [e] at p; exact p
theorem ss_ret (he : SnE K EX te fe) : SnS K EX (tRet te) (sRet fe) := fun B PB Hs H σ ρ S D s p =>
  he PB Hs H σ ρ S _ s.env s.box s.base.sub (PostS.bind s p fun d S1 v Hs1 H1 t1 s1 r1 p1 => p1 PB v Hs1 H1 s1.base s1.box s1.sameB r1)
theorem ss_retN : SnS K EX tRetN sRetN := fun B PB Hs H σ ρ S D s p => p PB _ Hs H s.base s.box s.sameB .non
theorem ss_if (hc : SnT K EX tt c) (ha : SnS K EX tA gA) (hb : SnS K EX tB' gB) : SnS K EX (tIfS tt tA tB') (sIf c gA gB) := fun B PB Hs H σ ρ S D s p =>
  hc PB Hs H σ ρ S _ s.env s.box s.base.sub (PostS.bind s p fun k S1 b Hs1 H1 t1 s1 r1 p1 => by
    subst r1
    cases b with
    | true => exact ha B PB Hs1 H1 σ ρ S1 D s1 p1
    | false => exact hb B PB Hs1 H1 σ ρ S1 D s1 p1)
theorem ss_break : SnS K EX tBreak sBreak := fun B PB Hs H σ ρ S D s p => p PB σ Hs H s
theorem ss_cont : SnS K EX L2.tCont sCont := fun B PB Hs H σ ρ S D s p => p PB σ Hs H s
theorem ss_drop (he : SnE K EX te fe) : SnS K EX (tDrop te) (sDrop fe) := fun B PB Hs H σ ρ S D s p =>
  he PB Hs H σ ρ S _ s.env s.box s.base.sub (PostS.bind s p fun d S1 v Hs1 H1 t1 s1 r1 p1 => p1 PB σ Hs1 H1 s1)
/-- a target keeps what was one's own, or forgets it -/
def KeepsOwn (gD : Tg) : Prop := ∀ d ρ ρ', gD d ρ = some ρ' → ∀ (i : Nat) ds, ρ'[i]? = some (.own ds) → ρ[i]? = some (.own ds)
/-- where a slot is one's own behind the target it holds what it held -/
def SnGo (K : PySem.W.Frag) (t : TG) (g : Tg) : Prop := ∀ Hs H σ ρ v d ρ' Q, Same Hs H → Is K Hs v d → g d ρ = some ρ' → (∀ σ', (∀ PB Hs' H', Same Hs Hs' → EnvIs K PB Hs' H' σ ρ → EnvIs K PB Hs' H' σ' ρ') → (∀ (i : Nat) ds, ρ'[i]? = some (.own ds) → ρ[i]? = some (.own ds) ∧ σ'[i]? = σ[i]?) → Q σ' H) → t v σ H Q
def SnGos (K : PySem.W.Frag) (t : TGs) (g : List D → Env → Option Env) : Prop := ∀ Hs H σ ρ v d ρ' Q, Same Hs H → IsAll K Hs v d → g d ρ = some ρ' → (∀ σ', (∀ PB Hs' H', Same Hs Hs' → EnvIs K PB Hs' H' σ ρ → EnvIs K PB Hs' H' σ' ρ') → (∀ (i : Nat) ds, ρ'[i]? = some (.own ds) → ρ[i]? = some (.own ds) ∧ σ'[i]? = σ[i]?) → Q σ' H) → t v σ H Q
theorem set_own {ρ : Env} {σ : L2.St} {i : Nat} {d : D} {o : Option V} : ∀ (j : Nat) ds, (ρ.set i (.pv d))[j]? = some (.own ds) → ρ[j]? = some (.own ds) ∧ (σ.set i o)[j]? = σ[j]? := fun j ds h => by
  by_cases hj : i = j
  · subst hj
    by_cases hi : i < ρ.length
    · rw [List.getElem?_set_self hi] at h; cases h
    · rw [List.getElem?_eq_none (by simpa using hi)] at h; cases h
  · rw [List.getElem?_set_ne hj] at h
    exact ⟨h, List.getElem?_set_ne hj⟩
theorem so_gname {i : Nat} : SnGo K (gName i) (gN i) := fun Hs H σ ρ v d ρ' Q s h hg k => by
  unfold gN at hg
  by_cases hi : i < ρ.length
  · rw [if_pos hi] at hg
    cases hg
    exact k _ (fun PB Hs' H' e' e => e.setPv hi (h.up e')) fun j ds q => set_own j ds q
  · rw [if_neg hi] at hg; cases hg
theorem so_gnil : SnGos K gNil gsNil := fun Hs H σ ρ v d ρ' Q s h hg k => by
  cases h with
  | nil => cases hg; exact ⟨rfl, k σ (fun _ _ _ _ e => e) fun _ _ q => ⟨q, rfl⟩⟩
  | cons _ _ => cases hg
theorem so_gcons {t : TG} {g : Tg} {ts : TGs} {gs : List D → Env → Option Env} (h1 : SnGo K t g) (h2 : SnGos K ts gs) : SnGos K (gCons t ts) (gsCons g gs) := fun Hs H σ ρ v d ρ' Q s h hg k => by
  cases h with
  | nil => cases hg
  | cons hx hr =>
    dsimp only [gsCons] at hg
    cases q : g _ ρ with
    | none => rw [q] at hg; cases hg
    | some ρ1 =>
      rw [q] at hg
      refine ⟨_, _, rfl, h1 Hs H σ ρ _ _ ρ1 _ s hx q fun σ1 e1 w1 => ?_⟩
      exact h2 Hs H σ1 ρ1 _ _ ρ' _ s hr hg fun σ2 e2 w2 => k σ2 (fun PB Hs' H' z e => e2 PB Hs' H' z (e1 PB Hs' H' z e)) fun j ds z =>
        let ⟨a, b⟩ := w2 j ds z
        let ⟨a', b'⟩ := w1 j ds a
        ⟨a', b.trans b'⟩
theorem so_gtup {ts : TGs} {gs : List D → Env → Option Env} {n : Nat} (h : SnGos K ts gs) (hn : ∀ ds ρ ρ', gs ds ρ = some ρ' → ds.length = n) : SnGo K (gTup K n ts) (gT gs) := fun Hs H σ ρ v d ρ' Q s hv hg k => by
  cases hv with
  | tup h1 h2 h3 =>
    exact ⟨_, _, rfl, same_sqT s h1, by rw [h2.len]; exact hn _ _ _ hg, h Hs H σ ρ _ _ ρ' Q s h2 hg k⟩
  | _ => cases hg
theorem StIs.target {B : Base} {PB : List Addr} {Hs H : Hp} {σ σ' : L2.St} {ρ ρ' : Env} {S : BX} (s : StIs K B PB Hs H σ ρ S) (e : EnvIs K PB Hs H σ' ρ') (w : ∀ (i : Nat) ds, ρ'[i]? = some (.own ds) → ρ[i]? = some (.own ds) ∧ σ'[i]? = σ[i]?) : StIs K B PB Hs H σ' ρ' S :=
  ⟨e, s.box, s.base, s.pb, fun i ds p h1 h2 => let ⟨a, b⟩ := w i ds h1; s.own i ds p a (b ▸ h2), s.sameB⟩
theorem ss_set (he : SnE K EX te fe) (hg : SnGo K g gD) : SnS K EX (tAsg te g) (sSet gD fe) := fun B PB Hs H σ ρ S D s p =>
  he PB Hs H σ ρ S _ s.env s.box s.base.sub (PostS.bind s p fun d S1 v Hs1 H1 t1 s1 r1 p1 => by
    obtain ⟨ρ', hρ, p2⟩ := p1.of
    exact hg Hs1 H1 σ ρ v d ρ' _ s1.base.sub r1 hρ fun σ' tf w => p2 PB σ' Hs1 H1 (s1.target (tf PB Hs1 H1 (Same.refl _) s1.env) w))
/-- a list of one's own is put into a slot -/
theorem EnvIs.setOwn {PB : List Addr} {Hs H : Hp} {σ : L2.St} {ρ : Env} {i : Nat} {p : Addr} {vs : List V} {ds : List D} (e : EnvIs K PB Hs H σ ρ) (hi : i < ρ.length) (hpb : p ∉ PB) (hs : Hs p = none) (hh : H p = some (.lst vs)) (hv : IsAll K Hs vs ds) (hl : ds.length ≤ LIM)
    (new : ∀ (j : Nat) es, j ≠ i → ρ[j]? = some (.own es) → σ[j]? ≠ some (some (.ref p))) : EnvIs K PB Hs H (σ.set i (some (.ref p))) (ρ.set i (.own ds)) := by
  have hσ : i < σ.length := by rw [e.len]; exact hi
  refine ⟨by rw [List.length_set, List.length_set]; exact e.len, fun j d q => ?_, fun j es q => ?_, fun j k es fs w q1 q2 q3 q4 => ?_, fun j q => ?_⟩
  · by_cases hj : i = j
    · subst hj; rw [List.getElem?_set_self hi] at q; cases q
    · rw [List.getElem?_set_ne hj] at q
      obtain ⟨u, h1, h2⟩ := e.pv j d q
      exact ⟨u, by rw [List.getElem?_set_ne hj]; exact h1, h2⟩
  · by_cases hj : i = j
    · subst hj
      rw [List.getElem?_set_self hi] at q
      cases q
      exact ⟨p, vs, List.getElem?_set_self hσ, hpb, hs, hh, hv, hl⟩
    · rw [List.getElem?_set_ne hj] at q
      obtain ⟨p', vs', h1, r⟩ := e.own j es q
      exact ⟨p', vs', by rw [List.getElem?_set_ne hj]; exact h1, r⟩
  · by_cases hj : i = j
    · by_cases hk : i = k
      · exact hj.symm.trans hk
      · subst hj
        rw [List.getElem?_set_self hσ] at q3
        cases q3
        rw [List.getElem?_set_ne hk] at q2 q4
        exact absurd q4 (new k fs (Ne.symm hk) q2)
    · by_cases hk : i = k
      · subst hk
        rw [List.getElem?_set_self hσ] at q4
        cases q4
        rw [List.getElem?_set_ne hj] at q1 q3
        exact absurd q3 (new j es (Ne.symm hj) q1)
      · rw [List.getElem?_set_ne hj] at q1 q3
        rw [List.getElem?_set_ne hk] at q2 q4
        exact e.one j k es fs w q1 q2 q3 q4
  · by_cases hj : i = j
    · subst hj; rw [List.getElem?_set_self hi] at q; cases q
    · rw [List.getElem?_set_ne hj] at q
      obtain ⟨B, C, h1, h2⟩ := e.box j q
      exact ⟨B, C, h1, by rw [List.getElem?_set_ne hj]; exact h2⟩
theorem ss_own {i : Nat} {l : DenL} (he : SnL K EX te l) : SnS K EX (tAsg te (gName i)) (sOwn i l) := fun B PB Hs H σ ρ S D s p =>
  he PB Hs H σ ρ S _ s.env s.box s.base.sub (PostS.bind s p fun ds S1 v Hs1 H1 t1 s1 r1 p1 => by
    obtain ⟨q, vs, rfl, h0, hpb, hs, hh, hv, hl⟩ := r1
    by_cases hi : i < ρ.length
    · rw [if_pos hi] at p1
      have hσ : i < σ.length := by rw [s1.env.len]; exact hi
      refine p1 PB _ Hs1 H1 ⟨s1.env.setOwn hi hpb hs hh hv hl fun j es hj h1 h2 => ?_, s1.box, s1.base, s1.pb, fun j es p' h1 h2 => ?_, s1.sameB⟩
      · obtain ⟨p', vs', k1, _, _, k4, _⟩ := s.env.own j es h1
        rw [h2] at k1
        cases k1
        rw [h0] at k4; cases k4
      · by_cases hj : i = j
        · subst hj
          rw [List.getElem?_set_self hσ] at h2
          cases h2
          exact s.base.old q h0
        · rw [List.getElem?_set_ne hj] at h1 h2
          exact s1.own j es p' h1 h2
    · rw [if_neg hi] at p1; exact False.elim p1)
/-- one's own list is changed in place: what is stable stays -/
theorem StIs.change {B : Base} {PB : List Addr} {Hs H : Hp} {σ : L2.St} {ρ : Env} {S : BX} {i : Nat} {p : Addr} {ws : List V} {ds es : List D} (s : StIs K B PB Hs H σ ρ S) (h1 : ρ[i]? = some (.own ds)) (h2 : σ[i]? = some (some (.ref p))) (hv : IsAll K Hs ws es) (hl : es.length ≤ LIM) :
    StIs K B PB Hs (upd H p (.lst ws)) σ (ρ.set i (.own es)) S := by
  obtain ⟨p', vs', k1, k2, k3, k4, k5, k6⟩ := s.env.own i ds h1
  rw [h2] at k1
  cases k1
  have hi : i < ρ.length := (List.getElem?_eq_some_iff.mp h1).1
  have hσ : i < σ.length := by rw [s.env.len]; exact hi
  have hB : B.H p = none := s.own i ds p h1 h2
  have e' : EnvIs K PB Hs (upd H p (.lst ws)) σ (ρ.set i (.own es)) := by
    refine ⟨by rw [List.length_set]; exact s.env.len, fun j d q => ?_, fun j fs q => ?_, fun j k fs gs w q1 q2 q3 q4 => ?_, fun j q => ?_⟩
    · by_cases hj : i = j
      · subst hj; rw [List.getElem?_set_self hi] at q; cases q
      · rw [List.getElem?_set_ne hj] at q
        exact s.env.pv j d q
    · by_cases hj : i = j
      · subst hj
        rw [List.getElem?_set_self hi] at q
        cases q
        exact ⟨p, ws, h2, k2, k3, upd_same, hv, hl⟩
      · rw [List.getElem?_set_ne hj] at q
        obtain ⟨p2, vs2, m1, m2, m3, m4, m5, m6⟩ := s.env.own j fs q
        have hne : p2 ≠ p := fun z => by
          subst z
          exact hj (s.env.one i j ds fs _ h1 q h2 m1)
        exact ⟨p2, vs2, m1, m2, m3, by rw [upd_ne hne]; exact m4, m5, m6⟩
    · have back : ∀ (j : Nat) (fs : List D), (ρ.set i (.own es))[j]? = some (.own fs) → ∃ fs', ρ[j]? = some (.own fs') := fun j fs q => by
        by_cases hj : i = j
        · subst hj; exact ⟨ds, h1⟩
        · rw [List.getElem?_set_ne hj] at q; exact ⟨fs, q⟩
      obtain ⟨a, ha⟩ := back j fs q1
      obtain ⟨b, hb⟩ := back k gs q2
      exact s.env.one j k a b w ha hb q3 q4
    · by_cases hj : i = j
      · subst hj; rw [List.getElem?_set_self hi] at q; cases q
      · rw [List.getElem?_set_ne hj] at q
        exact s.env.box j q
  refine ⟨e', s.box.upd k2, s.base.mutU hB k3, s.pb, fun j fs q m1 m2 => ?_, s.sameB⟩
  by_cases hj : i = j
  · subst hj
    rw [h2] at m2
    cases m2
    exact hB
  · rw [List.getElem?_set_ne hj] at m1
    exact s.own j fs q m1 m2
/-- xs.append(e) -/
theorem ss_app {i : Nat} (he : SnE K EX te fe) : SnS K EX (tDrop (tBM K "list" rAppend (tVar i) (tCons te tNil))) (sApp i fe) := fun B PB Hs H σ ρ S D s p => by
  unfold sApp at p
  cases q : ρ[i]? with
  | none => rw [q] at p; exact False.elim p
  | some sl =>
    rw [q] at p
    cases sl with
    | own ds =>
      obtain ⟨a, vs, h1, h2, h3, h4, h5, h6⟩ := s.env.own i ds q
      refine ⟨_, h1, .inl ⟨rfl, vs, SqL.of h4⟩, ?_⟩
      refine he PB Hs H σ ρ S _ s.env s.box s.base.sub (PostS.bind s p fun d S1 v Hs1 H1 t1 s1 r1 p1 => ?_)
      obtain ⟨a', vs', g1, g2, g3, g4, g5, g6⟩ := s1.env.own i ds q
      rw [h1] at g1
      cases g1
      by_cases hl : ds.length < LIM
      · rw [if_pos hl] at p1
        refine ⟨a, vs', v, rfl, rfl, g4, by rw [g5.len]; exact lim_lt (by omega), ?_⟩
        exact p1 PB σ Hs1 _ (s1.change q h1 (g5.snoc r1) (by rw [List.length_append]; simp; omega))
      · rw [if_neg hl] at p1; exact False.elim p1
    | no => exact False.elim p
    | pv d => exact False.elim p
    | box => exact False.elim p
/-- no code: a list of one's own is not changed any more -/
theorem ss_frz {i : Nat} {t : TS} {f : DenS} (h : SnS K EX t f) : SnS K EX t (sSeq (sFrz i) f) := fun B PB Hs H σ ρ S D s p => by
  unfold sSeq sFrz at p
  cases q : ρ[i]? with
  | none => rw [q] at p; exact False.elim p
  | some sl =>
    rw [q] at p
    cases sl with
    | own ds =>
      obtain ⟨a, vs, h1, h2, h3, h4, h5, h6⟩ := s.env.own i ds q
      have hi : i < ρ.length := (List.getElem?_eq_some_iff.mp q).1
      have st : Same Hs (upd Hs a (.lst vs)) := fun x u z => by rw [upd_ne (ne_of_none z h3)]; exact z
      have hB : B.H a = none := s.own i ds a q h1
      have sub : Same (upd Hs a (.lst vs)) H := fun x u z => by
        by_cases hx : x = a
        · subst hx; rw [upd_same] at z; cases z; exact h4
        · rw [upd_ne hx] at z; exact s.base.sub x u z
      have other : ∀ (j : Nat) es p', j ≠ i → ρ[j]? = some (.own es) → σ[j]? = some (some (.ref p')) → p' ≠ a := fun j es p' hj k1 k2 z => by
        subst z
        exact hj (s.env.one j i es ds _ k1 q k2 h1)
      refine h B PB (upd Hs a (.lst vs)) H σ (ρ.set i (.pv (.lst ds))) S D ⟨⟨by rw [List.length_set]; exact s.env.len, fun j d k => ?_, fun j es k => ?_, fun j k es fs w q1 q2 q3 q4 => ?_, fun j k => ?_⟩, ?_, ⟨s.base.st.trans st, sub, s.base.keep, fun x o e n => ?_, s.base.old⟩, s.pb, fun j es p' k1 k2 => ?_, s.sameB⟩ p
      · by_cases hj : i = j
        · subst hj
          rw [List.getElem?_set_self hi] at k
          cases k
          exact ⟨_, h1, .lst upd_same (h5.up st) h6⟩
        · rw [List.getElem?_set_ne hj] at k
          obtain ⟨v, m1, m2⟩ := s.env.pv j d k
          exact ⟨v, m1, m2.up st⟩
      · by_cases hj : i = j
        · subst hj; rw [List.getElem?_set_self hi] at k; cases k
        · rw [List.getElem?_set_ne hj] at k
          obtain ⟨p', vs', m1, m2, m3, m4, m5, m6⟩ := s.env.own j es k
          exact ⟨p', vs', m1, m2, by rw [upd_ne (other j es p' (Ne.symm hj) k m1)]; exact m3, m4, m5.up st, m6⟩
      · by_cases hj : i = j
        · subst hj; rw [List.getElem?_set_self hi] at q1; cases q1
        · by_cases hk : i = k
          · subst hk; rw [List.getElem?_set_self hi] at q2; cases q2
          · rw [List.getElem?_set_ne hj] at q1
            rw [List.getElem?_set_ne hk] at q2
            exact s.env.one j k es fs w q1 q2 q3 q4
      · by_cases hj : i = j
        · subst hj; rw [List.getElem?_set_self hi] at k; cases k
        · rw [List.getElem?_set_ne hj] at k
          exact s.env.box j k
      · have bx := s.box
        cases S with
        | off => exact bx
        | on cs ns =>
          obtain ⟨Bx, C, eB, ne, b1, b2, b3, b4⟩ := bx
          rw [eB] at h2
          simp only [List.mem_cons, List.not_mem_nil, or_false, not_or] at h2
          exact ⟨Bx, C, eB, ne, by rw [upd_ne (Ne.symm h2.1)]; exact b1, by rw [upd_ne (Ne.symm h2.2)]; exact b2, b3, b4⟩
      · rw [upd_ne (ne_of_none e hB)]; exact s.base.un x o e n
      · by_cases hj : i = j
        · subst hj; rw [List.getElem?_set_self hi] at k1; cases k1
        · rw [List.getElem?_set_ne hj] at k1
          exact s.own j es p' k1 k2
    | pv d => exact h B PB Hs H σ ρ S D s p
    | no => exact False.elim p
    | box => exact False.elim p
end
end DN

set_option Elab.async false
set_option linter.all false
set_option maxRecDepth 100000
namespace DN
open PySem L2
section
variable {K : PySem.W.Frag} {EX : Exn → Hp → Prop} {ta tb te : TE} {fa fb fe : Den} {tt : TT} {c : DenT} {wi : TI} {fi : DenL} {g : TG} {gD : Tg} {js : List Nat} {tA tB' : TS} {gA gB : DenS}
theorem StIs.raise {B : Base} {PB : List Addr} {Hs H : Hp} {σ : L2.St} {ρ : Env} {S : BX} (s : StIs K B PB Hs H σ ρ S) : StIs K ⟨B.PB, Hs, B.H⟩ PB Hs H σ ρ S :=
  ⟨s.env, s.box, ⟨Same.refl _, s.base.sub, s.base.keep, fun _ _ _ n => n, s.base.old⟩, s.pb, s.own, s.sameB⟩
theorem Tr.lower {PB : List Addr} {Hs0 H0 Hs1 Hs H : Hp} (h1 : Same Hs0 Hs1) (h2 : ∀ a o, H0 a = some o → Hs0 a = none → Hs1 a = none) (t : Tr PB Hs1 H0 Hs H) : Tr PB Hs0 H0 Hs H :=
  ⟨h1.trans t.st, t.sub, t.keep, fun a o e n => t.un a o e (h2 a o e n), t.old⟩
theorem StIs.lower {B : Base} {Hs1 : Hp} {PB : List Addr} {Hs H : Hp} {σ : L2.St} {ρ : Env} {S : BX} (h1 : Same B.Hs Hs1) (h2 : ∀ a o, B.H a = some o → B.Hs a = none → Hs1 a = none) (s : StIs K ⟨B.PB, Hs1, B.H⟩ PB Hs H σ ρ S) : StIs K B PB Hs H σ ρ S :=
  ⟨s.env, s.box, s.base.lower h1 h2, s.pb, s.own, s.sameB⟩
theorem PostS.raise {B : Base} {Hs1 : Hp} {D : Ends} {r : Res Flow} (h1 : Same B.Hs Hs1) (h2 : ∀ a o, B.H a = some o → B.Hs a = none → Hs1 a = none) (p : PostS K EX B D r) : PostS K EX ⟨B.PB, Hs1, B.H⟩ D r := by
  cases r with
  | ok f S =>
    cases f with
    | nx ρ => exact fun PB σ Hs H s => p PB σ Hs H (s.lower h1 h2)
    | bk ρ => exact fun PB σ Hs H s => p PB σ Hs H (s.lower h1 h2)
    | ct ρ => exact fun PB σ Hs H s => p PB σ Hs H (s.lower h1 h2)
    | rt d => exact fun PB v Hs H t b s i => p PB v Hs H (t.lower h1 h2) b s i
  | exc x S => exact fun PB Hs H t b s => p PB Hs H (t.lower h1 h2) b s
  | bad => exact p
theorem loop_post {B : Base} {D : Ends} {N : L2.St → Hp → Prop} {m : M Flow} {k : Env → M Flow} {S : BX}
    (p : PostS K EX B D ((m >>= fun f => match f with | .nx ρ2 => k ρ2 | .ct ρ2 => k ρ2 | .bk ρ2 => M.pure (.nx ρ2) | .rt d => M.pure (.rt d)) S))
    (hN : ∀ PB σ Hs H ρ S', StIs K B PB Hs H σ ρ S' → PostS K EX B D (k ρ S') → N σ H) : PostS K EX B { D with nx := N, ct := N, bk := D.nx } (m S) := by
  rw [bind_def] at p
  unfold M.bind at p
  cases e : m S with
  | ok f S1 =>
    rw [e] at p
    cases f with
    | nx ρ2 => exact fun PB σ Hs H s => hN PB σ Hs H ρ2 S1 s p
    | ct ρ2 => exact fun PB σ Hs H s => hN PB σ Hs H ρ2 S1 s p
    | bk ρ2 => exact p
    | rt d => exact p
  | exc x S1 => rw [e] at p; exact p
  | bad => rw [e] at p; exact p
theorem ss_for (hi : SnI K EX wi fi) (hg : SnGo K g gD) (hb : SnS K EX tB' gB) : SnS K EX (tFor wi g tB') (sFor fi gD gB) := by
  intro B PB Hs H σ ρ S D s p
  refine hi PB Hs H σ ρ S _ s.env s.box s.base.sub (PostS.bind s p fun ds S1 J Hs1 H1 t1 s1 w p1 => ?_)
  have p1' := PostS.raise (Hs1 := Hs1) s1.base.st s1.base.un p1
  let W : Nat → L2.St → Hp → Prop := fun i σ' H' => i ≤ ds.length ∧ ∃ PB' Hs' ρ' S', StIs K ⟨B.PB, Hs1, B.H⟩ PB' Hs' H' σ' ρ' S' ∧ PostS K EX ⟨B.PB, Hs1, B.H⟩ D (loopS gD gB (ds.drop i) ρ' S')
  refine ⟨fun i m σ' H' => m = ds.length - i ∧ W i σ' H', ⟨_, rfl, Nat.zero_le _, PB, Hs1, ρ, S1, s1.raise, p1'⟩, ?_⟩
  rintro i m σ' H' ⟨rfl, hi', PB', Hs', ρ', S', s', p'⟩
  by_cases hlt : i < ds.length
  · refine .inr ⟨w.goes i Hs' H' hlt s'.base.sub s'.base.st, W (i + 1), fun σ2 H2 q => ⟨_, by omega, rfl, q⟩, fun x H2 y => ?_⟩
    obtain ⟨Hs2, d, hd, t2, ix⟩ := w.yields i Hs' H' x H2 hlt s'.base.sub s'.base.st y
    rw [drop_at hd] at p'
    obtain ⟨ρ2, hρ, p2⟩ := PostS.of p'
    have s2 := s'.tr (S1 := S') t2.wide (s'.box.tr t2)
    exact hg Hs2 H2 σ' ρ' x d ρ2 _ t2.sub ix hρ fun σ3 tf w3 => hb _ PB' Hs2 H2 σ3 ρ2 S' _ (s2.target (tf PB' Hs2 H2 (Same.refl _) s2.env) w3)
      (loop_post p2 fun PB4 σ4 Hs4 H4 ρ4 S4 s4 p4 => ⟨hlt, PB4, Hs4, ρ4, S4, s4, p4⟩)
  · have e : i = ds.length := by omega
    subst e
    refine .inl ⟨w.stops Hs' H' s'.base.sub s'.base.st, ?_⟩
    rw [List.drop_length] at p'
    exact p' PB' σ' Hs' H' s'
theorem ss_while (hc : SnT K EX tt c) (hb : SnS K EX tB' gB) : SnS K EX (tWhile tt tB') (sWhile c gB) := by
  intro B PB Hs H σ ρ S D s p
  let W : Nat → L2.St → Hp → Prop := fun m σ' H' => ∃ PB' Hs' ρ' S', StIs K B PB' Hs' H' σ' ρ' S' ∧ PostS K EX B D (loopW c gB m ρ' S')
  refine ⟨W, ⟨FUEL, PB, Hs, ρ, S, s, p⟩, ?_⟩
  rintro m σ' H' ⟨PB', Hs', ρ', S', s', p'⟩
  cases m with
  | zero => exact False.elim p'
  | succ m =>
    refine hc PB' Hs' H' σ' ρ' S' _ s'.env s'.box s'.base.sub (PostS.bind s' p' fun k S1 b Hs1 H1 t1 s1 r1 p1 => ?_)
    subst r1
    cases b with
    | true => exact ⟨W m, fun σ2 H2 q => ⟨m, Nat.lt_succ_self _, q⟩, hb B PB' Hs1 H1 σ' ρ' S1 _ s1 (loop_post p1 fun PB4 σ4 Hs4 H4 ρ4 S4 s4 p4 => ⟨PB4, Hs4, ρ4, S4, s4, p4⟩)⟩
    | false => exact p1 PB' σ' Hs1 H1 s1
theorem ss_par {i j : Nat} (ha : SnE K EX ta fa) (hb : SnE K EX tb fb) : SnS K EX (tPar i j (tCons ta (tCons tb tNil))) (sPar i j fa fb) := fun B PB Hs H σ ρ S D s p =>
  ha PB Hs H σ ρ S _ s.env s.box s.base.sub (PostS.bind s p fun d S1 v Hs1 H1 t1 s1 r1 p1 =>
    hb PB Hs1 H1 σ ρ S1 _ s1.env s1.box s1.base.sub (PostS.bind s1 p1 fun d' S2 v' Hs2 H2 t2 s2 r2 p2 => by
      by_cases hij : i < ρ.length ∧ j < ρ.length
      · rw [if_pos hij] at p2
        refine ⟨v, v', rfl, p2 PB _ Hs2 H2 (s2.target ((s2.env.setPv hij.1 (r1.up t2.st)).setPv (by rw [List.length_set]; exact hij.2) r2) fun k ds q => ?_)⟩
        obtain ⟨a, b⟩ := set_own (σ := σ.set i (some v)) (o := some v') k ds q
        obtain ⟨a', b'⟩ := set_own (σ := σ) (o := some v) k ds a
        exact ⟨a', b.trans b'⟩
      · rw [if_neg hij] at p2; exact False.elim p2))
theorem ss_aug {i : Nat} {op : D → D → Option D} (he : SnE K EX te fe) : SnS K EX (tAug i te (rD2 K op)) (sAug i op fe) := fun B PB Hs H σ ρ S D s p => by
  unfold sAug eV at p
  cases q : ρ[i]? with
  | none => rw [q] at p; exact False.elim p
  | some sl =>
    rw [q] at p
    cases sl with
    | pv d =>
      obtain ⟨v, h1, h2⟩ := s.env.pv i d q
      refine ⟨v, h1, he PB Hs H σ ρ S _ s.env s.box s.base.sub (PostS.bind s p fun d' S1 v' Hs1 H1 t1 s1 r1 p1 => ?_)⟩
      obtain ⟨dz, hz, p2⟩ := p1.of
      have hi : i < ρ.length := (List.getElem?_eq_some_iff.mp q).1
      refine ⟨PB, Hs1, d, d', dz, s1.base.sub, .inl (h2.up t1.st), .inl r1, hz, fun z Hs2 H2 t2 iz => ?_⟩
      have s2 := s1.tr (S1 := S1) t2.wide (s1.box.tr t2)
      exact p2 PB _ Hs2 H2 (s2.target (s2.env.setPv hi iz) fun k ds q => set_own k ds q)
    | no => exact False.elim p
    | own xs => exact False.elim p
    | box => exact False.elim p
theorem ss_set2 {g1 g2 : TG} {h1 h2 : Tg} (he : SnE K EX te fe) (k1 : SnGo K g1 h1) (k2 : SnGo K g2 h2) : SnS K EX (tAsg2 te g1 g2) (sSet2 h1 h2 fe) := fun B PB Hs H σ ρ S D s p =>
  he PB Hs H σ ρ S _ s.env s.box s.base.sub (PostS.bind s p fun d S1 v Hs1 H1 t1 s1 r1 p1 => by
    obtain ⟨ρ', hρ, p2⟩ := p1.of
    obtain ⟨ρ'', hρ', p3⟩ := p2.of
    exact k1 Hs1 H1 σ ρ v d ρ' _ s1.base.sub r1 hρ fun σ' tf w => k2 Hs1 H1 σ' ρ' v d ρ'' _ s1.base.sub r1 hρ' fun σ'' tf' w' =>
      p3 PB σ'' Hs1 H1 ((s1.target (tf PB Hs1 H1 (Same.refl _) s1.env) w).target (tf' PB Hs1 H1 (Same.refl _) (tf PB Hs1 H1 (Same.refl _) s1.env)) w'))
/-! ### a def -/
/-- the promise of a def that draws nothing and raises nothing -/
def spN (K : PySem.W.Frag) (F : Fn) : Sp := fun vs H Q _ => ∃ Hs ds, Same Hs H ∧ IsAll K Hs vs ds ∧ (match F ds with
  | .ok r _ => ∀ v Hs2 H2, Tr [] Hs H Hs2 H2 → Is K Hs2 v r → Q v H2
  | _ => False)
/-- .. of a def with the box ahead -/
def spB (K : PySem.W.Frag) (F : FnB) : Sp := fun vs H Q _ => ∃ B C us Hs ds cells ns, vs = .ref B :: us ∧ Same Hs H ∧ BoxIs [B, C] Hs H (.on cells ns) ∧ IsAll K Hs us ds ∧ (match F ds (.on cells ns) with
  | .ok r S => ∀ v Hs2 H2, Tr [B, C] Hs H Hs2 H2 → BoxIs [B, C] Hs2 H2 S → Is K Hs2 v r → Q v H2
  | _ => False)
theorem start_env {N : List Str} {Hs H : Hp} {vs : List V} {ds : List D} {more : Nat} (h : IsAll K Hs vs ds) (hN : N.length = vs.length + more) : EnvIs K [] Hs H (L2.start N vs) (ds.map Slot.pv ++ List.replicate more Slot.no) := by
  have hl := h.len
  have hm : N.length - vs.length = more := by omega
  have no : ∀ (j : Nat) sl, (ds.map Slot.pv ++ List.replicate more Slot.no)[j]? = some sl → (∃ d, ds[j]? = some d ∧ sl = .pv d) ∨ sl = .no := fun j sl q => by
    by_cases hj : j < ds.length
    · rw [List.getElem?_append_left (by simpa using hj), List.getElem?_map] at q
      cases e : ds[j]? with
      | none => rw [e] at q; cases q
      | some d => rw [e] at q; cases q; exact .inl ⟨d, rfl, rfl⟩
    · rw [List.getElem?_append_right (by simpa using hj)] at q
      exact .inr (List.eq_of_mem_replicate (List.mem_of_getElem? q))
  refine ⟨?_, fun j d q => ?_, fun j es q => ?_, fun j k es fs w q1 _ _ _ => ?_, fun j q => ?_⟩
  · unfold L2.start
    rw [List.length_append, List.length_append, List.length_map, List.length_map, List.length_replicate, List.length_replicate, hm, hl]
  · rcases no j _ q with ⟨d', e, z⟩ | z
    · cases z
      obtain ⟨v, h1, h2⟩ := h.get e
      refine ⟨v, ?_, h2⟩
      unfold L2.start
      have : j < vs.length := (List.getElem?_eq_some_iff.mp h1).1
      rw [List.getElem?_append_left (by simpa using this), List.getElem?_map, h1]
      rfl
    · cases z
  · rcases no j _ q with ⟨d', e, z⟩ | z <;> cases z
  · rcases no j _ q1 with ⟨d', e, z⟩ | z <;> cases z
  · rcases no j _ q with ⟨d', e, z⟩ | z <;> cases z
end
end DN

set_option Elab.async false
set_option linter.all false
set_option maxRecDepth 100000
namespace DN
open PySem L2
/-! ### statements with the code they stand for -/
structure QS (K : PySem.W.Frag) (X : Cx) (EX : Exn → Hp → Prop) (st : Stmt) (t : TS) (f : DenS) : Prop where
  ps : PS X st t
  sn : SnS K EX t f
structure QSs (K : PySem.W.Frag) (X : Cx) (EX : Exn → Hp → Prop) (st : List Stmt) (t : TS) (f : DenS) : Prop where
  ps : PSs X st t
  sn : SnS K EX t f
structure QI (K : PySem.W.Frag) (X : Cx) (EX : Exn → Hp → Prop) (tg iter : Expr) (wi : TI) (f : DenL) : Prop where
  pi : PI X tg iter wi
  sn : SnI K EX wi f
structure QIC (K : PySem.W.Frag) (X : Cx) (EX : Exn → Hp → Prop) (tg iter : Expr) (wi : TI) (f : DenL) : Prop where
  pi : PI X tg iter wi
  sn : SnIC K EX wi f
structure QG (K : PySem.W.Frag) (X : Cx) (js : List Nat) (tg : Expr) (t : TG) (g : Tg) : Prop where
  pg : PG X tg t
  sn : SnG K js t g
  so : SnGo K t g
structure QGs (K : PySem.W.Frag) (X : Cx) (js : List Nat) (n : Nat) (tg : List Expr) (t : TGs) (g : List D → Env → Option Env) : Prop where
  pg : PGs X tg t
  sn : SnGs K js t g
  so : SnGos K t g
  len : ∀ ds ρ ρ', g ds ρ = some ρ' → ds.length = n
structure QTs (K : PySem.W.Frag) (X : Cx) (EX : Exn → Hp → Prop) (ifs : List Expr) (t : TT) (f : DenT) : Prop where
  pt : PTs X ifs t
  sn : SnT K EX t f
section
variable {X : Cx} {K : PySem.W.Frag} {EX : Exn → Hp → Prop} {a b c e : Expr} {ta tb te : TE} {fa fb fe : Den} {tA : TT} {gA : DenT} {tr : TA} {fr : DenL} {pos pos' pt : Pos} {rest es : List Expr} {st : Stmt} {sts b1 b2 : List Stmt} {t u : TS} {f k : DenS} {tg iter : Expr} {wi : TI} {fi : DenL} {g : TG} {gD : Tg} {js ks : List Nat}
theorem qss_nil : QSs K X EX [] L2.tNext sNext := ⟨pss_nil, ss_next⟩
theorem qss_one (h : QS K X EX st t f) : QSs K X EX [st] t f := ⟨pss_one h.ps, h.sn⟩
theorem qss_cons (h : QS K X EX st t f) (r : QSs K X EX sts u k) : QSs K X EX (st :: sts) (tSeq t u) (sSeq f k) := ⟨pss_cons h.ps r.ps, ss_seq h.sn r.sn⟩
theorem qs_ret (h : QE K X EX e te fe) : QS K X EX (.Return (some e) pos) (tRet te) (sRet fe) := ⟨ps_ret h.pe, ss_ret h.sn⟩
theorem qs_retN : QS K X EX (.Return none pos) tRetN sRetN := ⟨ps_retN, ss_retN⟩
theorem qs_pass : QS K X EX (.Pass pos) L2.tNext sNext := ⟨ps_pass, ss_next⟩
theorem qs_break : QS K X EX (.Break pos) tBreak sBreak := ⟨ps_break, ss_break⟩
theorem qs_cont : QS K X EX (.Continue pos) L2.tCont sCont := ⟨ps_continue, ss_cont⟩
theorem qs_if (hc : QT K X EX c tA gA) (ha : QSs K X EX b1 t f) (hb : QSs K X EX b2 u k) : QS K X EX (.If c b1 b2 pos) (tIfS tA t u) (sIf gA f k) := ⟨ps_if hc.pt ha.ps hb.ps, ss_if hc.sn ha.sn hb.sn⟩
theorem qs_drop (h : QE K X EX e te fe) (hs : swapsWith e none pos.line X.env = pure false := by rfl) : QS K X EX (.Expr e pos) (tDrop te) (sDrop fe) := ⟨ps_expr h.pe hs, ss_drop h.sn⟩
theorem qs_frz (i : Nat) (h : QS K X EX st t f) : QS K X EX st t (sSeq (sFrz i) f) := ⟨h.ps, ss_frz h.sn⟩
/-- targets -/
theorem qg_name (i : Nat) {x : Str} (hN : X.N.Nodup) (hi : X.N[i]? = some x) (hx : Loc X.env.scope x) (hf : X.fn x = true ∨ X.env.scope.names.lookup x = some .local := by first | exact .inl rfl | exact .inr rfl | assumption) : QG K X [i] (.Name x pos) (gName i) (gN i) := ⟨pg_name hN hi hx hf, sn_gname, so_gname⟩
theorem qgs_nil : QGs K X [] 0 [] gNil gsNil := ⟨pgs_nil, sn_gnil, so_gnil, gsn_nil⟩
theorem qgs_cons {n : Nat} {ts : TGs} {gs : List D → Env → Option Env} (h1 : QG K X js e g gD) (h2 : QGs K X ks n es ts gs) (hs : (assignEach (e :: es) X.env).map (·.2) = assign e X.env :: (assignEach es X.env).map (·.2) := by rfl) : QGs K X (js ++ ks) (n + 1) (e :: es) (gCons g ts) (gsCons gD gs) :=
  ⟨pgs_cons h1.pg h2.pg hs, sn_gcons h1.sn h2.sn, so_gcons h1.so h2.so, gsn_cons h2.len⟩
theorem qg_tup {n m : Nat} {ts : TGs} {gs : List D → Env → Option Env} (hc : X.calm = true) (h : QGs K X js n es ts gs) (hn : (assignEach es X.env).length = n := by rfl) (hst : (assignEach es X.env).findIdx? (·.1) = none := by rfl) (hK : X.K = K := by rfl) : QG K X js (.Tuple es m pos) (gTup K n ts) (gT gs) := by
  subst hK
  exact ⟨pg_tup hc h.pg hn hst, sn_gtup h.sn h.len, so_gtup h.so h.len⟩
/-- name = e -/
theorem qs_set (i : Nat) {x : Str} (hN : X.N.Nodup) (hi : X.N[i]? = some x) (hx : Loc X.env.scope x) (he : QE K X EX e te fe) (hs : swapsWith e (some (.Name x pos')) pos.line X.env = pure false := by rfl) (hf : X.fn x = true ∨ X.env.scope.names.lookup x = some .local := by first | exact .inl rfl | exact .inr rfl | assumption) :
    QS K X EX (.Assign [.Name x pos'] e pos) (tAsg te (gName i)) (sSet (gN i) fe) := ⟨L2.ps_set hN hi hx he.pe hs hf, ss_set he.sn so_gname⟩
theorem qs_own (i : Nat) {x : Str} {l : DenL} (hN : X.N.Nodup) (hi : X.N[i]? = some x) (hx : Loc X.env.scope x) (he : QL K X EX e te l) (hs : swapsWith e (some (.Name x pos')) pos.line X.env = pure false := by rfl) (hf : X.fn x = true ∨ X.env.scope.names.lookup x = some .local := by first | exact .inl rfl | exact .inr rfl | assumption) :
    QS K X EX (.Assign [.Name x pos'] e pos) (tAsg te (gName i)) (sOwn i l) := ⟨L2.ps_set hN hi hx he.pe hs hf, ss_own he.sn⟩
/-- a, b = e (a tuple as it is) -/
theorem qs_asg (he : QE K X EX e te fe) (hg : QG K X js tg g gD) (hs : swapsWithSole [tg] e pos.line X.env = pure false := by rfl) (hw : swappedStores [tg] e X.env = pure none := by rfl)
    (h1 : (assignEach [tg] X.env).map (·.2) = [assign tg X.env] := by rfl) : QS K X EX (.Assign [tg] e pos) (tAsg te g) (sSet gD fe) := ⟨ps_asg he.pe hg.pg hs hw h1, ss_set he.sn hg.so⟩
theorem qs_set2 {t1 t2 : Expr} {g1 g2 : TG} {h1 h2 : Tg} (he : QE K X EX e te fe) (k1 : QG K X js t1 g1 h1) (k2 : QG K X ks t2 g2 h2) (ha : (assignEach [t1, t2] X.env).map (·.2) = [assign t1 X.env, assign t2 X.env] := by rfl) (hw : swappedStores [t1, t2] e X.env = pure none := by rfl) :
    QS K X EX (.Assign [t1, t2] e pos) (tAsg2 te g1 g2) (sSet2 h1 h2 fe) := ⟨ps_asg2 he.pe k1.pg k2.pg ha hw, ss_set2 he.sn k1.so k2.so⟩
theorem qs_par (i j : Nat) {x y : Str} {px py pt2 : Pos} {kt k2 : Nat} (hc : X.calm = true) (hN : X.N.Nodup) (hi : X.N[i]? = some x) (hj : X.N[j]? = some y) (hij : i ≠ j)
    (hx : X.env.scope.names.lookup x = some .local) (hy : X.env.scope.names.lookup y = some .local) (ha : QE K X EX a ta fa) (hb : QE K X EX b tb fb)
    (hw : swappedStores [.Tuple [.Name x px, .Name y py] kt pt] (.Tuple [a, b] k2 pt2) X.env = pure (some [x, y]))
    (hs : swapsWithSole [.Tuple [.Name x px, .Name y py] kt pt] (.Tuple [a, b] k2 pt2) pos.line X.env = pure false := by rfl) (hs1 : starEach [a, b] X.env = (false, eval a X.env) :: starEach [b] X.env := by rfl) (hs2 : starEach [b] X.env = (false, eval b X.env) :: starEach [] X.env := by rfl) :
    QS K X EX (.Assign [.Tuple [.Name x px, .Name y py] kt pt] (.Tuple [a, b] k2 pt2) pos) (tPar i j (tCons ta (tCons tb tNil))) (sPar i j fa fb) :=
  ⟨ps_par hc hN hi hj hij hx hy (pa_cons ha.pe (pa_cons hb.pe pa_nil hs2) hs1) hw hs, ss_par ha.sn hb.sn⟩
theorem qs_aug (i : Nat) {x : Str} {op : Operator} {o : D → D → Option D} (hN : X.N.Nodup) (hi : X.N[i]? = some x) (hx : Loc X.env.scope x) (ho : PIp X op (rD2 K o)) (he : QE K X EX e te fe) (hf : X.fn x = true ∨ X.env.scope.names.lookup x = some .local := by first | exact .inl rfl | exact .inr rfl | assumption) :
    QS K X EX (.AugAssign (.Name x pos') op e pos) (tAug i te (rD2 K o)) (sAug i o fe) := ⟨ps_aug hN hi hx he.pe ho hf, ss_aug he.sn⟩
theorem qs_app (i : Nat) {x : Str} {apos p1 p2 : Pos} (hN : X.N[i]? = some x) (hv : Vis X.env.scope x) (he : QE K X EX e te fe)
    (hp : PE X (.Call (.Attribute (.Name x p1) "append" apos) [e] [] p2) (tBM K "list" rAppend (tVar i) (tCons te tNil))) (hs : swapsWith (.Call (.Attribute (.Name x p1) "append" apos) [e] [] p2) none pos.line X.env = pure false := by rfl) :
    QS K X EX (.Expr (.Call (.Attribute (.Name x p1) "append" apos) [e] [] p2) pos) (tDrop (tBM K "list" rAppend (tVar i) (tCons te tNil))) (sApp i fe) := ⟨ps_expr hp hs, ss_app he.sn⟩
/-- for, while -/
theorem qs_for (hp : PassesOwn (model X.prog X.w) X.A X.env X.xe) (hc : X.calm = true) (hi : QI K X EX tg iter wi fi) (hg : QG K X js tg g gD) (hb : QSs K X EX b1 t f) (hs : ∀ x, foldedSetIterable iter X.env x = pure x := by intro _; rfl) :
    QS K X EX (.For tg iter b1 [] pos) (tFor wi g t) (sFor fi gD f) := ⟨ps_for hp hc hi.pi hg.pg hb.ps hs, ss_for hi.sn hg.so hb.sn⟩
theorem qs_while (hp : PassesOwn (model X.prog X.w) X.A X.env X.xe) (hc : QT K X EX c tA gA) (hb : QSs K X EX b1 t f) : QS K X EX (.While c b1 [] pos) (tWhile tA t) (sWhile gA f) := ⟨ps_while hp hc.pt hb.ps, ss_while hc.sn hb.sn⟩
/-- what is walked -/
theorem qi_any (h : QE K X EX e te fe) (hK : X.K = K := by rfl) : QI K X EX tg e (iAny K te) (iOf fe) := by
  subst hK
  exact ⟨pi_any h.pe, sn_iany h.sn⟩
theorem qic_any (h : QB K X EX e te fe) (hK : X.K = K := by rfl) : QIC K X EX tg e (iAny K te) (iOf fe) := by
  subst hK
  exact ⟨pi_any h.pe, sn_ianyC h.sn⟩
theorem QI.toC (h : QI K X EX tg iter wi fi) : QIC K X EX tg iter wi fi := ⟨h.pi, h.sn.toC⟩
theorem qi_range1 {p : Pos} (hg : Gl X "range") (hm : X.mg "range" = none) (h : QE K X EX a ta fa) (hs1 : starEach [a] X.env = (false, eval a X.env) :: starEach [] X.env := by rfl) (hs : starEach [a] X.env = [(false, eval a X.env)] := by rfl) : QI K X EX tg (.Call (.Name "range" p) [a] [] pos) (iRng1 (tCons ta tNil)) (iRange1 fa) :=
  ⟨pi_range1 hg hm (pa_cons h.pe pa_nil hs1) hs, sn_range1 h.sn⟩
theorem qi_range2 {p : Pos} (hg : Gl X "range") (hm : X.mg "range" = none) (h : QE K X EX a ta fa) (h' : QE K X EX b tb fb) (hs1 : starEach [a, b] X.env = (false, eval a X.env) :: starEach [b] X.env := by rfl) (hs2 : starEach [b] X.env = (false, eval b X.env) :: starEach [] X.env := by rfl)
    (hs : starEach [a, b] X.env = [(false, eval a X.env), (false, eval b X.env)] := by rfl) (hs3 : starEach [b] X.env = [(false, eval b X.env)] := by rfl) : QI K X EX tg (.Call (.Name "range" p) [a, b] [] pos) (iRng2 (tCons ta (tCons tb tNil))) (iRange2 fa fb) :=
  ⟨pi_range2 hg hm (pa_cons h.pe (pa_cons h'.pe pa_nil hs2) hs1) hs hs3, sn_range2 h.sn h'.sn⟩
theorem qi_enum {p tpos : Pos} {elts : List Expr} {kk : Nat} (hg : Gl X "enumerate") (hm : X.mg "enumerate" = none) (h : QE K X EX a ta fa) (hs1 : starEach [a] X.env = (false, eval a X.env) :: starEach [] X.env := by rfl) (hs : starEach [a] X.env = [(false, eval a X.env)] := by rfl) (hK : X.K = K := by rfl) :
    QI K X EX (.Tuple elts kk tpos) (.Call (.Name "enumerate" p) [a] [] pos) (iEnumAny K (tCons ta tNil)) (iEnum fa) := by
  subst hK
  exact ⟨pi_enumAny hg hm (pa_cons h.pe pa_nil hs1) hs, sn_enum h.sn⟩
/-- comprehensions -/
theorem qts_nil : QTs K X EX [] L2.tYes DN.tYes := ⟨pts_nil, sn_tyes⟩
theorem qts_one (h : QT K X EX c tA gA) : QTs K X EX [c] tA gA := ⟨pts_one h.pt, h.sn⟩
theorem q_lc {elt : Expr} {ifs : List Expr} {scope : Scope} {own : List (Str × Nat)} {tt : TT} {cc : DenT} (hc : X.calm = true) (hN : X.N.Nodup) (hi : QIC K X EX tg iter wi fi) (ok : BlkOk X.N X.env.scope scope own)
    (hg : ∀ (s : Shared) (H : Hp) (C : Addr) (cl : List (Str × Addr)) (fp : List Addr), QG K (X.blk s H scope (compEnvC scope cl C X.env) fp) js tg g gD) (hjs : ∀ j ∈ js, j ∈ own.map (·.2)) (ht : ∀ (s : Shared) (H : Hp) (C : Addr) (cl : List (Str × Addr)) (fp : List Addr), QTs K (X.blk s H scope (compEnvC scope cl C X.env) fp) EXn ifs tt cc)
    (he : ∀ (s : Shared) (H : Hp) (C : Addr) (cl : List (Str × Addr)) (fp : List Addr), QE K (X.blk s H scope (compEnvC scope cl C X.env) fp) EXn elt te fe) (hs : ∀ x, foldedSetIterable iter X.env x = pure x := by intro _; rfl) :
    QL K X EX (.ListComp elt [⟨tg, iter, ifs, 0⟩] scope pos) (tLc wi g tt te (own.map (·.2))) (lLc fi gD cc fe (own.map (·.2))) :=
  ⟨pe_lc hc hN hi.pi ok (fun s H C cl fp => (hg s H C cl fp).pg) (fun s H C cl fp => (ht s H C cl fp).pt) (fun s H C cl fp => (he s H C cl fp).pe) hs,
    sn_lc hi.sn (hg X.s_0 X.H_0 0 [] []).sn hjs (ht X.s_0 X.H_0 0 [] []).sn (he X.s_0 X.H_0 0 [] []).sn⟩
theorem q_setLc {i : Nat} {y : Str} {py spos : Pos} {elt : Expr} {ifs : List Expr} {scope : Scope} {own : List (Str × Nat)} {tt : TT} {cc : DenT} (hc : X.calm = true) (hN : X.N.Nodup) (hy : X.N[i]? = some y) (hyl : X.env.scope.names.lookup y = some .local)
    (hsw : swapsWith (.ListComp elt [⟨tg, iter, ifs, 0⟩] scope pos) (some (.Name y py)) spos.line X.env = pure true) (hi : QIC K X EX tg iter wi fi) (ok : BlkOk X.N X.env.scope scope own)
    (hg : ∀ (s : Shared) (H : Hp) (C : Addr) (cl : List (Str × Addr)) (fp : List Addr), QG K (X.blk s H scope (compEnvC scope cl C X.env) fp) js tg g gD) (hjs : ∀ j ∈ js, j ∈ own.map (·.2)) (ht : ∀ (s : Shared) (H : Hp) (C : Addr) (cl : List (Str × Addr)) (fp : List Addr), QTs K (X.blk s H scope (compEnvC scope cl C X.env) fp) EXn ifs tt cc)
    (he : ∀ (s : Shared) (H : Hp) (C : Addr) (cl : List (Str × Addr)) (fp : List Addr), QE K (X.blk s H scope (compEnvC scope cl C X.env) fp) EXn elt te fe) (hs : ∀ x, foldedSetIterable iter X.env x = pure x := by intro _; rfl) :
    QS K X EX (.Assign [.Name y py] (.ListComp elt [⟨tg, iter, ifs, 0⟩] scope pos) spos) (tAsg (tLc wi g tt te (own.map (·.2))) (gName i)) (sSet (gN i) (eL (lLc fi gD cc fe (own.map (·.2))))) :=
  ⟨ps_setLc hc hN hy hyl hsw hi.pi ok (fun s H C cl fp => (hg s H C cl fp).pg) (fun s H C cl fp => (ht s H C cl fp).pt) (fun s H C cl fp => (he s H C cl fp).pe) hs,
    ss_set (sn_l2e (sn_lc hi.sn (hg X.s_0 X.H_0 0 [] []).sn hjs (ht X.s_0 X.H_0 0 [] []).sn (he X.s_0 X.H_0 0 [] []).sn)) so_gname⟩
theorem q_setLcO {i : Nat} {y : Str} {py spos : Pos} {elt : Expr} {ifs : List Expr} {scope : Scope} {own : List (Str × Nat)} {tt : TT} {cc : DenT} (hc : X.calm = true) (hN : X.N.Nodup) (hy : X.N[i]? = some y) (hyl : X.env.scope.names.lookup y = some .local)
    (hsw : swapsWith (.ListComp elt [⟨tg, iter, ifs, 0⟩] scope pos) (some (.Name y py)) spos.line X.env = pure true) (hi : QIC K X EX tg iter wi fi) (ok : BlkOk X.N X.env.scope scope own)
    (hg : ∀ (s : Shared) (H : Hp) (C : Addr) (cl : List (Str × Addr)) (fp : List Addr), QG K (X.blk s H scope (compEnvC scope cl C X.env) fp) js tg g gD) (hjs : ∀ j ∈ js, j ∈ own.map (·.2)) (ht : ∀ (s : Shared) (H : Hp) (C : Addr) (cl : List (Str × Addr)) (fp : List Addr), QTs K (X.blk s H scope (compEnvC scope cl C X.env) fp) EXn ifs tt cc)
    (he : ∀ (s : Shared) (H : Hp) (C : Addr) (cl : List (Str × Addr)) (fp : List Addr), QE K (X.blk s H scope (compEnvC scope cl C X.env) fp) EXn elt te fe) (hs : ∀ x, foldedSetIterable iter X.env x = pure x := by intro _; rfl) :
    QS K X EX (.Assign [.Name y py] (.ListComp elt [⟨tg, iter, ifs, 0⟩] scope pos) spos) (tAsg (tLc wi g tt te (own.map (·.2))) (gName i)) (sOwn i (lLc fi gD cc fe (own.map (·.2)))) :=
  ⟨ps_setLc hc hN hy hyl hsw hi.pi ok (fun s H C cl fp => (hg s H C cl fp).pg) (fun s H C cl fp => (ht s H C cl fp).pt) (fun s H C cl fp => (he s H C cl fp).pe) hs,
    ss_own (sn_lc hi.sn (hg X.s_0 X.H_0 0 [] []).sn hjs (ht X.s_0 X.H_0 0 [] []).sn (he X.s_0 X.H_0 0 [] []).sn)⟩
theorem QL.toE {l : DenL} (h : QL K X EX e te l) : QE K X EX e te (eL l) := ⟨h.pe, sn_l2e h.sn⟩
theorem q_lc2 {elt tg1 iter1 : Expr} {ifs ifs1 : List Expr} {scope : Scope} {own : List (Str × Nat)} {vs1 js1 : List Nat} {wi1 : TI} {fi1 : DenL} {g1 : TG} {gD1 : Tg} {tt tt1 : TT} {cc cc1 : DenT} (hc : X.calm = true) (hN : X.N.Nodup) (hi : QIC K X EX tg iter wi fi) (ok : BlkOk X.N X.env.scope scope own) (hv : ∀ i ∈ vs1, i ∈ own.map (·.2))
    (hg : ∀ (s : Shared) (H : Hp) (C : Addr) (cl : List (Str × Addr)) (fp : List Addr), QG K (X.blk s H scope (compEnvC scope cl C X.env) fp) js tg g gD) (hjs : ∀ j ∈ js, j ∈ own.map (·.2)) (ht : ∀ (s : Shared) (H : Hp) (C : Addr) (cl : List (Str × Addr)) (fp : List Addr), QTs K (X.blk s H scope (compEnvC scope cl C X.env) fp) EXn ifs tt cc)
    (hi1 : ∀ (s : Shared) (H : Hp) (C : Addr) (cl : List (Str × Addr)) (fp : List Addr), QI K (X.blk s H scope (compEnvC scope cl C X.env) fp) EXn tg1 iter1 wi1 fi1)
    (hg1 : ∀ (s : Shared) (H : Hp) (C : Addr) (cl : List (Str × Addr)) (fp : List Addr), QG K (X.blk s H scope (compEnvC scope cl C X.env) fp) js1 tg1 g1 gD1) (hjs1 : ∀ j ∈ js1, j ∈ vs1) (ht1 : ∀ (s : Shared) (H : Hp) (C : Addr) (cl : List (Str × Addr)) (fp : List Addr), QTs K (X.blk s H scope (compEnvC scope cl C X.env) fp) EXn ifs1 tt1 cc1)
    (he : ∀ (s : Shared) (H : Hp) (C : Addr) (cl : List (Str × Addr)) (fp : List Addr), QE K (X.blk s H scope (compEnvC scope cl C X.env) fp) EXn elt te fe) (hs : ∀ x, foldedSetIterable iter X.env x = pure x := by intro _; rfl) (hs1 : ∀ env x, foldedSetIterable iter1 env x = pure x := by intro _ _; rfl) :
    QL K X EX (.ListComp elt [⟨tg, iter, ifs, 0⟩, ⟨tg1, iter1, ifs1, 0⟩] scope pos) (tLc2 wi g tt wi1 g1 tt1 te (own.map (·.2)) vs1) (lLc2 fi gD cc fi1 gD1 cc1 fe (own.map (·.2)) vs1) :=
  ⟨pe_lc2 hc hN hi.pi ok hv (fun s H C cl fp => (hg s H C cl fp).pg) (fun s H C cl fp => (ht s H C cl fp).pt) (fun s H C cl fp => (hi1 s H C cl fp).pi) (fun s H C cl fp => (hg1 s H C cl fp).pg) (fun s H C cl fp => (ht1 s H C cl fp).pt) (fun s H C cl fp => (he s H C cl fp).pe) hs hs1,
    sn_lc2 hi.sn (hg X.s_0 X.H_0 0 [] []).sn hjs (ht X.s_0 X.H_0 0 [] []).sn (hi1 X.s_0 X.H_0 0 [] []).sn (hg1 X.s_0 X.H_0 0 [] []).sn hjs1 (ht1 X.s_0 X.H_0 0 [] []).sn (he X.s_0 X.H_0 0 [] []).sn⟩
theorem q_setLc2 {i : Nat} {y : Str} {py spos : Pos} {elt tg1 iter1 : Expr} {ifs ifs1 : List Expr} {scope : Scope} {own : List (Str × Nat)} {vs1 js1 : List Nat} {wi1 : TI} {fi1 : DenL} {g1 : TG} {gD1 : Tg} {tt tt1 : TT} {cc cc1 : DenT} (hc : X.calm = true) (hN : X.N.Nodup) (hy : X.N[i]? = some y) (hyl : X.env.scope.names.lookup y = some .local)
    (hsw : swapsWith (.ListComp elt [⟨tg, iter, ifs, 0⟩, ⟨tg1, iter1, ifs1, 0⟩] scope pos) (some (.Name y py)) spos.line X.env = pure true) (hi : QIC K X EX tg iter wi fi) (ok : BlkOk X.N X.env.scope scope own) (hv : ∀ i ∈ vs1, i ∈ own.map (·.2))
    (hg : ∀ (s : Shared) (H : Hp) (C : Addr) (cl : List (Str × Addr)) (fp : List Addr), QG K (X.blk s H scope (compEnvC scope cl C X.env) fp) js tg g gD) (hjs : ∀ j ∈ js, j ∈ own.map (·.2)) (ht : ∀ (s : Shared) (H : Hp) (C : Addr) (cl : List (Str × Addr)) (fp : List Addr), QTs K (X.blk s H scope (compEnvC scope cl C X.env) fp) EXn ifs tt cc)
    (hi1 : ∀ (s : Shared) (H : Hp) (C : Addr) (cl : List (Str × Addr)) (fp : List Addr), QI K (X.blk s H scope (compEnvC scope cl C X.env) fp) EXn tg1 iter1 wi1 fi1)
    (hg1 : ∀ (s : Shared) (H : Hp) (C : Addr) (cl : List (Str × Addr)) (fp : List Addr), QG K (X.blk s H scope (compEnvC scope cl C X.env) fp) js1 tg1 g1 gD1) (hjs1 : ∀ j ∈ js1, j ∈ vs1) (ht1 : ∀ (s : Shared) (H : Hp) (C : Addr) (cl : List (Str × Addr)) (fp : List Addr), QTs K (X.blk s H scope (compEnvC scope cl C X.env) fp) EXn ifs1 tt1 cc1)
    (he : ∀ (s : Shared) (H : Hp) (C : Addr) (cl : List (Str × Addr)) (fp : List Addr), QE K (X.blk s H scope (compEnvC scope cl C X.env) fp) EXn elt te fe) (hs : ∀ x, foldedSetIterable iter X.env x = pure x := by intro _; rfl) (hs1 : ∀ env x, foldedSetIterable iter1 env x = pure x := by intro _ _; rfl) :
    QS K X EX (.Assign [.Name y py] (.ListComp elt [⟨tg, iter, ifs, 0⟩, ⟨tg1, iter1, ifs1, 0⟩] scope pos) spos) (tAsg (tLc2 wi g tt wi1 g1 tt1 te (own.map (·.2)) vs1) (gName i)) (sSet (gN i) (eL (lLc2 fi gD cc fi1 gD1 cc1 fe (own.map (·.2)) vs1))) :=
  ⟨ps_setLc2 hc hN hy hyl hsw hi.pi ok hv (fun s H C cl fp => (hg s H C cl fp).pg) (fun s H C cl fp => (ht s H C cl fp).pt) (fun s H C cl fp => (hi1 s H C cl fp).pi) (fun s H C cl fp => (hg1 s H C cl fp).pg) (fun s H C cl fp => (ht1 s H C cl fp).pt) (fun s H C cl fp => (he s H C cl fp).pe) hs hs1,
    ss_set (sn_l2e (sn_lc2 hi.sn (hg X.s_0 X.H_0 0 [] []).sn hjs (ht X.s_0 X.H_0 0 [] []).sn (hi1 X.s_0 X.H_0 0 [] []).sn (hg1 X.s_0 X.H_0 0 [] []).sn hjs1 (ht1 X.s_0 X.H_0 0 [] []).sn (he X.s_0 X.H_0 0 [] []).sn)) so_gname⟩
end
/-! ### calls of defs, defs -/
section
variable {K : PySem.W.Frag} {EX : Exn → Hp → Prop} {tr : TA} {fr : DenL}
theorem sn_call {F : Fn} (ha : SnA K EX tr fr) : SnE K EX (tCall (spN K F) [] E0 tr) (eCall F fr) := fun PB Hs H σ ρ S Q e b s p =>
  ha PB Hs H σ ρ S _ e b s (p.bind fun ds S1 vs Hs1 H1 t1 b1 r1 p1 => by
    refine ⟨Hs1, ds, t1.sub, by rw [List.append_nil]; exact r1, ?_⟩
    unfold Fn.liftN at p1
    cases q : F ds with
    | ok r S2 => rw [q] at p1; exact fun v Hs2 H2 t2 i2 => p1 v Hs2 H2 t2.wide (b1.tr t2) i2
    | exc x S2 => rw [q] at p1; exact p1
    | bad => rw [q] at p1; exact p1)
/-- a call with the box ahead -/
theorem sn_callB {i : Nat} {F : FnB} (ha : SnA K EX tr fr) : SnE K EX (tCall (spB K F) [] E0 (tCons (tVar i) tr)) (eCallB F i fr) := fun PB Hs H σ ρ S Q e b s p => by
  unfold eCallB at p
  cases q : ρ[i]? with
  | none => rw [q] at p; exact False.elim p
  | some sl =>
    rw [q] at p
    cases sl with
    | box =>
      obtain ⟨B, C, hpb, hv⟩ := e.box i q
      subst hpb
      refine ⟨_, hv, ha [B, C] Hs H σ ρ S _ e b s (p.bind fun ds S1 vs Hs1 H1 t1 b1 r1 p1 => ?_)⟩
      cases S1 with
      | off => cases (show [B, C] = [] from b1)
      | on cells ns =>
        refine ⟨B, C, vs, Hs1, ds, cells, ns, by rw [List.append_nil], t1.sub, b1, r1, ?_⟩
        unfold M.nox at p1
        cases q2 : F ds (.on cells ns) with
        | ok r S2 => rw [q2] at p1; exact fun v Hs2 H2 t2 b2 i2 => p1 v Hs2 H2 t2 b2 i2
        | exc x S2 => rw [q2] at p1; exact p1
        | bad => rw [q2] at p1; exact p1
    | no => exact False.elim p
    | pv d => exact False.elim p
    | own xs => exact False.elim p
end
section
variable {X : Cx} {K : PySem.W.Frag} {EX : Exn → Hp → Prop} {CX : CXT} {k : Nat} {f : Addr} {fd : FuncData} {ps : List Str} {x : Str} {p pos : Pos} {e : Expr} {es : List Expr} {t : TA} {fr : DenL}
theorem q_call {F : Fn} (G : FnOk X.prog X.w X.K X.mg X.base CX k f fd ps (spN K F)) (hr : Room k X.A) (hg : Gl X x) (hm : X.mg x = some (.ref f)) (hk : PySem.W.keepIn X.K (.ref f) = true) (hb : Binds X.K fd ps []) (hx : Passes CX X E0)
    (ha : QA K X EX (e :: es) t fr) (hdb : (x == ("__debug__" : Str)) = false := by decide) (he : starEach (e :: es) X.env = (false, eval e X.env) :: starEach es X.env := by rfl) (hpl : (backTo pos (starEach es X.env)).any (·.1) = false := by rfl) :
    QE K X EX (.Call (.Name x p) (e :: es) [] pos) (tCall (spN K F) [] E0 t) (eCall F fr) := ⟨pe_call G hr hg hm hk hb .nil hx ha.pa hdb he hpl, sn_call ha.sn⟩
theorem q_callB {F : FnB} {i : Nat} {y : Str} {py : Pos} (G : FnOk X.prog X.w X.K X.mg X.base CX k f fd ps (spB K F)) (hr : Room k X.A) (hg : Gl X x) (hm : X.mg x = some (.ref f)) (hk : PySem.W.keepIn X.K (.ref f) = true) (hb : Binds X.K fd ps []) (hx : Passes CX X E0)
    (hv : PE X (.Name y py) (tVar i)) (ha : QA K X EX es t fr) (hs : starEach (.Name y py :: es) X.env = (false, eval (.Name y py) X.env) :: starEach es X.env := by rfl) (hdb : (x == ("__debug__" : Str)) = false := by decide) (hpl : (backTo pos (starEach es X.env)).any (·.1) = false := by rfl) :
    QE K X EX (.Call (.Name x p) (.Name y py :: es) [] pos) (tCall (spB K F) [] E0 (tCons (tVar i) t)) (eCallB F i fr) := ⟨pe_call G hr hg hm hk hb .nil hx (pa_cons hv ha.pa hs) hdb hs hpl, sn_callB ha.sn⟩
end
section
variable {P : Program} {w : World} {K : PySem.W.Frag} {mg : Str → Option Value} {base : Heap}
theorem bodyF_len {n more : Nat} {b : DenS} {ds : List D} {r : D} {S : BX} (h : bodyF n more b ds = .ok r S) : ds.length = n := by
  unfold bodyF at h
  by_cases e : ds.length = n
  · exact e
  · rw [if_neg e] at h; cases h
theorem bodyB_len {n more : Nat} {b : DenS} {ds : List D} {r : D} {S S' : BX} (h : bodyB n more b ds S = .ok r S') : ds.length = n := by
  unfold bodyB at h
  by_cases e : ds.length = n
  · exact e
  · rw [if_neg e] at h; cases h
theorem ok_fn {x qual : Str} {st : Stmt} {f : Addr} {fd : FuncData} {N ps : List Str} {k n more : Nat} {b : DenS} (F : Fun K x qual st f fd) (S : FnScope N ps (defScope st)) (hn : ps.length = n) (hN : N.length = n + more)
    (hb : ∀ (cdv : Value) (A : Around) (outer : List PySem.Env) (s : Shared) (H : Hp) (E : XK), Room k (A.deeper (PyProof.Rows.envOfC qual (defScope st) s.heap.objs.size f cdv)) → ∃ t, QSs K (cxOf CX0 P w K mg base N qual (defScope st) f cdv A outer s H E).nox EXn (defBody st) t b) :
    FnOk P w K mg base CX0 (k + 1) f fd ps (spN K (bodyF n more b)) := by
  refine F.ok S (fun vs H Q E h => ?_) (fun cdv A outer s H vs Q E hr h => ?_)
  · obtain ⟨Hs, ds, _, hv, h⟩ := h
    cases q : bodyF n more b ds with
    | ok r S => rw [hv.len, bodyF_len q, hn]
    | exc x S => rw [q] at h; exact h.elim
    | bad => rw [q] at h; exact h.elim
  · obtain ⟨t, q⟩ := hb cdv A outer s H E hr
    obtain ⟨Hs, ds, hs, hv, h⟩ := h
    refine ⟨t, q.ps, ?_⟩
    have hl : ds.length = n := by
      cases q : bodyF n more b ds with
      | ok r S => exact bodyF_len q
      | exc x S => rw [q] at h; exact h.elim
      | bad => rw [q] at h; exact h.elim
    have env := start_env (N := N) (H := H) (more := more) hv (by rw [hv.len, hl]; exact hN)
    unfold bodyF at h
    rw [if_pos hl] at h
    refine q.sn ⟨[], Hs, H⟩ [] Hs H _ _ .off _ ⟨env, rfl, .refl hs, fun b hb => (by cases hb), fun i ds' p q1 q2 => ?_, fun z => absurd rfl z⟩ ?_
    · obtain ⟨p', vs', _, _, _, h4, _⟩ := env.own i ds' q1
      have : ∀ (j : Nat) sl, (ds.map Slot.pv ++ List.replicate more Slot.no)[j]? = some sl → sl ≠ .own ds' := fun j sl q => by
        have hm := List.mem_of_getElem? q
        rcases List.mem_append.mp hm with hm | hm
        · obtain ⟨d, _, rfl⟩ := List.mem_map.mp hm; simp
        · rw [List.eq_of_mem_replicate hm]; simp
      exact absurd rfl (this i _ q1)
    · cases q2 : b (ds.map Slot.pv ++ List.replicate more Slot.no) .off with
      | ok fl S =>
        rw [q2] at h
        cases fl with
        | nx ρ => exact fun PB σ Hs2 H2 s2 => h _ Hs2 H2 s2.base .non
        | rt d => exact fun PB v Hs2 H2 t2 bx sb i2 => h v Hs2 H2 t2 i2
        | bk ρ => exact h.elim
        | ct ρ => exact h.elim
      | exc x S => rw [q2] at h; exact h.elim
      | bad => rw [q2] at h; exact h.elim
theorem ok_fnB {x qual : Str} {st : Stmt} {f : Addr} {fd : FuncData} {N ps : List Str} {k n more : Nat} {b : DenS} (F : Fun K x qual st f fd) (S : FnScope N ps (defScope st)) (hn : ps.length = n + 1) (hN : N.length = n + 1 + more)
    (hb : ∀ (cdv : Value) (A : Around) (outer : List PySem.Env) (s : Shared) (H : Hp) (E : XK), Room k (A.deeper (PyProof.Rows.envOfC qual (defScope st) s.heap.objs.size f cdv)) → ∃ t, QSs K (cxOf CX0 P w K mg base N qual (defScope st) f cdv A outer s H E).nox EXn (defBody st) t b) :
    FnOk P w K mg base CX0 (k + 1) f fd ps (spB K (bodyB n more b)) := by
  refine F.ok S (fun vs H Q E h => ?_) (fun cdv A outer s H vs Q E hr h => ?_)
  · obtain ⟨B, C, us, Hs, ds, cells, ns, rfl, _, _, hv, h⟩ := h
    cases q : bodyB n more b ds (.on cells ns) with
    | ok r S => rw [List.length_cons, hv.len, bodyB_len q, hn]
    | exc x S => rw [q] at h; exact h.elim
    | bad => rw [q] at h; exact h.elim
  · obtain ⟨t, q⟩ := hb cdv A outer s H E hr
    obtain ⟨B, C, us, Hs, ds, cells, ns, rfl, hs, bx, hv, h⟩ := h
    refine ⟨t, q.ps, ?_⟩
    have hl : ds.length = n := by
      cases q : bodyB n more b ds (.on cells ns) with
      | ok r S => exact bodyB_len q
      | exc x S => rw [q] at h; exact h.elim
      | bad => rw [q] at h; exact h.elim
    have hus : us.length = n := by rw [hv.len, hl]
    -- the slots behind the box's
    have env0 := start_env (N := N.tail) (H := H) (more := more) hv (by rw [List.length_tail, hN, hus]; omega)
    have hst : L2.start N (.ref B :: us) = some (.ref B) :: L2.start N.tail us := by
      unfold L2.start
      rw [List.map_cons, List.cons_append, List.length_cons, List.length_tail]
      congr 3
      omega
    have env : EnvIs K [B, C] Hs H (L2.start N (.ref B :: us)) (Slot.box :: (ds.map Slot.pv ++ List.replicate more Slot.no)) := by
      rw [hst]
      have noown : ∀ (j : Nat) es, (Slot.box :: (ds.map Slot.pv ++ List.replicate more Slot.no))[j]? ≠ some (.own es) := fun j es q => by
        have hm := List.mem_of_getElem? q
        rcases List.mem_cons.mp hm with hm | hm
        · cases hm
        · rcases List.mem_append.mp hm with hm | hm
          · obtain ⟨d, _, z⟩ := List.mem_map.mp hm; cases z
          · cases List.eq_of_mem_replicate hm
      refine ⟨by rw [List.length_cons, List.length_cons, env0.len], fun j d q => ?_, fun j es q => absurd q (noown j es), fun j k es fs v q => absurd q (noown j es), fun j q => ?_⟩
      · cases j with
        | zero => simp at q
        | succ j =>
          rw [List.getElem?_cons_succ] at q ⊢
          exact env0.pv j d q
      · cases j with
        | zero => exact ⟨B, C, rfl, rfl⟩
        | succ j =>
          rw [List.getElem?_cons_succ] at q
          obtain ⟨_, _, z, _⟩ := env0.box j q
          cases z
    unfold bodyB at h
    rw [if_pos hl] at h
    refine q.sn ⟨[B, C], Hs, H⟩ [B, C] Hs H _ _ (.on cells ns) _ ⟨env, bx, .refl hs, fun b hb => .inl hb, fun i ds' p q1 q2 => ?_, fun _ => rfl⟩ ?_
    · have hm := List.mem_of_getElem? q1
      rcases List.mem_cons.mp hm with hm | hm
      · cases hm
      · rcases List.mem_append.mp hm with hm | hm
        · obtain ⟨d, _, z⟩ := List.mem_map.mp hm; cases z
        · cases List.eq_of_mem_replicate hm
    · cases q2 : b (Slot.box :: (ds.map Slot.pv ++ List.replicate more Slot.no)) (.on cells ns) with
      | ok fl S =>
        rw [q2] at h
        cases fl with
        | nx ρ => exact fun PB σ Hs2 H2 s2 => h _ Hs2 H2 s2.base (by have := s2.box; rw [s2.sameB (by simp)] at this; exact this) .non
        | rt d => exact fun PB v Hs2 H2 t2 bx sb i2 => h v Hs2 H2 t2 (by rw [sb (by simp)] at bx; exact bx) i2
        | bk ρ => exact h.elim
        | ct ρ => exact h.elim
      | exc x S => rw [q2] at h; exact h.elim
      | bad => rw [q2] at h; exact h.elim
end
end DN

set_option Elab.async false
set_option linter.all false
set_option maxRecDepth 100000
namespace DN
open PySem L2
section
variable {K : PySem.W.Frag} {EX : Exn → Hp → Prop} {ta tb te : TE} {fa fb fe : Den} {tr : TA} {fr : DenL}
/-- a list display as a list of one's own -/
theorem sn_lstL (h : SnA K EX tr fr) : SnL K EX (tLst tr) (lLst fr) := fun PB Hs H σ ρ S Q e b s p =>
  h PB Hs H σ ρ S _ e b s (p.bind fun ds S1 vs Hs1 H1 t1 b1 r1 p1 => by
    by_cases hl : ds.length ≤ LIM
    · rw [if_pos hl] at p1
      refine ⟨by rw [r1.len]; exact lim_line hl, fun q hq => ?_⟩
      have t : Tr [] Hs1 H1 Hs1 (upd H1 q (.lst vs)) := .newU t1.sub hq
      exact p1 _ Hs1 _ t.wide (b1.tr t) ⟨q, vs, rfl, t1.old q hq, b1.notIn hq, t1.sub.free hq, upd_same, r1, hl⟩
    · rw [if_neg hl] at p1; exact False.elim p1)
/-- list(..), sorted(..) -/
theorem sn_lc1 {g : D → Option (List D)} (ha : SnB K EX ta fa) : SnL K EX (tCB (rLC K g) (tCons ta tNil)) (l1 g fa) := fun PB Hs H σ ρ S Q e b s p =>
  ha PB Hs H σ ρ S _ e b s (p.bind fun d S1 v Hs1 H1 t1 b1 r1 p1 => by
    obtain ⟨dz, hz, p3⟩ := p1.of1
    refine ⟨PB, Hs1, d, dz, v, t1.sub, rfl, r1, hz, fun q vs hq hv hl => ?_⟩
    have t : Tr [] Hs1 H1 Hs1 (upd H1 q (.lst vs)) := .newU t1.sub hq
    exact p3 _ Hs1 _ t.wide (b1.tr t) ⟨q, vs, rfl, t1.old q hq, b1.notIn hq, t1.sub.free hq, upd_same, hv, hl⟩)
end
section
variable {X : Cx} {K : PySem.W.Frag} {EX : Exn → Hp → Prop} {a b c e : Expr} {ta tb te : TE} {fa fb fe : Den} {tr : TA} {fr : DenL} {pos p apos : Pos} {es : List Expr} {x : Str}
theorem q_lstL (h : QA K X EX es tr fr) : QL K X EX (.List es pos) (tLst tr) (lLst fr) := ⟨pe_lst h.pa, sn_lstL h.sn⟩
theorem q_bi {id : String} {g : Bi} (hc : CallR X (.builtin id) (rDC K g)) (hg : Gl X x) (hm : X.mg x = none) (hv : bootBuiltins x = some (.builtin id)) (ha : QAB K X EX (e :: es) tr fr) (hn : x ≠ "__name__" := by decide) (hdb : (x == ("__debug__" : Str)) = false := by decide)
    (he : starEach (e :: es) X.env = (false, eval e X.env) :: starEach es X.env := by rfl) (hpl : (backTo pos (starEach es X.env)).any (·.1) = false := by rfl) : QE K X EX (.Call (.Name x p) (e :: es) [] pos) (tCB (rDC K g) tr) (eBi g fr) := ⟨pe_callB hc hg hm hv ha.pa hn hdb he hpl, sn_bi ha.sn⟩
theorem q_ty {T : String} {g : Bi} (hc : CallR X (.type T) (rDC K g)) (hg : Gl X x) (hm : X.mg x = none) (hv : bootBuiltins x = some (.type T)) (ha : QAB K X EX (e :: es) tr fr) (hn : x ≠ "__name__" := by decide) (hdb : (x == ("__debug__" : Str)) = false := by decide)
    (he : starEach (e :: es) X.env = (false, eval e X.env) :: starEach es X.env := by rfl) (hpl : (backTo pos (starEach es X.env)).any (·.1) = false := by rfl) : QE K X EX (.Call (.Name x p) (e :: es) [] pos) (tCB (rDC K g) tr) (eBi g fr) := ⟨pe_callTy hc hg hm hv ha.pa hn hdb he hpl, sn_bi ha.sn⟩
theorem q_biL {id : String} {g : D → Option (List D)} (hc : CallR X (.builtin id) (rLC K g)) (hg : Gl X x) (hm : X.mg x = none) (hv : bootBuiltins x = some (.builtin id)) (ha : QB K X EX e te fe) (hn : x ≠ "__name__" := by decide) (hdb : (x == ("__debug__" : Str)) = false := by decide)
    (he : starEach [e] X.env = (false, eval e X.env) :: starEach [] X.env := by rfl) (hpl : (backTo pos (starEach [] X.env)).any (·.1) = false := by rfl) : QL K X EX (.Call (.Name x p) [e] [] pos) (tCB (rLC K g) (tCons te tNil)) (l1 g fe) := ⟨pe_callB hc hg hm hv (pa_cons ha.pe pa_nil he) hn hdb he hpl, sn_lc1 ha.sn⟩
theorem q_tyL {T : String} {g : D → Option (List D)} (hc : CallR X (.type T) (rLC K g)) (hg : Gl X x) (hm : X.mg x = none) (hv : bootBuiltins x = some (.type T)) (ha : QB K X EX e te fe) (hn : x ≠ "__name__" := by decide) (hdb : (x == ("__debug__" : Str)) = false := by decide)
    (he : starEach [e] X.env = (false, eval e X.env) :: starEach [] X.env := by rfl) (hpl : (backTo pos (starEach [] X.env)).any (·.1) = false := by rfl) : QL K X EX (.Call (.Name x p) [e] [] pos) (tCB (rLC K g) (tCons te tNil)) (l1 g fe) := ⟨pe_callTy hc hg hm hv (pa_cons ha.pe pa_nil he) hn hdb he hpl, sn_lc1 ha.sn⟩
theorem q_isi {T : String} {y : Str} {q : Pos} (hT : kitAll T = true) (hg : Gl X "isinstance") (hm : X.mg "isinstance" = none) (ha : QB K X EX a ta fa) (hg2 : Gl X y) (hm2 : X.mg y = none) (hv2 : bootBuiltins y = some (.type T)) (hv : bootBuiltins "isinstance" = some (.builtin "isinstance") := by decide +kernel)
    (hs1 : starEach [a, .Name y q] X.env = (false, eval a X.env) :: starEach [.Name y q] X.env := by rfl) (hs2 : starEach [.Name y q] X.env = (false, eval (.Name y q) X.env) :: starEach [] X.env := by rfl) (hpl : (backTo pos (starEach [.Name y q] X.env)).any (·.1) = false := by rfl) (hn : y ≠ "__name__" := by decide) (hdb : (y == ("__debug__" : Str)) = false := by decide) (hK : X.K = K := by rfl) :
    QE K X EX (.Call (.Name "isinstance" p) [a, .Name y q] [] pos) (tCB (rIsi K) (tCons ta (tCons (tC (.ty T)) tNil))) (e1 (D.isi T) fa) := by
  subst hK
  exact ⟨pe_callB call_isi hg hm hv (pa_cons ha.pe (pa_cons (pe_bltn hg2 hm2 hv2 rfl hn hdb) pa_nil hs2) hs1) (by decide) (by decide) hs1 hpl, sn_isi hT ha.sn⟩
/-! list(range(..)) -/
def lRng (l : DenL) : DenL := l
end
/-! ### methods of texts -/
def rDM (K : PySem.W.Frag) (g : D → D → Option D) : V → List V → Hp → VK → Prop := fun x xs H Q => ∃ PB Hs dx dy dz y, Same Hs H ∧ xs = [y] ∧ IsB K PB Hs H x dx ∧ IsB K PB Hs H y dy ∧ g dx dy = some dz ∧ ∀ z Hs2 H2, Tr [] Hs H Hs2 H2 → Is K Hs2 z dz → Q z H2
section
variable {K : PySem.W.Frag} {EX : Exn → Hp → Prop} {ta tb te : TE} {fa fb fe : Den} {tr : TA} {fr : DenL}
theorem sn_m1 {g : D → D → Option D} (ha : SnE K EX ta fa) (hb : SnB K EX tb fb) : SnE K EX (tM1 (rDM K g) ta tb) (eM1 g fa fb) := fun PB Hs H σ ρ S Q e b s p =>
  ha PB Hs H σ ρ S _ e b s (p.bind fun d S1 v Hs1 H1 t1 b1 r1 p1 => by
    cases r1 with
    | str x hx =>
      refine ⟨⟨_, rfl⟩, hb PB Hs1 H1 σ ρ S1 _ (e.tr t1) b1 t1.sub (p1.bind fun d' S2 v' Hs2 H2 t2 b2 r2 p2 => ?_)⟩
      obtain ⟨dz, hz, p3⟩ := p2.of1
      exact ⟨PB, Hs2, .str x, d', dz, v', t2.sub, rfl, .inl (.str x hx), r2, hz, fun z Hs3 H3 t3 i3 => p3 z Hs3 H3 t3.wide (b2.tr t3) i3⟩
    | _ => exact False.elim p1)
end
theorem join_len (S : List Nat) : ∀ ys : List (List Nat), (joinL S ys).length + S.length ≤ (ys.map List.length).sum + ys.length * S.length + S.length
  | [] => by simp [joinL]
  | [x] => by simp [joinL]
  | x :: y :: r => by
    have ih := join_len S (y :: r)
    unfold joinL
    simp only [List.length_append, List.map_cons, List.sum_cons, List.length_cons] at ih ⊢
    rw [Nat.add_mul, Nat.add_mul] at *
    omega
theorem join_len2 (S : List Nat) : ∀ ys : List (List Nat), (ys.map List.length).sum + ys.length * S.length ≤ (joinL S ys).length + S.length
  | [] => by simp [joinL]
  | [x] => by simp [joinL]
  | x :: y :: r => by
    have ih := join_len2 S (y :: r)
    unfold joinL
    simp only [List.length_append, List.map_cons, List.sum_cons, List.length_cons] at ih ⊢
    rw [Nat.add_mul, Nat.add_mul] at *
    omega
theorem join_mem {S : List Nat} {c : Nat} : ∀ {ys : List (List Nat)}, c ∈ joinL S ys → c ∈ S ∨ ∃ y ∈ ys, c ∈ y
  | [], h => by cases h
  | [x], h => .inr ⟨x, by simp, h⟩
  | x :: y :: r, h => by
    unfold joinL at h
    rcases List.mem_append.mp h with h | h
    · rcases List.mem_append.mp h with h | h
      · exact .inr ⟨x, by simp, h⟩
      · exact .inl h
    · rcases join_mem h with h | ⟨z, hz, h⟩
      · exact .inl h
      · exact .inr ⟨z, List.mem_cons_of_mem _ hz, h⟩
theorem join_tl (S : List Nat) : ∀ ys : List (List Nat), TL.joinL S ys = joinL S ys
  | [] => rfl
  | [x] => rfl
  | x :: y :: r => by
    unfold TL.joinL joinL
    rw [join_tl S (y :: r), List.append_assoc]
theorem txt_join (S : List Nat) (ys : List (List Nat)) : PySem.Txt.join ⟨S.toArray⟩ (ys.map strV) = ⟨(joinL S ys).toArray⟩ := by
  apply TL.ext_tl
  rw [TL.join_eq, TL.tl_join, TL.tl_mk, TL.tl_mk, List.map_map]
  have : (TL.tl ∘ strV) = id := rfl
  rw [this, List.map_id, join_tl]
section
variable {X : Cx}
theorem m_join : MtR X "str.join" (rDM X.K D.join) := by
  rintro pins s σ H x xs v us Q I rx rs ⟨PB, Hs, dx, dy, dz, y, hs, rfl, hx, hy, hg, q⟩
  cases dx <;> cases dy <;> first | (cases hg; done) | skip
  case str.lst S ds =>
    dsimp only [D.join] at hg
    cases e : strsOf ds with
    | none => rw [e] at hg; cases hg
    | some ys =>
      rw [e] at hg
      dsimp only [Option.bind] at hg
      by_cases hl : (joinL S ys).length ≤ LIM
      · rw [if_pos hl] at hg
        cases hg
        obtain ⟨e1, hS⟩ := hx.str
        obtain ⟨p, vs, e2, h1, i1, l1⟩ := hy.lst hs
        rw [strsOf_eq e] at i1
        obtain ⟨e3, hT⟩ := i1.strs
        subst e1 e2
        rw [e3] at h1
        refine mt_join pins s σ H _ _ v us Q I rx rs ⟨_, p, ys.map strV, rfl, rfl, .inl (SqL.of h1), ?_, ?_⟩
        · rw [List.map_map, List.length_map, str_len]
          have h2 : (ys.map ((·.length) ∘ strV)) = ys.map List.length := List.map_congr_left fun y _ => str_len y
          rw [h2]
          have h3 := join_len2 S ys
          have h4 : LIM + LIM ≤ 16777216 := by decide
          have h5 := hS.1
          omega
        · rw [txt_join]
          exact q _ Hs H (.refl hs) (.str _ ⟨hl, fun c hc => by
            rcases join_mem hc with h | ⟨z, hz, h⟩
            · exact hS.2 c h
            · exact (hT z hz).2 c h⟩)
      · rw [if_neg hl] at hg; cases hg
end
section
variable {X : Cx} {K : PySem.W.Frag} {EX : Exn → Hp → Prop} {o e : Expr} {to te : TE} {fo fe : Den} {pos apos : Pos} {id : String} {name : Str} {g : D → D → Option D}
theorem q_m1 (slot : PySem.Slot "str" name id) (ty : typeOf (.builtin id) = pure (.type "method_descriptor")) (rule : MtR X id (rDM K g)) (ho : QE K X EX o to fo) (he : QB K X EX e te fe)
    (hs : starEach [e] X.env = [(false, eval e X.env)] := by rfl) (hbase : attributeBase o name X.env (eval o X.env) = eval o X.env := by rfl) (hline : (apos.endLine == pos.line) = true := by rfl) :
    QE K X EX (.Call (.Attribute o name apos) [e] [] pos) (tM1 (rDM K g) to te) (eM1 g fo fe) := ⟨pe_m1 slot ty rule ho.pe he.pe hs hbase hline, sn_m1 ho.sn he.sn⟩
end
end DN

set_option Elab.async false
set_option linter.all false
set_option maxRecDepth 100000
namespace DN
open PySem L2
/-! ### a, b = x, y, where a list of one's own may be among them -/
def SlotV (K : PySem.W.Frag) (PB : List Addr) (H0 Hs H : Hp) (v : V) : Slot → Prop
  | .pv d => Is K Hs v d
  | .own ds => IsL K PB H0 Hs H v ds
  | _ => False
def SnX (K : PySem.W.Frag) (EX : Exn → Hp → Prop) (t : TE) (f : DenX) : Prop := ∀ PB Hs H σ ρ S Q, EnvIs K PB Hs H σ ρ → BoxIs PB Hs H S → Same Hs H → Post EX PB Hs H (fun Hs2 H2 v sl => SlotV K PB H Hs2 H2 v sl) Q (f ρ S) → t σ H Q
section
variable {K : PySem.W.Frag} {EX : Exn → Hp → Prop} {ta tb tc te : TE} {fa fb fc fe : Den} {xa xb xc : DenX} {l : DenL}
theorem sx_e (h : SnE K EX te fe) : SnX K EX te (xE fe) := fun PB Hs H σ ρ S Q e b s p => h PB Hs H σ ρ S Q e b s (by
  unfold xE at p
  rw [bind_def] at p
  unfold M.bind at p
  cases q : fe ρ S with
  | ok d S1 => rw [q] at p; exact fun v Hs2 H2 t bx r => p v Hs2 H2 t bx r
  | exc x S1 => rw [q] at p; exact p
  | bad => rw [q] at p; exact p)
theorem sx_l (h : SnL K EX te l) : SnX K EX te (xL l) := fun PB Hs H σ ρ S Q e b s p => h PB Hs H σ ρ S Q e b s (by
  unfold xL at p
  rw [bind_def] at p
  unfold M.bind at p
  cases q : l ρ S with
  | ok d S1 => rw [q] at p; exact fun v Hs2 H2 t bx r => p v Hs2 H2 t bx r
  | exc x S1 => rw [q] at p; exact p
  | bad => rw [q] at p; exact p)
theorem SlotV.tr {PB : List Addr} {H0 Hs H Hs2 H2 : Hp} {v : V} {sl : Slot} (h : SlotV K PB H0 Hs H v sl) (t : Tr PB Hs H Hs2 H2) : SlotV K PB H0 Hs2 H2 v sl := by
  cases sl with
  | pv d => exact Is.up h t.st
  | own ds =>
    obtain ⟨p, vs, e, h0, h1, h2, h3, h4, h5⟩ := h
    exact ⟨p, vs, e, h0, h1, t.un _ _ h3 h2, t.keep _ _ h3 h1, h4.up t.st, h5⟩
  | no => exact h
  | box => exact h
/-- a slot is filled; its list, if it is one, is in no other slot -/
theorem StIs.put {B : Base} {PB : List Addr} {H0 Hs H : Hp} {σ : L2.St} {ρ : Env} {S : BX} {i : Nat} {v : V} {sl : Slot} (s : StIs K B PB Hs H σ ρ S) (hi : i < ρ.length) (h : SlotV K PB H0 Hs H v sl) (h0 : ∀ a, H0 a = none → B.H a = none)
    (new : ∀ (j : Nat) es (p : Addr), v = .ref p → H0 p = none → j ≠ i → ρ[j]? = some (.own es) → σ[j]? ≠ some (some (.ref p))) : StIs K B PB Hs H (σ.set i (some v)) (ρ.set i sl) S := by
  have hσ : i < σ.length := by rw [s.env.len]; exact hi
  cases sl with
  | pv d => exact s.target (s.env.setPv hi h) fun k ds q => set_own k ds q
  | own ds =>
    obtain ⟨p, vs, rfl, hh0, h1, h2, h3, h4, h5⟩ := h
    refine ⟨s.env.setOwn hi h1 h2 h3 h4 h5 fun j es hj q => new j es p rfl hh0 hj q, s.box, s.base, s.pb, fun j es p' k1 k2 => ?_, s.sameB⟩
    by_cases hj : i = j
    · subst hj
      rw [List.getElem?_set_self hσ] at k2
      cases k2
      exact h0 p hh0
    · rw [List.getElem?_set_ne hj] at k1 k2
      exact s.own j es p' k1 k2
  | no => exact h.elim
  | box => exact h.elim
theorem new_of {B : Base} {PB : List Addr} {Hs H : Hp} {σ : L2.St} {ρ : Env} {S : BX} (s : StIs K B PB Hs H σ ρ S) : ∀ (j : Nat) es (p : Addr), H p = none → ρ[j]? = some (.own es) → σ[j]? ≠ some (some (.ref p)) := fun j es p hp q1 q2 => by
  obtain ⟨p', vs', k1, _, _, k4, _⟩ := s.env.own j es q1
  rw [q2] at k1
  cases k1
  rw [hp] at k4; cases k4
/-- the slot that was just filled holds no list that is new behind it -/
theorem new_put {PB : List Addr} {H0 H1 Hs : Hp} {σ : L2.St} {ρ : Env} {i : Nat} {v : V} {sl : Slot} (hi : i < ρ.length) (hσ : i < σ.length) (h : SlotV K PB H0 Hs H1 v sl)
    (old : ∀ (j : Nat) es (p : Addr), H1 p = none → ρ[j]? = some (.own es) → σ[j]? ≠ some (some (.ref p))) : ∀ (j : Nat) es (p : Addr), H1 p = none → (ρ.set i sl)[j]? = some (.own es) → (σ.set i (some v))[j]? ≠ some (some (.ref p)) := fun j es p hp q1 q2 => by
  by_cases hj : i = j
  · subst hj
    rw [List.getElem?_set_self hi] at q1
    rw [List.getElem?_set_self hσ] at q2
    cases q1
    cases q2
    obtain ⟨p', vs', e, _, _, _, h3, _⟩ := h
    cases e
    rw [hp] at h3; cases h3
  · rw [List.getElem?_set_ne hj] at q1 q2
    exact old j es p hp q1 q2
theorem ss_par2 {i j : Nat} (ha : SnX K EX ta xa) (hb : SnX K EX tb xb) : SnS K EX (tPar i j (tCons ta (tCons tb tNil))) (sPar2 i j xa xb) := fun B PB Hs H σ ρ S D s p =>
  ha PB Hs H σ ρ S _ s.env s.box s.base.sub (PostS.bind s p fun x S1 v Hs1 H1 t1 s1 r1 p1 =>
    hb PB Hs1 H1 σ ρ S1 _ s1.env s1.box s1.base.sub (PostS.bind s1 p1 fun y S2 v' Hs2 H2 t2 s2 r2 p2 => by
      by_cases hij : i < ρ.length ∧ j < ρ.length
      · rw [if_pos hij] at p2
        have hσ : i < σ.length := by rw [s.env.len]; exact hij.1
        refine ⟨v, v', rfl, p2 PB _ Hs2 H2 ?_⟩
        have s3 := s2.put hij.1 (r1.tr t2) (fun a e => s.base.old a e) fun k es p _ e _ q => new_of s k es p e q
        refine s3.put (by rw [List.length_set]; exact hij.2) r2 (fun a e => s1.base.old a e) fun k es p _ e _ q => ?_
        exact new_put hij.1 hσ r1 (new_of s1) k es p e q
      · rw [if_neg hij] at p2; exact False.elim p2))
theorem ss_par3 {i j k : Nat} (ha : SnX K EX ta xa) (hb : SnX K EX tb xb) (hc : SnX K EX tc xc) : SnS K EX (tPar3 i j k (tCons ta (tCons tb (tCons tc tNil)))) (sPar3 i j k xa xb xc) := fun B PB Hs H σ ρ S D s p =>
  ha PB Hs H σ ρ S _ s.env s.box s.base.sub (PostS.bind s p fun x S1 v Hs1 H1 t1 s1 r1 p1 =>
    hb PB Hs1 H1 σ ρ S1 _ s1.env s1.box s1.base.sub (PostS.bind s1 p1 fun y S2 v' Hs2 H2 t2 s2 r2 p2 =>
      hc PB Hs2 H2 σ ρ S2 _ s2.env s2.box s2.base.sub (PostS.bind s2 p2 fun z S3 v'' Hs3 H3 t3 s3 r3 p3 => by
        by_cases hij : i < ρ.length ∧ j < ρ.length ∧ k < ρ.length
        · rw [if_pos hij] at p3
          have hσ : i < σ.length := by rw [s.env.len]; exact hij.1
          have hσ2 : j < (σ.set i (some v)).length := by rw [List.length_set, s.env.len]; exact hij.2.1
          refine ⟨v, v', v'', rfl, p3 PB _ Hs3 H3 ?_⟩
          have s4 := s3.put hij.1 ((r1.tr t2).tr t3) (fun a e => s.base.old a e) fun m es p _ e _ q => new_of s m es p e q
          have s5 := s4.put (i := j) (by rw [List.length_set]; exact hij.2.1) (r2.tr t3) (fun a e => s1.base.old a e) fun m es p _ e _ q => new_put hij.1 hσ r1 (new_of s1) m es p e q
          refine s5.put (by rw [List.length_set, List.length_set]; exact hij.2.2) r3 (fun a e => s2.base.old a e) fun m es p _ e _ q => ?_
          exact new_put (by rw [List.length_set]; exact hij.2.1) hσ2 r2 (new_put hij.1 hσ (r1.tr t2) (new_of s2)) m es p e q
        · rw [if_neg hij] at p3; exact False.elim p3)))
end
structure QX (K : PySem.W.Frag) (X : Cx) (EX : Exn → Hp → Prop) (e : Expr) (t : TE) (f : DenX) : Prop where
  pe : PE X e t
  sn : SnX K EX t f
section
variable {X : Cx} {K : PySem.W.Frag} {EX : Exn → Hp → Prop} {a b c e : Expr} {ta tb tc te : TE} {fe : Den} {xa xb xc : DenX} {l : DenL} {pos pt : Pos}
theorem QE.toX (h : QE K X EX e te fe) : QX K X EX e te (xE fe) := ⟨h.pe, sx_e h.sn⟩
theorem QL.toX (h : QL K X EX e te l) : QX K X EX e te (xL l) := ⟨h.pe, sx_l h.sn⟩
theorem qs_par2 (i j : Nat) {x y : Str} {px py pt2 : Pos} {kt k2 : Nat} (hc : X.calm = true) (hN : X.N.Nodup) (hi : X.N[i]? = some x) (hj : X.N[j]? = some y) (hij : i ≠ j)
    (hx : X.env.scope.names.lookup x = some .local) (hy : X.env.scope.names.lookup y = some .local) (ha : QX K X EX a ta xa) (hb : QX K X EX b tb xb)
    (hw : swappedStores [.Tuple [.Name x px, .Name y py] kt pt] (.Tuple [a, b] k2 pt2) X.env = pure (some [x, y]))
    (hs : swapsWithSole [.Tuple [.Name x px, .Name y py] kt pt] (.Tuple [a, b] k2 pt2) pos.line X.env = pure false := by rfl) (hs1 : starEach [a, b] X.env = (false, eval a X.env) :: starEach [b] X.env := by rfl) (hs2 : starEach [b] X.env = (false, eval b X.env) :: starEach [] X.env := by rfl) :
    QS K X EX (.Assign [.Tuple [.Name x px, .Name y py] kt pt] (.Tuple [a, b] k2 pt2) pos) (tPar i j (tCons ta (tCons tb tNil))) (sPar2 i j xa xb) :=
  ⟨ps_par hc hN hi hj hij hx hy (pa_cons ha.pe (pa_cons hb.pe pa_nil hs2) hs1) hw hs, ss_par2 ha.sn hb.sn⟩
theorem q_globS {x : Str} {pos : Pos} (l : List Nat) (hg : Gl X x) (h : ∃ t, X.mg x = some (.str ⟨l.toArray⟩ t)) (h2 : (decide (l.length ≤ LIM) && l.all (· < 0x110000)) = true := by decide +kernel) (hd : (x == ("__debug__" : Str)) = false := by decide) : QE K X EX (.Name x pos) (tC (.str ⟨l.toArray⟩)) (eC (.str l)) := by
  obtain ⟨t, h⟩ := h
  exact q_glob hg h ⟨t, rfl⟩ (fun _ => .str l (tx_all h2)) hd
theorem q_globI {x : Str} {pos : Pos} (i : Int) (hg : Gl X x) (h : ∃ t, X.mg x = some (.int i t)) (hd : (x == ("__debug__" : Str)) = false := by decide) : QE K X EX (.Name x pos) (tC (.int i)) (eC (.int i)) := by
  obtain ⟨t, h⟩ := h
  exact q_glob hg h ⟨t, rfl⟩ (fun _ => .int i) hd
end
theorem hu70 {A : Around} {k : Nat} (hr : Room k A) : A.units + 70 < cLine := by have := hr.un; omega
theorem hu0 {A : Around} {k : Nat} (hr : Room k A) : A.units < cLine := by have := hr.un; omega
section
variable {P : Program} {w : World} {K : PySem.W.Frag} {mg : Str → Option Value} {base : Heap} {CX : CXT} {k : Nat} {f : Addr} {fd : FuncData} {ps : List Str}
theorem fn_none : FnOk P w K mg base CX k f fd ps (spN K Fn.none) := by
  have no : ∀ vs H Q E, ¬ spN K Fn.none vs H Q E := fun vs H Q E ⟨_, _, _, _, h⟩ => h
  exact ⟨fun vs H Q E h => absurd h (no vs H Q E), fun A outer s H args us vs Q E _ _ _ _ h => absurd h (no vs H Q E)⟩
theorem fn_noneB : FnOk P w K mg base CX k f fd ps (spB K FnB.none) := by
  have no : ∀ vs H Q E, ¬ spB K FnB.none vs H Q E := fun vs H Q E ⟨_, _, _, _, _, _, _, _, _, _, _, h⟩ => h
  exact ⟨fun vs H Q E h => absurd h (no vs H Q E), fun A outer s H args us vs Q E _ _ _ _ h => absurd h (no vs H Q E)⟩
end
/-! ### list(range(..)), x.index(..), min and max of three -/
end DN

set_option Elab.async false
set_option linter.all false
set_option maxRecDepth 100000
namespace DN
open PySem L2 PySem.Spec PyProof.Rows
section
variable {X : Cx}
theorem ibs_three {K : PySem.W.Frag} {PB : List Addr} {Hs H : Hp} {xs : List V} {a b c : D} (h : IsBs K PB Hs H xs [a, b, c]) : ∃ x y z, xs = [x, y, z] ∧ IsB K PB Hs H x a ∧ IsB K PB Hs H y b ∧ IsB K PB Hs H z c := by
  cases h with
  | cons h1 h =>
    cases h with
    | cons h2 h =>
      cases h with
      | cons h3 h => cases h; exact ⟨_, _, _, rfl, h1, h2, h3⟩
theorem c_max3 (hc : X.calm = true) : CallR X (.builtin "max") (rDC X.K bMax3) := by
  rintro pins s σ H xs us Q I rx ⟨PB, Hs, ds, dz, hs, hx, hg, q⟩
  match ds, hg with
  | [.int i, .int j, .int k], hg =>
    obtain ⟨x, y, z, rfl, h1, h2, h3⟩ := ibs_three hx
    cases hg
    rw [h1.int, h2.int, h3.int] at rx
    refine call_max3Nu hc pins s σ H _ us Q I rx ⟨.int i, .int j, .int k, .int (let m := if j > i then j else i; if k > m then k else m), rfl, ?_, q _ Hs H (.refl hs) (.int _)⟩
    have e2 : ∀ m n : Int, nuMax2 (.int m) (.int n) = some (.int (if n > m then n else m)) := fun m n => by
      show some (if decide (m < n) = true then V.int n else V.int m) = _
      by_cases h : m < n <;> simp [h]
    unfold nuMax3
    rw [e2]
    show nuMax2 _ _ = _
    rw [e2]
theorem c_min3 (hc : X.calm = true) : CallR X (.builtin "min") (rDC X.K bMin3) := by
  rintro pins s σ H xs us Q I rx ⟨PB, Hs, ds, dz, hs, hx, hg, q⟩
  match ds, hg with
  | [.int i, .int j, .int k], hg =>
    obtain ⟨x, y, z, rfl, h1, h2, h3⟩ := ibs_three hx
    cases hg
    rw [h1.int, h2.int, h3.int] at rx
    refine call_min3Nu hc pins s σ H _ us Q I rx ⟨.int i, .int j, .int k, .int (let m := if j < i then j else i; if k < m then k else m), rfl, ?_, q _ Hs H (.refl hs) (.int _)⟩
    have e2 : ∀ m n : Int, nuMin2 (.int m) (.int n) = some (.int (if n < m then n else m)) := fun m n => by
      show some (if decide (n < m) = true then V.int n else V.int m) = _
      by_cases h : n < m <;> simp [h]
    unfold nuMin3
    rw [e2]
    show nuMin2 _ _ = _
    rw [e2]
theorem ip_dadd : PIp X .Add (rD2 X.K D.iadd) := by
  rintro pins s σ H x y v u Q I rx ry ⟨PB, Hs, dx, dy, dz, hs, hx, hy, hg, q⟩
  cases dx <;> cases dy <;> first | (cases hg; done) | skip
  case int.int i j =>
    cases hg
    rw [hx.int] at rx
    rw [hy.int] at ry
    exact ip_add pins s σ H _ _ v u Q I rx ry ⟨i, j, rfl, rfl, q _ Hs H (.refl hs) (.int _)⟩
  case str.str x y =>
    dsimp only [D.iadd] at hg
    by_cases hl : x.length + y.length ≤ LIM
    · rw [if_pos hl] at hg
      cases hg
      obtain ⟨e1, h1⟩ := hx.str
      obtain ⟨e2, h2⟩ := hy.str
      rw [e1] at rx
      rw [e2] at ry
      refine iop_add_str pins s σ H _ _ v u Q I rx ry ⟨_, _, rfl, rfl, by rw [str_len, str_len]; exact lim_line hl, ?_⟩
      rw [str_add]
      exact q _ Hs H (.refl hs) (.str _ (tx_app h1 h2 hl))
    · rw [if_neg hl] at hg; cases hg
theorem ip_dsub : PIp X .Sub (rD2 X.K D.sub) := by
  rintro pins s σ H x y v u Q I rx ry ⟨PB, Hs, dx, dy, dz, hs, hx, hy, hg, q⟩
  cases dx <;> cases dy <;> first | (cases hg; done) | skip
  case int.int i j =>
    cases hg
    rw [hx.int] at rx
    rw [hy.int] at ry
    exact ip_sub pins s σ H _ _ v u Q I rx ry ⟨i, j, rfl, rfl, q _ Hs H (.refl hs) (.int _)⟩
end
theorem blk_by {N : List Str} {sc scope : Scope} {own : List (Str × Nat)} (h : blkC N sc scope own = true) : BlkOk N sc scope own := blkOk_by h
/-! ### list(range(..)) -/
theorem ints_from (K : PySem.W.Frag) (H : Hp) : ∀ (n : Nat) (lo : Int), IsAll K H ((List.range n).map fun i => V.int (lo + (i : Nat))) (intsFrom lo n)
  | 0, _ => .nil
  | n + 1, lo => by
    rw [List.range_succ_eq_map, List.map_cons, List.map_map]
    unfold intsFrom
    have h0 : lo + ((0 : Nat) : Int) = lo := by omega
    rw [h0]
    refine .cons (.int lo) ?_
    have h := ints_from K H n (lo + 1)
    have e : ((fun i : Nat => V.int (lo + (i : Nat))) ∘ Nat.succ) = fun i : Nat => V.int (lo + 1 + (i : Nat)) := by
      funext i
      show V.int (lo + ((i + 1 : Nat) : Int)) = _
      congr 1
      omega
    rw [e]
    exact h
section
variable {K : PySem.W.Frag} {EX : Exn → Hp → Prop} {ta tb te : TE} {fa fb fe : Den} {tr : TA} {fr : DenL}
theorem sn_lrange1 (ha : SnE K EX ta fa) : SnL K EX (tLstRg (tRg1 ta)) (lRange1 fa) := fun PB Hs H σ ρ S Q e b s p =>
  ha PB Hs H σ ρ S _ e b s (p.bind fun d S1 v Hs1 H1 t1 b1 r1 p1 => by
    cases r1 with
    | int n =>
      dsimp only at p1
      by_cases hc : -BIG ≤ n ∧ n ≤ LIM
      · rw [if_pos hc] at p1
        obtain ⟨c1, c2⟩ := hc
        unfold BIG at c1
        have c3 : (LIM : Int) = 1000000 := rfl
        refine ⟨n, rfl, ⟨by omega, by omega, by omega, by omega, by omega⟩, fun q hq => ?_⟩
        have t : Tr [] Hs1 H1 Hs1 (upd H1 q (.lst (rgV 0 n))) := .newU t1.sub hq
        refine p1 _ Hs1 _ t.wide (b1.tr t) ⟨q, rgV 0 n, rfl, t1.old q hq, b1.notIn hq, t1.sub.free hq, upd_same, ?_, ?_⟩
        · unfold rgV
          have e : (n - 0).toNat = n.toNat := by omega
          rw [e]
          exact ints_from K Hs1 n.toNat 0
        · rw [intsFrom_len]
          omega
      · rw [if_neg hc] at p1
        exact False.elim p1
    | _ => exact False.elim p1)
theorem sn_lrange2 (ha : SnE K EX ta fa) (hb : SnE K EX tb fb) : SnL K EX (tLstRg (tRg2 ta tb)) (lRange2 fa fb) := fun PB Hs H σ ρ S Q e b s p =>
  ha PB Hs H σ ρ S _ e b s (p.bind fun d S1 v Hs1 H1 t1 b1 r1 p1 =>
    hb PB Hs1 H1 σ ρ S1 _ (e.tr t1) b1 t1.sub (p1.bind fun d' S2 v' Hs2 H2 t2 b2 r2 p2 => by
    cases r1 with
    | int lo =>
      cases r2 with
      | int hi =>
        dsimp only at p2
        by_cases hc : -BIG ≤ lo ∧ lo ≤ BIG ∧ -BIG ≤ hi ∧ hi ≤ BIG ∧ hi - lo ≤ LIM
        · rw [if_pos hc] at p2
          obtain ⟨c1, c2, c4, c5, c6⟩ := hc
          unfold BIG at c1 c2 c4 c5
          have c3 : (LIM : Int) = 1000000 := rfl
          refine ⟨lo, hi, rfl, rfl, ⟨by omega, by omega, by omega, by omega, by omega⟩, fun q hq => ?_⟩
          have t : Tr [] Hs2 H2 Hs2 (upd H2 q (.lst (rgV lo hi))) := .newU t2.sub hq
          refine p2 _ Hs2 _ t.wide (b2.tr t) ⟨q, rgV lo hi, rfl, (t1.trans t2).old q hq, b2.notIn hq, t2.sub.free hq, upd_same, ints_from K Hs2 _ lo, ?_⟩
          rw [intsFrom_len]
          omega
        · rw [if_neg hc] at p2
          exact False.elim p2
      | _ => exact False.elim p2
    | _ => exact False.elim p2))
end
section
variable {X : Cx} {K : PySem.W.Frag} {EX : Exn → Hp → Prop} {a b c e : Expr} {ta tb tc te : TE} {fa fb fe : Den} {pos p2 p p3 : Pos}
theorem q_listRange1 (hg : Gl X "list") (hm : X.mg "list" = none) (hg2 : Gl X "range") (hm2 : X.mg "range" = none) (h : QE K X EX a ta fa) (hc : X.calm = true := by rfl)
    (na : starEach [a] X.env = (false, eval a X.env) :: starEach [] X.env := by rfl) (nb : starEach [.Call (.Name "range" p) [a] [] p2] X.env = (false, eval (.Call (.Name "range" p) [a] [] p2) X.env) :: starEach [] X.env := by rfl) :
    QL K X EX (.Call (.Name "list" p3) [.Call (.Name "range" p) [a] [] p2] [] pos) (tLstRg (tRg1 ta)) (lRange1 fa) :=
  ⟨pe_listRg hc hg hm (prg_1 hg2 hm2 h.pe na) nb, sn_lrange1 h.sn⟩
theorem q_listRange2 (hg : Gl X "list") (hm : X.mg "list" = none) (hg2 : Gl X "range") (hm2 : X.mg "range" = none) (h : QE K X EX a ta fa) (h' : QE K X EX b tb fb) (hc : X.calm = true := by rfl)
    (na : starEach [a, b] X.env = (false, eval a X.env) :: starEach [b] X.env := by rfl) (na2 : starEach [b] X.env = (false, eval b X.env) :: starEach [] X.env := by rfl) (hp : (backTo p2 (starEach [b] X.env)).any (·.1) = false := by rfl)
    (nb : starEach [.Call (.Name "range" p) [a, b] [] p2] X.env = (false, eval (.Call (.Name "range" p) [a, b] [] p2) X.env) :: starEach [] X.env := by rfl) :
    QL K X EX (.Call (.Name "list" p3) [.Call (.Name "range" p) [a, b] [] p2] [] pos) (tLstRg (tRg2 ta tb)) (lRange2 fa fb) :=
  ⟨pe_listRg hc hg hm (prg_2 hg2 hm2 h.pe h'.pe na na2 hp) nb, sn_lrange2 h.sn h'.sn⟩
/-- xs.append(e) -/
theorem qs_append (i : Nat) {x : Str} {apos p1 : Pos} (hN : X.N[i]? = some x) (hv : Vis X.env.scope x) (he : QE K X EX e te fe)
    (hbase : attributeBase (.Name x p1) "append" X.env (eval (.Name x p1) X.env) = eval (.Name x p1) X.env := by rfl)
    (hfew : ((backTo p2 (starEach [e] X.env)).all (fun x => !x.1) && (backToKw p2 (keywordEach [] X.env)).all (fun x => x.1.isSome)
      && decide ([e].length + ([] : List Keyword).length + (if ([] : List Keyword).isEmpty then 0 else 1) < 30)) = true := by rfl)
    (hline : (apos.endLine == p2.line) = true := by rfl) (hs1 : starEach [e] X.env = (false, eval e X.env) :: starEach [] X.env := by rfl) (hplain : (backTo p2 (starEach [] X.env)).any (·.1) = false := by rfl)
    (hs : swapsWith (.Call (.Attribute (.Name x p1) "append" apos) [e] [] p2) none pos.line X.env = pure false := by rfl) (hd : (x == ("__debug__" : Str)) = false := by decide) (hcd : (x == ("__classdict__" : Str)) = false := by decide) (hK : X.K = K := by rfl) :
    QS K X EX (.Expr (.Call (.Attribute (.Name x p1) "append" apos) [e] [] p2) pos) (tDrop (tBM K "list" rAppend (tVar i) (tCons te tNil))) (sApp i fe) := by
  subst hK
  exact qs_app i hN hv he (pe_bm PySem.F.plainAttrs_list PySem.F.slot_list_append PySem.F.type_list_append mt_append (pe_var hN hv hd hcd) (pa_cons he.pe pa_nil hs1) hbase hfew hline hs1 hplain) hs
theorem qs_par3 (i j k : Nat) {xa xb xc : DenX} {x y z : Str} {px py pz pt pt2 : Pos} {kt k2 : Nat} (hc : X.calm = true) (hN : X.N.Nodup) (hi : X.N[i]? = some x) (hj : X.N[j]? = some y) (hk : X.N[k]? = some z) (hij : i ≠ j) (hik : i ≠ k) (hjk : j ≠ k)
    (hx : X.env.scope.names.lookup x = some .local) (hy : X.env.scope.names.lookup y = some .local) (hz : X.env.scope.names.lookup z = some .local) (ha : QX K X EX a ta xa) (hb : QX K X EX b tb xb) (h3 : QX K X EX c tc xc)
    (hw : swappedStores [.Tuple [.Name x px, .Name y py, .Name z pz] kt pt] (.Tuple [a, b, c] k2 pt2) X.env = pure (some [x, y, z]))
    (hs : swapsWithSole [.Tuple [.Name x px, .Name y py, .Name z pz] kt pt] (.Tuple [a, b, c] k2 pt2) pos.line X.env = pure false := by rfl) (hs1 : starEach [a, b, c] X.env = (false, eval a X.env) :: starEach [b, c] X.env := by rfl) (hs2 : starEach [b, c] X.env = (false, eval b X.env) :: starEach [c] X.env := by rfl) (hs3 : starEach [c] X.env = (false, eval c X.env) :: starEach [] X.env := by rfl) :
    QS K X EX (.Assign [.Tuple [.Name x px, .Name y py, .Name z pz] kt pt] (.Tuple [a, b, c] k2 pt2) pos) (tPar3 i j k (tCons ta (tCons tb (tCons tc tNil)))) (sPar3 i j k xa xb xc) :=
  ⟨ps_par3 hc hN hi hj hk hij hik hjk hx hy hz (pa_cons ha.pe (pa_cons hb.pe (pa_cons h3.pe pa_nil hs3) hs2) hs1) hw hs, ss_par3 ha.sn hb.sn h3.sn⟩
end
end DN

set_option Elab.async false
set_option linter.all false
set_option maxRecDepth 100000
namespace DN
open PySem L2 PySem.Spec PyProof.Rows
/-! ### the box: what loads it, what draws from it -/
def Gv (te : TE) (σ : L2.St) (H : Hp) (v : V) : Prop := ∀ Q : VK, Q v H → te σ H Q
def rIntC : List V → Hp → VK → Prop := fun xs H Q => (∃ i, xs = [.int i] ∧ Q (.int i) H) ∨ ∃ k, xs = [.bl k] ∧ Q (.int (if k then 1 else 0)) H
def rLenC (K : PySem.W.Frag) : List V → Hp → VK → Prop := fun xs H Q => ∃ x n, xs = [x] ∧ LenV K x H n ∧ Q (.int n) H
abbrev rAddI : R2 := rI0 fun i j => .int (i + j)
abbrev rSubI : R2 := rI0 fun i j => .int (i - j)
abbrev rMulI : R2 := rI CMul fun i j => .int (i * j)
abbrev rModI : R2 := rI (fun _ j => 0 < j) fun i j => .int (i % j)
abbrev rDivI : R2 := rI CDiv fun i j => .int (i / j)
abbrev rGtI : R2 := rI0 fun i j => .bl (decide (j < i))
abbrev rGeI : R2 := rI0 fun i j => .bl (decide (j ≤ i))
abbrev rLtI : R2 := rI0 fun i j => .bl (decide (i < j))
abbrev rNegI : V → Hp → VK → Prop := rU fun i => .int (-i)
section
variable {K : PySem.W.Frag} {σ : L2.St} {H : Hp} {ta tb te : TE} {i j k w : Int} {v : V} {D : Ends} {u : TS}
theorem g_var {n : Nat} (h : σ[n]? = some (some v)) : Gv (tVar n) σ H v := fun Q q => ⟨v, h, q⟩
theorem g_c : Gv (tC v) σ H v := fun Q q => q
theorem g_add (ha : Gv ta σ H (.int i)) (hb : Gv tb σ H (.int j)) : Gv (tOp rAddI ta tb) σ H (.int (i + j)) := fun Q q => ha _ (hb _ ⟨i, j, rfl, rfl, q⟩)
theorem g_sub (ha : Gv ta σ H (.int i)) (hb : Gv tb σ H (.int j)) : Gv (tOp rSubI ta tb) σ H (.int (i - j)) := fun Q q => ha _ (hb _ ⟨i, j, rfl, rfl, q⟩)
theorem g_mulR (ha : Gv ta σ H (.int i)) (hb : Gv tb σ H (.int j)) (h : -(2 ^ 64) < j ∧ j < 2 ^ 64 := by decide) : Gv (tOp rMulI ta tb) σ H (.int (i * j)) := fun Q q => ha _ (hb _ ⟨i, j, rfl, rfl, .inr h, q⟩)
theorem g_mulL (ha : Gv ta σ H (.int i)) (hb : Gv tb σ H (.int j)) (h : -(2 ^ 64) < i ∧ i < 2 ^ 64 := by decide) : Gv (tOp rMulI ta tb) σ H (.int (i * j)) := fun Q q => ha _ (hb _ ⟨i, j, rfl, rfl, .inl h, q⟩)
theorem g_mod (ha : Gv ta σ H (.int i)) (hb : Gv tb σ H (.int j)) (h : 0 < j := by decide) : Gv (tOp rModI ta tb) σ H (.int (i % j)) := fun Q q => ha _ (hb _ ⟨i, j, rfl, rfl, h, q⟩)
theorem g_div (ha : Gv ta σ H (.int i)) (hb : Gv tb σ H (.int j)) (h : 0 < j ∧ j < 1073741824) : Gv (tOp rDivI ta tb) σ H (.int (i / j)) := fun Q q => ha _ (hb _ ⟨i, j, rfl, rfl, h, q⟩)
theorem g_neg (ha : Gv ta σ H (.int i)) : Gv (tUn rNegI ta) σ H (.int (-i)) := fun Q q => ha _ ⟨i, rfl, q⟩
theorem g_int (ha : Gv ta σ H (.int i)) : Gv (tCB rIntC (tCons ta tNil)) σ H (.int i) := fun Q q => ha _ (.inl ⟨i, rfl, q⟩)
theorem g_ge (ha : Gv ta σ H (.int i)) (hb : Gv tb σ H (.int j)) : Gv (tOp rGeI ta tb) σ H (.bl (decide (j ≤ i))) := fun Q q => ha _ (hb _ ⟨i, j, rfl, rfl, q⟩)
theorem g_gt (ha : Gv ta σ H (.int i)) (hb : Gv tb σ H (.int j)) : Gv (tOp rGtI ta tb) σ H (.bl (decide (j < i))) := fun Q q => ha _ (hb _ ⟨i, j, rfl, rfl, q⟩)
theorem g_lt (ha : Gv ta σ H (.int i)) (hb : Gv tb σ H (.int j)) : Gv (tOp rLtI ta tb) σ H (.bl (decide (i < j))) := fun Q q => ha _ (hb _ ⟨i, j, rfl, rfl, q⟩)
theorem g_if {b : Bool} {tc : TE} {x y : V} (hc : Gv tc σ H (.bl b)) (ha : Gv ta σ H x) (hb : Gv tb σ H y) : Gv (tIf (L2.tTest tc) ta tb) σ H (if b = true then x else y) := fun Q q => hc _ ⟨b, rfl, by
  cases b with
  | true => exact ha _ q
  | false => exact hb _ q⟩
theorem g_at {p : Addr} {xs : List V} {n : Int} (ha : Gv ta σ H (.ref p)) (hp : H p = some (.lst xs)) (h : atI xs n = some v) : Gv (tOp (rIxL K) ta (tC (.int n))) σ H v := fun Q q => ha _ ⟨p, xs, n, v, rfl, rfl, SqL.of hp, h, q⟩
theorem g_len {p : Addr} {xs : List V} (ha : Gv ta σ H (.ref p)) (hp : H p = some (.lst xs)) : Gv (tCB (rLenC K) (tCons ta tNil)) σ H (.int xs.length) := fun Q q => ha _ ⟨.ref p, xs.length, rfl, .inl ⟨_, SqL.of hp, rfl⟩, q⟩
theorem g_set {n : Nat} (h : Gv te σ H v) (k : u D (σ.set n (some v)) H) : tSeq (tAsg te (gName n)) u D σ H := h _ k
theorem g_put {n : Nat} {p : Addr} {xs : List V} {m : Int} {c : Nat} (h : Gv te σ H v) (hσ : σ[n]? = some (some (.ref p))) (hp : H p = some (.lst xs)) (hm : L2.ixN xs.length m = some c) (k : D.nx σ (upd H p (.lst (xs.set c v)))) :
    tAsg te (gSub (tVar n) (tC (.int m)) rSetL) D σ H := h _ ⟨_, hσ, p, xs, m, c, rfl, rfl, hp, hm, k⟩
theorem g_cond {b : Bool} {tc : TE} {t1 t2 : TS} (hc : Gv tc σ H (.bl b)) (k : if b = true then t1 D σ H else t2 D σ H) : tIfS (L2.tTest tc) t1 t2 D σ H := hc _ ⟨b, rfl, k⟩
/-- cells.pop(0) -/
theorem g_pop {n m : Nat} {p : Addr} {c : Int} {r : List Int} (hσ : σ[n]? = some (some (.ref p))) (hp : H p = some (.lst ((c :: r).map V.int))) (k : u D (σ.set m (some (.int c))) (upd H p (.lst (r.map V.int)))) :
    tSeq (tAsg (tCB rIntC (tCons (tBM K "list" rPopAt (tVar n) (tCons (tC (.int 0)) tNil)) tNil)) (gName m)) u D σ H :=
  ⟨_, hσ, .inl ⟨rfl, _, SqL.of hp⟩, p, _, 0, 0, .int c, rfl, rfl, hp, by decide, by decide, by
    unfold seqIndex?
    rw [List.length_map, List.length_cons]
    simp
    , rfl, .inl ⟨c, rfl, k⟩⟩
end
def loadT (K : PySem.W.Frag) : TS :=
  tSeq (tAsg (tOp (rIxL K) (tVar 0) (tC (.int 0))) (gName 1))
  (tSeq (tIfS (L2.tTest (tOp rGtI (tCB (rLenC K) (tCons (tVar 1) tNil)) (tC (.int 0))))
    (tSeq (tAsg (tCB rIntC (tCons (tBM K "list" rPopAt (tVar 1) (tCons (tC (.int 0)) tNil)) tNil)) (gName 4))
    (tSeq (tAsg (tIf (L2.tTest (tOp rGeI (tVar 4) (tC (.int 0)))) (tOp rMulI (tC (.int 2)) (tVar 4)) (tOp rSubI (tOp rMulI (tUn rNegI (tC (.int 2))) (tVar 4)) (tC (.int 1)))) (gName 5))
    (tSeq (tIfS (L2.tTest (tOp rGeI (tVar 5) (tC (.int 1000000000000000000)))) (tRet (tVar 5)) L2.tNext)
      (tAsg (tOp rModI (tCB rIntC (tCons (tOp rAddI (tOp rAddI (tOp rMulI (tOp (rIxL K) (tVar 0) (tC (.int 2))) (tC (.int 69621))) (tOp rMulI (tVar 5) (tC (.int 48271)))) (tC (.int 11))) tNil)) (tC (.int 2147483647))) (gSub (tVar 0) (tC (.int 2)) rSetL)))))
    L2.tNext)
  (tSeq (tAsg (tOp rModI (tCB rIntC (tCons (tOp rAddI (tOp rMulI (tOp (rIxL K) (tVar 0) (tC (.int 2))) (tC (.int 48271))) (tC (.int 17))) tNil)) (tC (.int 2147483629))) (gName 2))
  (tSeq (tAsg (tOp rModI (tCB rIntC (tCons (tOp rAddI (tOp rMulI (tVar 2) (tC (.int 69621))) (tC (.int 5))) tNil)) (tC (.int 2147483587))) (gName 3))
  (tSeq (tAsg (tOp rModI (tCB rIntC (tCons (tOp rAddI (tOp rMulI (tVar 3) (tC (.int 40692))) (tC (.int 3))) tNil)) (tC (.int 2147483563))) (gSub (tVar 0) (tC (.int 2)) rSetL))
  (tRet (tOp rAddI (tOp rAddI (tOp rMulI (tVar 2) (tC (.int 4611686014132420609))) (tOp rMulI (tVar 3) (tC (.int 2147483647)))) (tOp (rIxL K) (tVar 0) (tC (.int 2)))))))))
def drawT (K : PySem.W.Frag) (tl : TE) : TS :=
  tSeq (tIfS (L2.tTest (tOp rLtI (tOp (rIxL K) (tVar 0) (tC (.int 1))) (tVar 1))) (tAsg tl (gSub (tVar 0) (tC (.int 1)) rSetL)) L2.tNext)
  (tSeq (tAsg (tOp rModI (tCB rIntC (tCons (tOp (rIxL K) (tVar 0) (tC (.int 1))) tNil)) (tVar 1)) (gName 2))
  (tSeq (tAsg (tOp rDivI (tOp (rIxL K) (tVar 0) (tC (.int 1))) (tVar 1)) (gSub (tVar 0) (tC (.int 1)) rSetL))
  (tRet (tVar 2))))
/-- apart from the box nothing changed -/
def Off (B C : Addr) (H H2 : Hp) : Prop := ∀ x, x ≠ B → x ≠ C → H2 x = H x
theorem off_refl {B C : Addr} {H : Hp} : Off B C H H := fun _ _ _ => rfl
theorem Off.B {B C : Addr} {H H2 : Hp} {o : HO} (h : Off B C H H2) : Off B C H (upd H2 B o) := fun x h1 h2 => by rw [upd_ne h1]; exact h x h1 h2
theorem Off.C {B C : Addr} {H H2 : Hp} {o : HO} (h : Off B C H H2) : Off B C H (upd H2 C o) := fun x h1 h2 => by rw [upd_ne h2]; exact h x h1 h2
theorem tail_sem {K : PySem.W.Frag} {D : Ends} {B C : Addr} {H0 H : Hp} {cells : List Int} {a st : Int} {o4 o5 : Option V} (hB : H B = some (.lst [.ref C, .int a, .int st])) (hC : H C = some (.lst (cells.map .int))) (hne : B ≠ C) (hs : okS st = true) (ho : Off B C H0 H)
    (hQ : ∀ H2, Off B C H0 H2 → H2 B = some (.lst [.ref C, .int a, .int (loadTail st).2]) → H2 C = some (.lst (cells.map .int)) → D.rt (.int (loadTail st).1) H2) :
    (tSeq (tAsg (tOp rModI (tCB rIntC (tCons (tOp rAddI (tOp rMulI (tOp (rIxL K) (tVar 0) (tC (.int 2))) (tC (.int 48271))) (tC (.int 17))) tNil)) (tC (.int 2147483629))) (gName 2))
  (tSeq (tAsg (tOp rModI (tCB rIntC (tCons (tOp rAddI (tOp rMulI (tVar 2) (tC (.int 69621))) (tC (.int 5))) tNil)) (tC (.int 2147483587))) (gName 3))
  (tSeq (tAsg (tOp rModI (tCB rIntC (tCons (tOp rAddI (tOp rMulI (tVar 3) (tC (.int 40692))) (tC (.int 3))) tNil)) (tC (.int 2147483563))) (gSub (tVar 0) (tC (.int 2)) rSetL))
  (tRet (tOp rAddI (tOp rAddI (tOp rMulI (tVar 2) (tC (.int 4611686014132420609))) (tOp rMulI (tVar 3) (tC (.int 2147483647)))) (tOp (rIxL K) (tVar 0) (tC (.int 2)))))))) D [some (.ref B), some (.ref C), none, none, o4, o5] H := by
  refine g_set (g_mod (g_int (g_add (g_mulR (g_at (g_var rfl) hB rfl) g_c) g_c)) g_c) ?_
  refine g_set (g_mod (g_int (g_add (g_mulR (g_var rfl) g_c) g_c)) g_c) ?_
  refine g_put (c := 2) (g_mod (g_int (g_add (g_mulR (g_var rfl) g_c) g_c)) g_c) rfl hB rfl ?_
  refine g_add (g_add (g_mulR (g_var rfl) g_c) (g_mulR (g_var rfl) g_c)) (g_at (g_var rfl) upd_same rfl) _ ?_
  exact hQ _ (Off.B ho) upd_same (by rw [upd_ne (Ne.symm hne)]; exact hC)
theorem sem_load {K : PySem.W.Frag} {D : Ends} {B C : Addr} {H : Hp} {cells : List Int} {a st : Int} (hB : H B = some (.lst [.ref C, .int a, .int st])) (hC : H C = some (.lst (cells.map .int))) (hne : B ≠ C) (hs : okS st = true)
    (hQ : ∀ H2, Off B C H H2 → H2 B = some (.lst [.ref C, .int a, .int (load cells st).2.2]) → H2 C = some (.lst ((load cells st).2.1.map .int)) → D.rt (.int (load cells st).1) H2) :
    loadT K D [some (.ref B), none, none, none, none, none] H := by
  refine g_set (g_at (g_var rfl) hB rfl) ?_
  refine g_cond (g_gt (g_len (g_var rfl) hC) g_c) ?_
  cases cells with
  | nil =>
    rw [if_neg (by simp)]
    exact tail_sem hB hC hne hs off_refl hQ
  | cons c r =>
    rw [if_pos (by simp)]
    refine g_pop (c := c) (r := r) rfl hC ?_
    have hB1 : (upd H C (.lst (r.map V.int))) B = some (.lst [.ref C, .int a, .int st]) := by rw [upd_ne hne]; exact hB
    refine g_set (g_if (g_ge (g_var rfl) g_c) (g_mulL g_c (g_var rfl)) (g_sub (g_mulL (g_neg g_c) (g_var rfl)) g_c)) ?_
    have hsz : (if decide ((0 : Int) ≤ c) = true then V.int (2 * c) else V.int (-2 * c - 1)) = V.int (cellSize c) := by
      unfold cellSize
      by_cases h : (0 : Int) ≤ c <;> simp [h]
    rw [hsz]
    refine g_cond (g_ge (g_var rfl) g_c) ?_
    by_cases hb : (1000000000000000000 : Int) ≤ cellSize c
    · rw [if_pos (decide_eq_true hb)]
      have e : load (c :: r) st = (cellSize c, r, st) := by
        unfold load
        dsimp only
        rw [if_pos hb]
      rw [e] at hQ
      exact g_var rfl _ (hQ _ (Off.C off_refl) hB1 upd_same)
    · rw [if_neg (by rw [decide_eq_false hb]; decide)]
      have e : load (c :: r) st = ((loadTail ((st * 69621 + cellSize c * 48271 + 11) % 2147483647)).1, r, (loadTail ((st * 69621 + cellSize c * 48271 + 11) % 2147483647)).2) := by
        unfold load
        dsimp only
        rw [if_neg hb]
      rw [e] at hQ
      refine g_put (c := 2) (g_mod (g_int (g_add (g_add (g_mulR (g_at (g_var rfl) hB1 rfl) g_c) (g_mulR (g_var rfl) g_c)) g_c)) g_c) rfl hB1 rfl ?_
      exact tail_sem (a := a) (st := (st * 69621 + cellSize c * 48271 + 11) % 2147483647) upd_same (by rw [upd_ne (Ne.symm hne)]; exact upd_same) hne (fmod_ok _ (by decide) (by decide)) (Off.B (Off.C off_refl)) hQ
/-- the box's own step -/
theorem tr_box {B C : Addr} {Hs H H2 : Hp} {cells cells' : List Int} {ns ns' : List Int} (hs : Same Hs H) (b : BoxIs [B, C] Hs H (.on cells ns)) (ho : Off B C H H2) (h1 : H2 B = some (.lst (.ref C :: ns'.map V.int))) (h2 : H2 C = some (.lst (cells'.map V.int))) :
    Tr [B, C] Hs H Hs H2 ∧ BoxIs [B, C] Hs H2 (.on cells' ns') := by
  obtain ⟨B', C', e, ne, u1, u2, h3, h4⟩ := b
  cases e
  have away : ∀ x, x ∉ [B, C] → x ≠ B ∧ x ≠ C := fun x h => by
    simp only [List.mem_cons, List.not_mem_nil, or_false, not_or] at h
    exact h
  refine ⟨⟨Same.refl _, fun x o e => ?_, fun x o e n => ?_, fun _ _ _ n => n, fun x e => ?_⟩, B, C, rfl, ne, u1, u2, h1, h2⟩
  · have hx1 : x ≠ B := fun z => by rw [z, u1] at e; cases e
    have hx2 : x ≠ C := fun z => by rw [z, u2] at e; cases e
    rw [ho x hx1 hx2]
    exact hs x o e
  · obtain ⟨n1, n2⟩ := away x n
    rw [ho x n1 n2]
    exact e
  · by_cases hx1 : x = B
    · subst hx1; rw [h1] at e; cases e
    · by_cases hx2 : x = C
      · subst hx2; rw [h2] at e; cases e
      · rw [ho x hx1 hx2] at e; exact e
section
variable {P : Program} {w : World} {K : PySem.W.Frag} {mg : Str → Option Value} {base : Heap}
theorem ok_load {x qual : Str} {st : Stmt} {f : Addr} {fd : FuncData} {N ps : List Str} {k : Nat} (F : Fun K x qual st f fd) (S : FnScope N ps (defScope st)) (hn : ps.length = 1) (hN : N.length = 6)
    (hb : ∀ (cdv : Value) (A : Around) (outer : List PySem.Env) (s : Shared) (H : Hp) (E : XK), Room k (A.deeper (PyProof.Rows.envOfC qual (defScope st) s.heap.objs.size f cdv)) → PSs (cxOf CX0 P w K mg base N qual (defScope st) f cdv A outer s H E).nox (defBody st) (loadT K)) :
    FnOk P w K mg base CX0 (k + 1) f fd ps (spB K f_load) := by
  refine F.ok S (fun vs H Q E h => ?_) (fun cdv A outer s H vs Q E hr h => ?_)
  · obtain ⟨B, C, us, Hs, ds, cells, ns, rfl, _, _, hv, h⟩ := h
    cases hv with
    | nil => rw [hn]; rfl
    | cons _ _ => exact h.elim
  · obtain ⟨B, C, us, Hs, ds, cells, ns, rfl, hs, bx, hv, h⟩ := h
    refine ⟨_, hb cdv A outer s H E hr, ?_⟩
    cases hv with
    | cons _ _ => exact h.elim
    | nil =>
      match ns, h, bx with
      | [a, st'], h, bx =>
        have hst : L2.start N [.ref B] = [some (.ref B), none, none, none, none, none] := by
          unfold L2.start
          rw [hN]
          rfl
        rw [hst]
        unfold f_load at h
        dsimp only at h
        by_cases hok : okS st' = true
        · rw [if_pos hok] at h
          obtain ⟨B', C', e, ne, u1, u2, h3, h4⟩ := id bx
          cases e
          refine sem_load h3 h4 ne hok fun H2 ho g1 g2 => ?_
          obtain ⟨t, b2⟩ := tr_box (cells' := (load cells st').2.1) (ns' := [a, (load cells st').2.2]) hs bx ho g1 g2
          exact h _ Hs H2 t b2 (.int _)
        · rw [if_neg hok] at h
          exact h.elim
/-- the draw -/
theorem ok_draw {x qual : Str} {st : Stmt} {f : Addr} {fd : FuncData} {N ps : List Str} {k : Nat} (F : Fun K x qual st f fd) (S : FnScope N ps (defScope st)) (hn : ps.length = 2) (hN : N.length = 3)
    (hb : ∀ (cdv : Value) (A : Around) (outer : List PySem.Env) (s : Shared) (H : Hp) (E : XK), Room k (A.deeper (PyProof.Rows.envOfC qual (defScope st) s.heap.objs.size f cdv)) → PSs (cxOf CX0 P w K mg base N qual (defScope st) f cdv A outer s H E).nox (defBody st) (drawT K (tCall (spB K f_load) [] E0 (tCons (tVar 0) tNil)))) :
    FnOk P w K mg base CX0 (k + 1) f fd ps (spB K f_draw) := by
  have len : ∀ {vs : List V} {Hs : Hp} {ds : List D}, IsAll K Hs vs ds → ∀ {S}, f_draw ds S ≠ .bad → ∃ m, ds = [.int m] ∧ vs = [.int m] := fun {vs Hs ds} hv {S} h => by
    match ds, hv with
    | [.int m], .cons h1 .nil => cases h1; exact ⟨m, rfl, rfl⟩
    | [], _ => exact absurd rfl h
    | .non :: _, _ => exact absurd rfl h
    | .bl _ :: _, _ => exact absurd rfl h
    | .str _ :: _, _ => exact absurd rfl h
    | .tup _ :: _, _ => exact absurd rfl h
    | .lst _ :: _, _ => exact absurd rfl h
    | .int _ :: _ :: _, _ => exact absurd rfl h
  refine F.ok S (fun vs H Q E h => ?_) (fun cdv A outer s H vs Q E hr h => ?_)
  · obtain ⟨B, C, us, Hs, ds, cells, ns, rfl, _, _, hv, h⟩ := h
    obtain ⟨m, _, rfl⟩ := len hv (S := .on cells ns) (fun z => by rw [z] at h; exact h)
    rw [hn]; rfl
  · obtain ⟨B, C, us, Hs, ds, cells, ns, rfl, hs, bx, hv, h⟩ := h
    refine ⟨_, hb cdv A outer s H E hr, ?_⟩
    obtain ⟨m, rfl, rfl⟩ := len hv (S := .on cells ns) (fun z => by rw [z] at h; exact h)
    match ns, h, bx with
    | [a, st'], h, bx =>
      have hst : L2.start N [.ref B, .int m] = [some (.ref B), some (.int m), none] := by
        unfold L2.start
        rw [hN]
        rfl
      rw [hst]
      unfold f_draw at h
      dsimp only at h
      by_cases hok : okS st' = true ∧ 0 < m ∧ m < 1073741824
      · rw [if_pos hok] at h
        obtain ⟨ok, m0, m1⟩ := hok
        obtain ⟨B', C', e, ne, u1, u2, h3, h4⟩ := id bx
        cases e
        have fin : ∀ (Hm Hsm : Hp) (cells' : List Int) (a' s' : Int), Tr [B, C] Hs H Hsm Hm → BoxIs [B, C] Hsm Hm (.on cells' [a', s']) → (∀ v Hs2 H2, Tr [B, C] Hs H Hs2 H2 → BoxIs [B, C] Hs2 H2 (.on cells' [a' / m, s']) → Is K Hs2 v (.int (a' % m)) → Q v H2) →
            (tSeq (tAsg (tOp rModI (tCB rIntC (tCons (tOp (rIxL K) (tVar 0) (tC (.int 1))) tNil)) (tVar 1)) (gName 2))
              (tSeq (tAsg (tOp rDivI (tOp (rIxL K) (tVar 0) (tC (.int 1))) (tVar 1)) (gSub (tVar 0) (tC (.int 1)) rSetL))
              (tRet (tVar 2)))) ⟨fun _ H2 => Q .non H2, Q, fun _ _ => False, fun _ _ => False⟩ [some (.ref B), some (.int m), none] Hm := by
          intro Hm Hsm cells' a' s' t b q
          obtain ⟨B', C', e, ne', w1, w2, g3, g4⟩ := id b
          cases e
          refine g_set (g_mod (g_int (g_at (g_var rfl) g3 rfl)) (g_var rfl) m0) ?_
          refine g_put (c := 1) (g_div (g_at (g_var rfl) g3 rfl) (g_var rfl) ⟨m0, m1⟩) rfl g3 rfl ?_
          refine g_var rfl _ ?_
          obtain ⟨t2, b2⟩ := tr_box (H2 := upd Hm B (.lst [.ref C, .int (a' / m), .int s'])) (cells' := cells') (ns' := [a' / m, s']) t.sub b (Off.B off_refl) upd_same (by rw [upd_ne (Ne.symm ne')]; exact g4)
          exact q _ _ _ (t.trans t2) b2 (.int _)
        refine g_cond (g_lt (g_at (g_var rfl) h3 rfl) (g_var rfl)) ?_
        by_cases ha : a < m
        · rw [if_pos (decide_eq_true ha)]
          rw [if_pos ha] at h
          refine ⟨_, rfl, ⟨B, C, [], Hs, [], cells, [a, st'], rfl, hs, bx, .nil, ?_⟩⟩
          unfold f_load
          dsimp only
          rw [if_pos ok]
          dsimp only
          intro v Hs2 H2 t2 b2 iv
          cases iv
          obtain ⟨B', C', e, ne', w1, w2, g3, g4⟩ := id b2
          cases e
          refine ⟨_, rfl, B, _, 1, 1, rfl, rfl, g3, rfl, ?_⟩
          obtain ⟨t3, b3⟩ := tr_box (H2 := upd H2 B (.lst [.ref C, .int (load cells st').1, .int (load cells st').2.2])) (cells' := (load cells st').2.1) (ns' := [(load cells st').1, (load cells st').2.2]) t2.sub b2 (Off.B off_refl) upd_same (by rw [upd_ne (Ne.symm ne')]; exact g4)
          exact fin _ _ _ _ _ (t2.trans t3) b3 h
        · rw [if_neg (by rw [decide_eq_false ha]; decide)]
          rw [if_neg ha] at h
          exact fin _ _ _ _ _ (.refl hs) bx h
      · rw [if_neg hok] at h
        exact h.elim
end
end DN

set_option Elab.async false
set_option linter.all false
set_option maxRecDepth 100000
namespace DN
open PySem L2 PySem.Spec PyProof.Rows
/-! ### the box made, law -/
def rListOf (K : PySem.W.Frag) : List V → Hp → VK → Prop := fun xs H Q => ∃ p ys, xs = [.ref p] ∧ (SqL K H p ys ∨ SqT K H p ys) ∧ ∀ l, H l = none → Q (.ref l) (upd H l (.lst ys))
def boxT (K : PySem.W.Frag) : TS :=
  tRet (tLst (tCons (tCB (rListOf K) (tCons (tSl (rSlL K) (tVar 0) tNoPart (tPart (tC (.int 63)))) tNil)) (tCons (tC (.int 0)) (tCons (tOp rAddI (tC (.int 4711)) (tCB (rLenC K) (tCons (tVar 0) tNil))) tNil))))
def spBox (K : PySem.W.Frag) : Sp := fun vs H Q _ => ∃ (a : Addr) (ns : List Int), vs = [.ref a] ∧ SqL K H a (ns.map V.int) ∧ ns.length ≤ 63 ∧ ∀ B C H2, Same H H2 → H B = none → H C = none → B ≠ C →
  H2 B = some (.lst (.ref C :: ([0, 4711 + (ns.length : Int)] : List Int).map V.int)) → H2 C = some (.lst (ns.map V.int)) → Q (.ref B) H2
def spLaw (K : PySem.W.Frag) : Sp := fun vs H Q _ => ∃ (a : Addr) (ns : List Int), vs = [.ref a] ∧ SqL K H a (ns.map V.int) ∧ ns.length ≤ 63 ∧ ∀ H', Q (.bl true) H'
theorem same_new {H : Hp} {p : Addr} (h : H p = none) (o : HO) : Same H (upd H p o) := fun b u q => by rw [upd_ne (ne_of_none q h)]; exact q
theorem cut_all {xs : List V} (h : xs.length ≤ 63) : cutV xs none (some 63) = xs := by
  unfold cutV HT.sIx
  dsimp only
  rw [if_neg (by decide), List.drop_zero]
  exact List.take_of_length_le (by omega)
theorem upd_none {H : Hp} {p q : Addr} {o : HO} (h : upd H p o q = none) : H q = none ∧ q ≠ p := by
  by_cases e : q = p
  · subst e; rw [upd_same] at h; cases h
  · rw [upd_ne e] at h; exact ⟨h, e⟩
section
variable {P : Program} {w : World} {K : PySem.W.Frag} {mg : Str → Option Value} {base : Heap}
theorem ok_box {x qual : Str} {st : Stmt} {f : Addr} {fd : FuncData} {N ps : List Str} {k : Nat} (F : Fun K x qual st f fd) (S : FnScope N ps (defScope st)) (hn : ps.length = 1) (hN : N.length = 1)
    (hb : ∀ (cdv : Value) (A : Around) (outer : List PySem.Env) (s : Shared) (H : Hp) (E : XK), Room k (A.deeper (PyProof.Rows.envOfC qual (defScope st) s.heap.objs.size f cdv)) → PSs (cxOf CX0 P w K mg base N qual (defScope st) f cdv A outer s H E).nox (defBody st) (boxT K)) :
    FnOk P w K mg base CX0 (k + 1) f fd ps (spBox K) := by
  refine F.ok S (fun vs H Q E h => ?_) (fun cdv A outer s H vs Q E hr h => ?_)
  · obtain ⟨a, ns, rfl, _⟩ := h
    rw [hn]; rfl
  · obtain ⟨a, ns, rfl, hS, h63, q⟩ := h
    refine ⟨_, hb cdv A outer s H E hr, ?_⟩
    have hst : L2.start N [.ref a] = [some (.ref a)] := by
      unfold L2.start
      rw [hN]
      rfl
    rw [hst]
    refine ⟨_, rfl, 63, rfl, a, _, rfl, hS, fun p hp => ?_⟩
    rw [cut_all (by rw [List.length_map]; exact h63)]
    have g1 := same_new hp (.lst (ns.map V.int))
    refine ⟨p, _, rfl, .inl (SqL.of upd_same), fun C hC => ?_⟩
    obtain ⟨hC0, hCp⟩ := upd_none hC
    have g2 := g1.trans (same_new hC (.lst (ns.map V.int)))
    refine ⟨_, rfl, .ref a, _, rfl, .inl ⟨_, g2.seq hS, rfl⟩, 4711, _, rfl, rfl, (by show 3 ≤ sizeLine; decide), fun B hB => ?_⟩
    obtain ⟨hB1, hBC⟩ := upd_none hB
    obtain ⟨hB0, _⟩ := upd_none hB1
    refine q B C _ (g2.trans (same_new hB _)) hB0 hC0 hBC ?_ ?_
    · rw [upd_same, List.length_map]
      rfl
    · rw [upd_ne (Ne.symm hBC)]
      exact upd_same
def onlyBox (j : Nat) : Env → Bool
  | [] => true
  | .no :: r => match j with
    | 0 => false
    | j + 1 => onlyBox j r
  | .box :: r => j == 0 && r.all fun s => match s with
    | .no => true
    | _ => false
  | _ => false
theorem onlyBox_at : ∀ {j : Nat} {ρ : Env}, onlyBox j ρ = true → ∀ (i : Nat) sl, ρ[i]? = some sl → sl = .no ∨ (sl = .box ∧ i = j)
  | _, [], _, i, sl, e => by simp at e
  | 0, .no :: r, h, i, sl, e => by cases h
  | j + 1, .no :: r, h, i, sl, e => by
    cases i with
    | zero => simp at e; exact .inl e.symm
    | succ i =>
      rw [List.getElem?_cons_succ] at e
      rcases onlyBox_at (j := j) (ρ := r) h i sl e with z | ⟨z, z2⟩
      · exact .inl z
      · exact .inr ⟨z, by omega⟩
  | j, .box :: r, h, i, sl, e => by
    unfold onlyBox at h
    rw [Bool.and_eq_true] at h
    have hj : j = 0 := by simpa using h.1
    cases i with
    | zero => simp at e; exact .inr ⟨e.symm, hj.symm⟩
    | succ i =>
      rw [List.getElem?_cons_succ] at e
      have := List.all_eq_true.mp h.2 sl (List.mem_of_getElem? e)
      cases sl with
      | no => exact .inl rfl
      | _ => cases this
  | _, .pv _ :: _, h, _, _, _ => by unfold onlyBox at h; cases h
  | _, .own _ :: _, h, _, _, _ => by unfold onlyBox at h; cases h
theorem onlyBox_none {j : Nat} {ρ : Env} (h : onlyBox j ρ = true) {i : Nat} : (∀ d, ρ[i]? ≠ some (.pv d)) ∧ ∀ ds, ρ[i]? ≠ some (.own ds) := by
  refine ⟨fun d e => ?_, fun d e => ?_⟩ <;> rcases onlyBox_at h i _ e with z | ⟨z, _⟩ <;> cases z
theorem law_fin {x qual : Str} {st : Stmt} {f : Addr} {fd : FuncData} {N : List Str} {k j : Nat} {dl : DenS} {ρ : Env} (F : Fun K x qual st f fd) (S : FnScope N ["script"] (defScope st)) (hN : N.length = ρ.length) (hρ : onlyBox j ρ = true) (hj : j < N.length)
    (hm : ∀ ns : List Int, ns.length ≤ 63 → ∃ S', dl ρ (.on ns [0, 4711 + (ns.length : Int)]) = .ok (.rt (.bl true)) S')
    (hb : ∀ (cdv : Value) (A : Around) (outer : List PySem.Env) (s : Shared) (H : Hp) (E : XK), Room k (A.deeper (PyProof.Rows.envOfC qual (defScope st) s.heap.objs.size f cdv)) → ∃ t, PSs (cxOf CX0 P w K mg base N qual (defScope st) f cdv A outer s H E).nox (defBody st) (tSeq (tAsg (tCall (spBox K) [] E0 (tCons (tVar 0) tNil)) (gName j)) t) ∧ SnS K EXn t dl) :
    FnOk P w K mg base CX0 (k + 1) f fd ["script"] (spLaw K) := by
  refine F.ok S (fun vs H Q E h => ?_) (fun cdv A outer s H vs Q E hr h => ?_)
  · obtain ⟨a, ns, rfl, _⟩ := h
    rfl
  · obtain ⟨a, ns, rfl, hS, h63, q⟩ := h
    obtain ⟨t, ps, sn⟩ := hb cdv A outer s H E hr
    refine ⟨_, ps, ?_⟩
    obtain ⟨S', hrun⟩ := hm ns h63
    have hσ0 : (L2.start N [.ref a])[0]? = some (some (.ref a)) := rfl
    refine ⟨_, hσ0, a, ns, rfl, hS, h63, fun B C H2 g hB hC hne h1 h2 => ?_⟩
    have hlen : (L2.start N [.ref a]).length = N.length := by
      unfold L2.start
      rw [List.length_append, List.length_map, List.length_replicate, List.length_singleton]
      omega
    have hpos : ∀ i : Nat, ρ[i]? = some .box → ((L2.start N [.ref a]).set j (some (.ref B)))[i]? = some (some (.ref B)) := fun i e => by
      rcases onlyBox_at hρ i _ e with z | ⟨_, z⟩
      · cases z
      · subst z
        exact List.getElem?_set_self (by rw [hlen]; exact hj)
    refine sn ⟨[B, C], fun _ => none, H2⟩ [B, C] (fun _ => none) H2 _ ρ (.on ns [0, 4711 + (ns.length : Int)]) _ ⟨⟨by rw [List.length_set, hlen, hN], fun i d e => absurd e ((onlyBox_none hρ).1 d), fun i d e => absurd e ((onlyBox_none hρ).2 d), fun i _ d _ _ e => absurd e ((onlyBox_none hρ).2 d), fun i e => ⟨B, C, rfl, hpos i e⟩⟩,
      ⟨B, C, rfl, hne, rfl, rfl, h1, h2⟩, .refl (fun _ _ e => by cases e), fun b hb => .inl hb, fun i d p e => absurd e ((onlyBox_none hρ).2 d), fun _ => rfl⟩ ?_
    rw [hrun]
    intro PB v Hs3 H3 t3 bx sb iv
    cases iv
    exact q H3
end
end DN

set_option Elab.async false
set_option linter.all false
set_option maxRecDepth 100000
namespace DN
open PySem L2 PySem.Spec PyProof.Rows
/-! ### x.index(y), x a list or a tuple whose object is known -/
/-- a tuple's object without a dict -/
def PlT (H : Hp) (v : V) : Prop := ∃ p o u, v = .ref p ∧ H p = some (.frz o u) ∧ o.dict = none ∧ o.cls = .type "tuple"
def spP (K : PySem.W.Frag) (F : Fn) : Sp := fun vs H Q _ => ∃ Hs ds, Same Hs H ∧ IsAll K Hs vs ds ∧ (match F ds with
  | .ok r _ => ∀ v Hs2 H2, Tr [] Hs H Hs2 H2 → Is K Hs2 v r → PlT H2 v → Q v H2
  | _ => False)
def rTupP (K : PySem.W.Frag) : List V → Hp → VK → Prop := fun xs H Q => ∃ p ys, xs = [.ref p] ∧ SqL K H p ys ∧ ∀ l o, H l = none → o.dict = none → o.cls = .type "tuple" → Q (.ref l) (upd H l (.frz o (.tup ys)))
theorem idxD_spec (d : D) : ∀ (xs : List D) (n : Nat), idxD d xs = some n → (∃ z, xs[n]? = some z ∧ D.eqv z d = true) ∧ ∀ m, m < n → ∀ z, xs[m]? = some z → D.eqv z d = false
  | [], n, h => by cases h
  | x :: r, n, h => by
    unfold idxD at h
    by_cases e : D.eqv x d = true
    · rw [if_pos e] at h
      cases h
      exact ⟨⟨x, rfl, e⟩, fun m hm => by omega⟩
    · rw [if_neg e] at h
      cases q : idxD d r with
      | none => rw [q] at h; cases h
      | some k =>
        rw [q] at h
        cases h
        obtain ⟨⟨z, h1, h2⟩, h3⟩ := idxD_spec d r k q
        refine ⟨⟨z, h1, h2⟩, fun m hm z' hz' => ?_⟩
        cases m with
        | zero => simp at hz'; rw [← hz']; exact Bool.eq_false_iff.mpr e
        | succ m => exact h3 m (Nat.lt_of_succ_lt_succ hm) z' hz'
theorem pys_get : ∀ (ds : List D) (n : Nat), (D.pys ds)[n]? = (ds[n]?).map D.py
  | [], n => rfl
  | x :: r, 0 => rfl
  | x :: r, n + 1 => pys_get r n
section
variable {X : Cx} {EX : Exn → Hp → Prop} {a b e o : Expr} {ta tb te to : TE} {fa fb fe : Den} {tr t : TA} {fr : DenL} {es : List Expr} {pos apos cpos p : Pos} {x : Str}
theorem call_tupleP : CallR X (.type "tuple") (rTupP X.K) := by
  intro pins s σ H xs us Q I rx h
  obtain ⟨p, ys, rfl, hs, q⟩ := h
  rw [Vals.ref1 rx]
  obtain ⟨its, rv, pl, hz⟩ := I.list hs
  refine call_tuple_list pl.isList (fun h' hk => ?_) (by rw [List.size_toArray, ← rv.length]; exact hz)
  have I1 : Inv X pins σ H { s with heap := h' } := I.kept (t' := s.toks) hk
  have I2 : Inv X pins σ (upd H h'.objs.size (.frz { cls := .type "tuple", data := .seq its.toArray } (.tup ys))) { s with heap := h'.push { cls := .type "tuple", data := .seq its.toArray } } :=
    I1.laid (t' := s.toks) (fun b o e => Heap.get?_push_of_some _ e) (Nat.le_refl _) (show ObjOk X.prog X.w _ _ _ (.frz _ (.tup ys)) from ⟨Heap.get?_push_size _ rfl, hz, its, rv, IsTup.new _ _⟩)
  exact ⟨.ref h'.objs.size, _, I2, rfl, q _ _ (I1.hok.fresh (Nat.le_refl _)) rfl rfl⟩
/-- t.index(y) -/
theorem mt_tupIx (hu : X.A.units + 70 < cLine) : MtR X "tuple.index" (rDM X.K fun a b => match a with | .tup _ => D.index a b | _ => none) := by
  rintro pins s σ H x xs v us Q I rx rxs ⟨PB, Hs, dx, dy, dz, y, hs, rfl, hx, hy, hg, q⟩
  cases dx with
  | tup ds =>
    obtain ⟨p, vs, rfl, h1, i1, l1⟩ := hx.tup hs
    dsimp only [D.index] at hg
    by_cases hc : min (D.depths ds) dy.depth ≤ 64
    · rw [if_pos hc] at hg
      cases hj : idxD dy ds with
      | none => rw [hj] at hg; cases hg
      | some j =>
        rw [hj] at hg
        cases hg
        obtain ⟨⟨z, hz1, hz2⟩, hno⟩ := idxD_spec dy ds j hj
        cases rx
        obtain ⟨uy, rfl, ry⟩ := rxs.one
        obtain ⟨h2, c2⟩ := (hy.now hs).dp
        obtain ⟨bs, r1⟩ := Dp.reads I _ y uy h2 ry
        obtain ⟨g1, g2⟩ := (i1.up hs).dp
        obtain ⟨its, rv, pl, hlen⟩ := I.tuple h1
        obtain ⟨⟨cls, dd, dt, sls⟩, ho, hcl, n, hd⟩ := pl
        simp only at hcl hd
        subst hcl hd
        obtain ⟨as, h4⟩ := Dp.readsAll I _ _ its g1 rv
        have hmap : its.map (SeqAt.readOf s.heap) = D.pys ds := SeqAt.readsAll_map _ its as g2 h4
        have hvl := rv.length
        have hdl : its.length = ds.length := by rw [← hvl, i1.len]
        have at_ : ∀ (m : Nat) (hm : m < its.toArray.size) (z' : D), ds[m]? = some z' → SeqAt.readOf s.heap its.toArray[m] = z'.py := by
          intro m hm z' hz'
          have hml : m < its.length := by simpa using hm
          have e0 : (D.pys ds)[m]? = some z'.py := by rw [pys_get, hz']; rfl
          rw [← hmap, List.getElem?_map, List.getElem?_eq_getElem hml] at e0
          have e1 : SeqAt.readOf s.heap its[m] = z'.py := Option.some.inj (show some (SeqAt.readOf s.heap its[m]) = some z'.py from e0)
          simpa using e1
        have hjl : j < ds.length := (List.getElem?_eq_some_iff.mp hz1).1
        have hj' : j < its.toArray.size := by rw [List.size_toArray]; omega
        refine call_meets PySem.F.slot_tuple_index ⟨_, ho, rfl⟩ PySem.F.entry_tuple_index (PySem.F.args_tuple_index_2 _ _)
          (TI.tuple_indexAt p its.toArray n dd sls uy (fun u => PyData.eqv (SeqAt.readOf s.heap u) dy.py) j hj' ?_ ?_) ⟨ho, SeqAt.items_eqAt (vs := its.toArray) (show ReadsAll s.heap its.toArray.toList (D.pys ds) as from h4) r1 g2 c2 (roomIn hu hc), ?_⟩
        · show PyData.eqv (SeqAt.readOf s.heap its.toArray[j]) dy.py = true
          rw [at_ j hj' z hz1, py_eqv]
          exact hz2
        · intro m hm hmj
          have hmd : m < ds.length := by omega
          have hz' : ds[m]? = some ds[m] := List.getElem?_eq_getElem hmd
          show PyData.eqv (SeqAt.readOf s.heap its.toArray[m]) dy.py = false
          rw [at_ m hm _ hz', py_eqv]
          exact hno m hmj _ hz'
        · exact ⟨.int (j : Nat), H, I.tok _, ⟨_, rfl⟩, q _ Hs H (.refl hs) (.int _)⟩
    · rw [if_neg hc] at hg; cases hg
  | _ => cases hg
def tBMP (r : V → List V → Hp → VK → Prop) (to : TE) (t : TA) : TE := fun σ H Q => to σ H fun x H1 => PlT H1 x ∧ t σ H1 fun xs H2 => r x xs H2 Q
theorem pe_bmP {name : Str} {id : String} {r : V → List V → Hp → VK → Prop} (pa : PlainAttrs "tuple") (slot : PySem.Slot "tuple" name id) (hty : typeOf (.builtin id) = pure (.type "method_descriptor")) (hm : MtR X id r) (ho : PE X o to) (ha : PA X (e :: es) t)
    (hbase : attributeBase o name X.env (eval o X.env) = eval o X.env := by rfl)
    (hfew : ((backTo cpos (starEach (e :: es) X.env)).all (fun x => !x.1) && (backToKw cpos (keywordEach [] X.env)).all (fun x => x.1.isSome)
      && decide ((e :: es).length + ([] : List Keyword).length + (if ([] : List Keyword).isEmpty then 0 else 1) < 30)) = true := by rfl)
    (hline : (apos.endLine == cpos.line) = true := by rfl) (hs : starEach (e :: es) X.env = (false, eval e X.env) :: starEach es X.env := by rfl) (hplain : (backTo cpos (starEach es X.env)).any (·.1) = false := by rfl) :
    PE X (.Call (.Attribute o name apos) (e :: es) [] cpos) (tBMP r to t) := by
  refine ⟨fun pins s σ H Q I h => ?_⟩
  refine wpAny_Call_method_late hbase hfew hline rfl (thn (ho.run pins s σ H _ I h) fun v s1 ⟨x, H1, I1, r1, ty, q1⟩ => ?_)
  obtain ⟨p, ob, u, rfl, hp, hd, hc⟩ := ty
  have hob := (I1.hok p _ hp).1
  cases r1
  refine ⟨"tuple", id, pa, slot, hty, ⟨ob, hob, hc⟩, fun a ea => ?_, ?_⟩
  · cases ea
    exact ⟨ob, hob, hd⟩
  have hA := ha.run cpos pins s1 σ H1 _ I1 q1
  rw [hs] at hA ⊢
  refine Calls.callWith_builtin (by show (false || (backTo cpos (starEach es X.env)).any (·.1)) = false; rw [hplain] <;> rfl) (Calls.evalArgs_plain ?_)
  exact thn hA fun us s2 ⟨vs, H2, I2, r2, q2⟩ => hm pins s2 σ H2 _ vs _ us Q I2 (show RelV (.ref p) (.ref p) from rfl) r2 q2
end
section
variable {P : Program} {w : World} {K : PySem.W.Frag} {mg : Str → Option Value} {base : Heap}
theorem FnOk.weak {CX : CXT} {k : Nat} {f : Addr} {fd : FuncData} {ps : List Str} {sp sp' : Sp} (G : FnOk P w K mg base CX k f fd ps sp) (h : ∀ vs H Q E, sp' vs H Q E → sp vs H Q E) : FnOk P w K mg base CX k f fd ps sp' :=
  ⟨fun vs H Q E q => G.1 vs H Q E (h vs H Q E q), fun A outer s H args us vs Q E a b c d q => G.2 A outer s H args us vs Q E a b c d (h vs H Q E q)⟩
theorem sp_weak {F : Fn} : ∀ vs H Q E, spN K F vs H Q E → spP K F vs H Q E := fun vs H Q E ⟨Hs, ds, a, b, h⟩ => ⟨Hs, ds, a, b, by
  cases q : F ds with
  | ok r S => rw [q] at h; exact fun v Hs2 H2 t i _ => h v Hs2 H2 t i
  | exc x S => rw [q] at h; exact h
  | bad => rw [q] at h; exact h⟩
/-- a def that hands back tuple(a list) -/
theorem ok_fnP {x qual : Str} {st : Stmt} {f : Addr} {fd : FuncData} {N ps : List Str} {k n more : Nat} {l : DenL} (F : Fun K x qual st f fd) (S : FnScope N ps (defScope st)) (hn : ps.length = n) (hN : N.length = n + more)
    (hb : ∀ (cdv : Value) (A : Around) (outer : List PySem.Env) (s : Shared) (H : Hp) (E : XK), Room k (A.deeper (PyProof.Rows.envOfC qual (defScope st) s.heap.objs.size f cdv)) → ∃ te, PSs (cxOf CX0 P w K mg base N qual (defScope st) f cdv A outer s H E).nox (defBody st) (tRet (tCB (rTupP K) (tCons te tNil))) ∧ SnE K EXn te (eL l)) :
    FnOk P w K mg base CX0 (k + 1) f fd ps (spP K (bodyF n more (sRet (eBi bTuple (aCons (eL l) aNil))))) := by
  refine F.ok S (fun vs H Q E h => ?_) (fun cdv A outer s H vs Q E hr h => ?_)
  · obtain ⟨Hs, ds, _, hv, h⟩ := h
    cases q : bodyF n more (sRet (eBi bTuple (aCons (eL l) aNil))) ds with
    | ok r S => rw [hv.len, bodyF_len q, hn]
    | exc x S => rw [q] at h; exact h.elim
    | bad => rw [q] at h; exact h.elim
  · obtain ⟨te, ps', sn⟩ := hb cdv A outer s H E hr
    obtain ⟨Hs, ds, hs, hv, h⟩ := h
    refine ⟨_, ps', ?_⟩
    have hl : ds.length = n := by
      cases q : bodyF n more (sRet (eBi bTuple (aCons (eL l) aNil))) ds with
      | ok r S => exact bodyF_len q
      | exc x S => rw [q] at h; exact h.elim
      | bad => rw [q] at h; exact h.elim
    have env := start_env (N := N) (H := H) (more := more) hv (by rw [hv.len, hl]; exact hN)
    unfold bodyF at h
    rw [if_pos hl] at h
    have e : ∀ ρ, sRet (eBi bTuple (aCons (eL l) aNil)) ρ = eL l ρ >>= fun d => M.of (bTuple [d]) >>= fun r => M.pure (.rt r) := fun ρ => by
      unfold sRet eBi aCons aNil
      rw [DN.bind_assoc, DN.bind_assoc]
      rfl
    rw [e] at h
    refine sn [] Hs H _ _ .off _ env rfl hs ?_
    rw [bind_def] at h
    unfold M.bind at h
    cases q : eL l (ds.map Slot.pv ++ List.replicate more Slot.no) .off with
    | ok d S1 =>
      rw [q] at h
      intro v Hs1 H1 t1 b1 r1
      have hd : ∃ xs, d = .lst xs := by
        unfold eL at q
        rw [bind_def] at q
        unfold M.bind at q
        cases q2 : l (ds.map Slot.pv ++ List.replicate more Slot.no) .off with
        | ok xs S2 => rw [q2] at q; cases q; exact ⟨xs, rfl⟩
        | exc x S2 => rw [q2] at q; cases q
        | bad => rw [q2] at q; cases q
      obtain ⟨xs, rfl⟩ := hd
      cases r1 with
      | lst g1 g2 g3 =>
        rename_i a vs'
        refine ⟨_, _, rfl, SqL.of (t1.sub _ _ g1), fun l o hl ho hc => ?_⟩
        have t2 : Tr [] Hs1 H1 (upd Hs1 l (.frz o (.tup vs'))) (upd H1 l (.frz o (.tup vs'))) := .new t1.sub hl
        exact h _ _ _ (t1.trans t2) (.tup (.inl (.inr ⟨o, upd_same⟩)) (g2.up t2.st) g3) ⟨l, o, _, rfl, upd_same, ho, hc⟩
    | exc x S1 => rw [q] at h; exact h.elim
    | bad => rw [q] at h; exact h.elim
end
abbrev gTI : D → D → Option D := fun a b => match a with | .tup _ => D.index a b | _ => none
theorem seq_set {g : Tg} {e : Den} {k : DenS} (ρ : Env) : sSeq (sSet g e) k ρ = e ρ >>= fun d => M.of (g d ρ) >>= fun ρ' => k ρ' := by
  unfold sSeq sSet
  rw [DN.bind_assoc]
  congr 1
  funext d
  rw [DN.bind_assoc]
  rfl
section
variable {K : PySem.W.Frag} {EX : Exn → Hp → Prop} {tm : TE} {fm : Den} {tr : TA} {fr : DenL} {rest : TS} {k : DenS}
theorem plt_tr {PB : List Addr} {Hs H Hs2 H2 : Hp} {v : V} {S : BX} (h : PlT H v) (t : Tr PB Hs H Hs2 H2) (b : BoxIs PB Hs H S) : PlT H2 v := by
  obtain ⟨p, o, u, e, hp, hd, hc⟩ := h
  refine ⟨p, o, u, e, t.keep _ _ hp fun m => ?_, hd, hc⟩
  cases S with
  | off => rw [show PB = [] from b] at m; cases m
  | on cs ns =>
    obtain ⟨B, C, eB, _, _, _, h3, h4⟩ := b
    rw [eB] at m
    simp only [List.mem_cons, List.not_mem_nil, or_false] at m
    rcases m with rfl | rfl
    · rw [hp] at h3; cases h3
    · rw [hp] at h4; cases h4
theorem set_get {ρ : Env} {i : Nat} {sl : Slot} (h : i < ρ.length) : (ρ.set i sl)[i]? = some sl := List.getElem?_set_self h
theorem StIs.nm {B : Base} {PB : List Addr} {Hs H : Hp} {σ : L2.St} {ρ : Env} {S : BX} {i : Nat} {v : V} {d : D} (s : StIs K B PB Hs H σ ρ S) (hi : i < ρ.length) (iv : Is K Hs v d) : StIs K B PB Hs H (σ.set i (some v)) (ρ.set i (.pv d)) S :=
  s.target (s.env.setPv hi iv) fun j ds q => set_own j ds q
theorem gN_some {i : Nat} {d : D} {ρ ρ' : Env} (h : gN i d ρ = some ρ') : i < ρ.length ∧ ρ' = ρ.set i (.pv d) := by
  unfold gN at h
  by_cases hi : i < ρ.length
  · rw [if_pos hi] at h; cases h; exact ⟨hi, rfl⟩
  · rw [if_neg hi] at h; cases h
theorem ss_index3 {i j m : Nat} {F : Fn} (hA : SnA K EX tr fr) (hm : SnE K EX tm fm) (hij : j ≠ i) (hr : SnS K EX rest k) :
    SnS K EX (tSeq (tAsg (tCall (spP K F) [] E0 tr) (gName i)) (tSeq (tAsg tm (gName j)) (tSeq (tAsg (tBMP (rDM K gTI) (tVar i) (tCons (tVar j) tNil)) (gName m)) rest)))
      (sSeq (sSet (gN i) (eCall F fr)) (sSeq (sSet (gN j) fm) (sSeq (sSet (gN m) (e2 D.index (eV i) (eV j))) k))) := fun B PB Hs H σ ρ S D s p => by
  rw [seq_set] at p
  unfold eCall at p
  rw [DN.bind_assoc] at p
  refine hA PB Hs H σ ρ S _ s.env s.box s.base.sub (PostS.bind s p fun ds S1 vs Hs1 H1 t1 s1 r1 p1 => ?_)
  refine ⟨Hs1, ds, s1.base.sub, by rw [List.append_nil]; exact r1, ?_⟩
  rw [bind_def] at p1
  unfold M.bind Fn.liftN at p1
  cases q : F ds with
  | exc x S2 => rw [q] at p1; exact p1
  | bad => rw [q] at p1; exact p1
  | ok r S2 =>
    rw [q] at p1
    intro v Hs2 H2 t2 i2 pl
    dsimp only at p1
    obtain ⟨ρ2, hρ2, p2⟩ := PostS.of p1
    obtain ⟨hi, rfl⟩ := gN_some hρ2
    have s2 := (s1.tr (S1 := S1) t2.wide (s1.box.tr t2)).nm hi i2
    rw [seq_set] at p2
    refine hm PB Hs2 H2 _ _ S1 _ s2.env s2.box s2.base.sub (PostS.bind s2 p2 fun d3 S3 v3 Hs3 H3 t3 s3 r3 p3 => ?_)
    obtain ⟨ρ3, hρ3, p4⟩ := PostS.of p3
    obtain ⟨hj, rfl⟩ := gN_some hρ3
    have s4 := s3.nm hj r3
    have hσi : i < σ.length := by rw [s.env.len]; exact hi
    have hσj : j < (σ.set i (some v)).length := by rw [s2.env.len]; exact hj
    have plT := plt_tr pl t3 s2.box
    have g1 : ((σ.set i (some v)).set j (some v3))[i]? = some (some v) := by
      rw [List.getElem?_set_ne hij]
      exact List.getElem?_set_self hσi
    have g2 : ((σ.set i (some v)).set j (some v3))[j]? = some (some v3) := List.getElem?_set_self hσj
    rw [seq_set] at p4
    unfold e2 at p4
    rw [DN.bind_assoc] at p4
    have e1 : eV i ((ρ.set i (.pv r)).set j (.pv d3)) = M.pure r := by
      unfold eV
      rw [List.getElem?_set_ne hij, List.getElem?_set_self hi]
    have e2' : eV j ((ρ.set i (.pv r)).set j (.pv d3)) = M.pure d3 := by
      unfold eV
      rw [List.getElem?_set_self hj]
    rw [e1, DN.pure_bind, e2', DN.bind_assoc, DN.pure_bind] at p4
    obtain ⟨dz, hz, p5⟩ := PostS.of p4
    obtain ⟨ρ5, hρ5, p6⟩ := PostS.of p5
    obtain ⟨hm5, rfl⟩ := gN_some hρ5
    have i3 := i2.up t3.st
    have htup : gTI r d3 = some dz := by
      cases r with
      | tup xs => exact hz
      | lst xs =>
        obtain ⟨p', o, u, e, hp, _⟩ := plT
        subst e
        cases i3 with
        | lst z1 z2 z3 =>
          have := s3.base.sub _ _ z1
          rw [hp] at this
          cases this
      | non => cases hz
      | bl _ => cases hz
      | int _ => cases hz
      | str _ => cases hz
    refine ⟨_, g1, plT, _, g2, PB, Hs3, r, d3, dz, v3, s3.base.sub, rfl, .inl i3, .inl r3, htup, fun z Hs5 H5 t5 i5 => ?_⟩
    have s5 := (s4.tr (S1 := S3) t5.wide (s4.box.tr t5)).nm hm5 i5
    exact hr B PB Hs5 H5 _ _ S3 D s5 p6
end
section
variable {X : Cx} {K : PySem.W.Frag} {EX : Exn → Hp → Prop} {CX : CXT} {k : Nat} {f : Addr} {fd : FuncData} {ps : List Str} {fn x y z : Str} {e e' : Expr} {es : List Expr} {tm : TE} {fm : Den} {t : TA} {fr : DenL} {sts : List Stmt} {rest : TS} {kd : DenS}
/-- x = f(..); y = e; z = x.index(y), where f hands back a tuple whose object is known -/
theorem qss_index3 (i j m : Nat) {F : Fn} {p p1 p2 p3 p4 p5 p6 p7 p8 p9 pa pb : Pos} (hN : X.N.Nodup) (hi : X.N[i]? = some x) (hj : X.N[j]? = some y) (hm : X.N[m]? = some z) (hij : j ≠ i) (hx : Loc X.env.scope x) (hy : Loc X.env.scope y) (hz : Loc X.env.scope z) (vx : Vis X.env.scope x) (vy : Vis X.env.scope y)
    (G : FnOk X.prog X.w X.K X.mg X.base CX k f fd ps (spP K F)) (hr : Room k X.A) (hg : Gl X fn) (hmg : X.mg fn = some (.ref f)) (hk : PySem.W.keepIn X.K (.ref f) = true) (hb : Binds X.K fd ps []) (hps : Passes CX X E0) (ha : QA K X EX (e :: es) t fr) (h2 : QE K X EX e' tm fm) (hu : X.A.units + 70 < cLine) (hrest : QSs K X EX sts rest kd)
    (dfn : (fn == ("__debug__" : Str)) = false := by decide) (he : starEach (e :: es) X.env = (false, eval e X.env) :: starEach es X.env := by rfl) (hpl : (backTo p1 (starEach es X.env)).any (·.1) = false := by rfl)
    (s1 : swapsWith (.Call (.Name fn p) (e :: es) [] p1) (some (.Name x p2)) p3.line X.env = pure false := by rfl) (s2 : swapsWith e' (some (.Name y p4)) p5.line X.env = pure false := by rfl)
    (s3 : swapsWith (.Call (.Attribute (.Name x p6) "index" p7) [.Name y p8] [] p9) (some (.Name z pa)) pb.line X.env = pure false := by rfl)
    (hbase : attributeBase (.Name x p6) "index" X.env (eval (.Name x p6) X.env) = eval (.Name x p6) X.env := by rfl)
    (hfew : ((backTo p9 (starEach [.Name y p8] X.env)).all (fun x => !x.1) && (backToKw p9 (keywordEach [] X.env)).all (fun x => x.1.isSome)
      && decide ([Expr.Name y p8].length + ([] : List Keyword).length + (if ([] : List Keyword).isEmpty then 0 else 1) < 30)) = true := by rfl)
    (hline : (p7.endLine == p9.line) = true := by rfl) (hs1 : starEach [.Name y p8] X.env = (false, eval (.Name y p8) X.env) :: starEach [] X.env := by rfl) (hplain : (backTo p9 (starEach [] X.env)).any (·.1) = false := by rfl)
    (fx : X.fn x = true ∨ X.env.scope.names.lookup x = some .local := by first | exact .inl rfl | exact .inr rfl) (fy : X.fn y = true ∨ X.env.scope.names.lookup y = some .local := by first | exact .inl rfl | exact .inr rfl) (fz : X.fn z = true ∨ X.env.scope.names.lookup z = some .local := by first | exact .inl rfl | exact .inr rfl)
    (dx : (x == ("__debug__" : Str)) = false := by decide) (cx : (x == ("__classdict__" : Str)) = false := by decide) (dy : (y == ("__debug__" : Str)) = false := by decide) (cy : (y == ("__classdict__" : Str)) = false := by decide) (hK : X.K = K := by rfl) :
    QSs K X EX (.Assign [.Name x p2] (.Call (.Name fn p) (e :: es) [] p1) p3 :: .Assign [.Name y p4] e' p5 :: .Assign [.Name z pa] (.Call (.Attribute (.Name x p6) "index" p7) [.Name y p8] [] p9) pb :: sts) (tSeq (tAsg (tCall (spP K F) [] E0 t) (gName i)) (tSeq (tAsg tm (gName j)) (tSeq (tAsg (tBMP (rDM K gTI) (tVar i) (tCons (tVar j) tNil)) (gName m)) rest)))
      (sSeq (sSet (gN i) (eCall F fr)) (sSeq (sSet (gN j) fm) (sSeq (sSet (gN m) (e2 D.index (eV i) (eV j))) kd))) := by
  subst hK
  exact ⟨pss_cons (L2.ps_set hN hi hx (pe_call G hr hg hmg hk hb .nil hps ha.pa dfn he hpl) s1 fx) (pss_cons (L2.ps_set hN hj hy h2.pe s2 fy)
    (pss_cons (L2.ps_set hN hm hz (pe_bmP PySem.F.plainAttrs_tuple PySem.F.slot_tuple_index PySem.F.type_tuple_index (mt_tupIx hu) (pe_var hi vx dx cx) (pa_cons (pe_var hj vy dy cy) pa_nil hs1) hbase hfew hline hs1 hplain) s3 fz) hrest.ps)),
    ss_index3 ha.sn h2.sn hij hrest.sn⟩
end
end DN

set_option linter.all false
namespace DN
/-! running Den's words: loops, comprehensions -/
theorem nox_ok {α : Type} {m : M α} {S S' : BX} {a : α} (h : m S = .ok a S') : m.nox S = .ok a S' := by unfold M.nox; rw [h]
theorem loop_inv {g : Tg} {b : DenS} (I : Nat → Env → BX → Prop) : ∀ (ds : List D) (k : Nat) (ρ : Env) (S : BX),
    (∀ i d ρ S, ds[i]? = some d → I (k + i) ρ S → ∃ ρ1 ρ2 S2, g d ρ = some ρ1 ∧ b ρ1 S = .ok (.nx ρ2) S2 ∧ I (k + i + 1) ρ2 S2) → I k ρ S → ∃ ρ' S', loopS g b ds ρ S = .ok (.nx ρ') S' ∧ I (k + ds.length) ρ' S'
  | [], k, ρ, S, _, h => ⟨ρ, S, rfl, h⟩
  | d :: ds, k, ρ, S, step, h => by
    obtain ⟨ρ1, ρ2, S2, h1, h2, h3⟩ := step 0 d ρ S rfl h
    obtain ⟨ρ', S', h4, h5⟩ := loop_inv I ds (k + 1) ρ2 S2 (fun i d' ρ S hd hi => by
      have e : k + 1 + i = k + (i + 1) := by omega
      rw [e] at hi ⊢
      exact step (i + 1) d' ρ S (by simpa using hd) hi) (by simpa using h3)
    refine ⟨ρ', S', ?_, ?_⟩
    · show ((M.of (g d ρ) >>= _) : M Flow) S = _
      rw [h1]
      show ((b ρ1 >>= _) : M Flow) S = _
      rw [bind_ok h2]
      exact h4
    · have e : k + (d :: ds).length = k + 1 + ds.length := by simp only [List.length_cons]; omega
      rw [e]
      exact h5
theorem for_inv {it : DenL} {g : Tg} {b : DenS} (I : Nat → Env → BX → Prop) {ds : List D} {ρ : Env} {S S1 : BX} (hit : it ρ S = .ok ds S1) (h0 : I 0 ρ S1)
    (step : ∀ i d ρ S, ds[i]? = some d → I i ρ S → ∃ ρ1 ρ2 S2, g d ρ = some ρ1 ∧ b ρ1 S = .ok (.nx ρ2) S2 ∧ I (i + 1) ρ2 S2) : ∃ ρ' S', sFor it g b ρ S = .ok (.nx ρ') S' ∧ I ds.length ρ' S' := by
  obtain ⟨ρ', S', h1, h2⟩ := loop_inv I ds 0 ρ S1 (fun i d ρ S hd hi => by
    rw [Nat.zero_add] at hi ⊢
    exact step i d ρ S hd hi) h0
  refine ⟨ρ', S', ?_, by rw [Nat.zero_add] at h2; exact h2⟩
  show ((it ρ >>= _) : M Flow) S = _
  rw [bind_ok hit]
  exact h1
def Nx (r : Res Flow) (P : Env → BX → Prop) : Prop := match r with
  | .ok (.nx ρ) S => P ρ S
  | _ => False
theorem nx_ok (ρ : Env) (S : BX) (P : Env → BX → Prop) : Nx (.ok (.nx ρ) S) P = P ρ S := rfl
theorem Nx.ex {r : Res Flow} {P : Env → BX → Prop} (h : Nx r P) : ∃ ρ S, r = .ok (.nx ρ) S ∧ P ρ S := by
  cases r with
  | ok f S =>
    cases f with
    | nx ρ => exact ⟨ρ, S, rfl, h⟩
    | _ => exact h.elim
  | _ => exact h.elim
theorem for_nx {it : DenL} {g : Tg} {b : DenS} (I : Nat → Env → BX → Prop) {ds : List D} {ρ : Env} {S S1 : BX} (hit : it ρ S = .ok ds S1) (h0 : I 0 ρ S1)
    (step : ∀ i d ρ S, ds[i]? = some d → I i ρ S → ∃ ρ1, g d ρ = some ρ1 ∧ Nx (b ρ1 S) (I (i + 1))) : ∃ ρ' S', sFor it g b ρ S = .ok (.nx ρ') S' ∧ I ds.length ρ' S' :=
  for_inv I hit h0 fun i d ρ S hd hi => by
    obtain ⟨ρ1, h1, h2⟩ := step i d ρ S hd hi
    obtain ⟨ρ2, S2, h3, h4⟩ := h2.ex
    exact ⟨ρ1, ρ2, S2, h1, h3, h4⟩
theorem while_inv {c : DenT} {b : DenS} (I : Nat → Env → BX → Prop) (Done : Env → BX → Prop)
    (step : ∀ m ρ S, I m ρ S → (∃ S', c ρ S = .ok false S' ∧ Done ρ S') ∨ ∃ S1 ρ2 S2 m', c ρ S = .ok true S1 ∧ b ρ S1 = .ok (.nx ρ2) S2 ∧ I m' ρ2 S2 ∧ m' < m) :
    ∀ (n m : Nat) (ρ : Env) (S : BX), m < n → I m ρ S → ∃ ρ' S', loopW c b n ρ S = .ok (.nx ρ') S' ∧ Done ρ' S'
  | 0, m, ρ, S, h, _ => absurd h (Nat.not_lt_zero m)
  | n + 1, m, ρ, S, h, hI => by
    rcases step m ρ S hI with ⟨S', h1, h2⟩ | ⟨S1, ρ2, S2, m', h1, h2, h3, h4⟩
    · refine ⟨ρ, S', ?_, h2⟩
      show ((c ρ >>= _) : M Flow) S = _
      rw [bind_ok h1]
      rfl
    · obtain ⟨ρ', S', h5, h6⟩ := while_inv I Done step n m' ρ2 S2 (by omega) h3
      refine ⟨ρ', S', ?_, h6⟩
      show ((c ρ >>= _) : M Flow) S = _
      rw [bind_ok h1]
      show ((b ρ >>= _) : M Flow) S1 = _
      rw [bind_ok h2]
      exact h5
theorem seq_nx {a b : DenS} {ρ ρ' : Env} {S S' : BX} (h : a ρ S = .ok (.nx ρ') S') : sSeq a b ρ S = b ρ' S' := by
  show ((a ρ >>= _) : M Flow) S = _
  rw [bind_ok h]
theorem nx_seq {a b : DenS} {ρ ρ' : Env} {S S' : BX} {P : Env → BX → Prop} (h : a ρ S = .ok (.nx ρ') S') (k : Nx (b ρ' S') P) : Nx (sSeq a b ρ S) P := by rw [seq_nx h]; exact k
theorem gather_pure {g : Tg} {c : DenT} {e : Den} {ρ : Env} {S : BX} (p : D → Bool) (F : D → D) : ∀ ds : List D,
    (∀ d ∈ ds, ∃ ρ1, g d ρ = some ρ1 ∧ c ρ1 S = .ok (p d) S ∧ (p d = true → e ρ1 S = .ok (F d) S)) → gather g c e ρ ds S = .ok ((ds.filter p).map F) S
  | [], _ => rfl
  | d :: ds, h => by
    obtain ⟨ρ1, h1, h2, h3⟩ := h d List.mem_cons_self
    have ih := gather_pure (c := c) (e := e) (ρ := ρ) p F ds fun d' hd => h d' (List.mem_cons_of_mem _ hd)
    show ((M.of (g d ρ) >>= _) : M (List D)) S = _
    rw [h1]
    show (((c ρ1).nox >>= _) : M (List D)) S = _
    rw [bind_ok (nox_ok h2)]
    cases hp : p d with
    | true =>
      rw [List.filter_cons_of_pos hp]
      show (((e ρ1).nox >>= _) : M (List D)) S = _
      rw [bind_ok (nox_ok (h3 hp))]
      show ((gather g c e ρ ds >>= _) : M (List D)) S = _
      rw [bind_ok ih]
      rfl
    | false =>
      rw [List.filter_cons_of_neg (by rw [hp]; decide)]
      exact ih
theorem gather_all {g : Tg} {e : Den} {ρ : Env} {S : BX} (F : D → D) {ds : List D} (h : ∀ d ∈ ds, ∃ ρ1, g d ρ = some ρ1 ∧ e ρ1 S = .ok (F d) S) : gather g tYes e ρ ds S = .ok (ds.map F) S := by
  have := gather_pure (c := tYes) (e := e) (g := g) (ρ := ρ) (S := S) (fun _ => true) F ds fun d hd => by
    obtain ⟨ρ1, h1, h2⟩ := h d hd
    exact ⟨ρ1, h1, rfl, fun _ => h2⟩
  rw [this, List.filter_eq_self.mpr (fun _ _ => rfl)]
theorem lc_ok {it : DenL} {g : Tg} {c : DenT} {e : Den} {vs : List Nat} {ρ : Env} {S S1 S2 : BX} {ds ys : List D} (h : it ρ S = .ok ds S1) (h2 : gather g c e (wipeE ρ vs) ds S1 = .ok ys S2) : lLc it g c e vs ρ S = .ok ys S2 := by
  show ((it ρ >>= _) : M (List D)) S = _
  rw [bind_ok h]
  exact nox_ok h2
theorem eL_ok {l : DenL} {ρ : Env} {S S' : BX} {ys : List D} (h : l ρ S = .ok ys S') : eL l ρ S = .ok (.lst ys) S' := by
  show ((l ρ >>= _) : M D) S = _
  rw [bind_ok h]
  rfl
theorem rangeD_get : ∀ (n : Nat) (lo : Int) (i : Nat), (intsFrom lo n)[i]? = if i < n then some (.int (lo + i)) else none
  | 0, lo, i => by simp [intsFrom]
  | n + 1, lo, 0 => by simp [intsFrom]
  | n + 1, lo, i + 1 => by
    unfold intsFrom
    rw [List.getElem?_cons_succ, rangeD_get n (lo + 1) i]
    have e : lo + 1 + (i : Int) = lo + ((i + 1 : Nat) : Int) := by omega
    rw [e]
    simp
theorem intsFrom_map : ∀ (n : Nat) (lo : Int), intsFrom lo n = (List.range n).map fun i : Nat => .int (lo + (i : Int))
  | n, lo => by
    apply List.ext_getElem?
    intro i
    rw [rangeD_get, List.getElem?_map]
    by_cases h : i < n
    · rw [if_pos h, List.getElem?_range h]; rfl
    · rw [if_neg h, List.getElem?_eq_none (by simpa using Nat.le_of_not_lt h)]; rfl
theorem enumD_get : ∀ (xs : List D) (k i : Nat), (enumFrom k xs)[i]? = (xs[i]?).map fun x => .tup [.int ((k + i : Nat) : Int), x]
  | [], k, i => by simp [enumFrom]
  | x :: xs, k, 0 => by simp [enumFrom]
  | x :: xs, k, i + 1 => by
    unfold enumFrom
    rw [List.getElem?_cons_succ, List.getElem?_cons_succ, enumD_get xs (k + 1) i]
    have e : k + 1 + i = k + (i + 1) := by omega
    rw [e]
theorem enumD_len : ∀ (xs : List D) (k : Nat), (enumFrom k xs).length = xs.length
  | [], k => rfl
  | x :: xs, k => congrArg (· + 1) (enumD_len xs (k + 1))
theorem rangeD_len : ∀ (n : Nat) (lo : Int), (intsFrom lo n).length = n
  | 0, _ => rfl
  | n + 1, lo => congrArg (· + 1) (rangeD_len n (lo + 1))
theorem atD_nat {α : Type} {xs : List α} {i : Nat} (h : i < xs.length) : atD xs (i : Int) = some xs[i] := by
  unfold atD ixN
  rw [if_pos (by omega), if_pos (by omega)]
  simp [h]
theorem atD_get {α : Type} {xs : List α} {i : Nat} {v : α} (h : xs[i]? = some v) : atD xs (i : Int) = some v := by
  obtain ⟨hi, e⟩ := List.getElem?_eq_some_iff.mp h
  rw [atD_nat hi, e]
theorem atD_last {α : Type} {xs : List α} {v : α} (h : xs.getLast? = some v) : atD xs (-1) = some v := by
  have hn : 0 < xs.length := by
    cases xs with
    | nil => cases h
    | cons _ _ => simp
  unfold atD ixN
  rw [if_neg (by omega), if_pos (by omega)]
  have e : ((-1 : Int) + (xs.length : Int)).toNat = xs.length - 1 := by omega
  rw [e]
  rw [List.getLast?_eq_getElem?] at h
  exact h
theorem bodyF_ret {n more : Nat} {b : DenS} {ds : List D} {r : D} {S : BX} (hl : ds.length = n) (h : b (ds.map Slot.pv ++ List.replicate more Slot.no) .off = .ok (.rt r) S) : bodyF n more b ds = .ok r S := by
  unfold bodyF
  rw [if_pos hl, h]
theorem bodyB_ret {n more : Nat} {b : DenS} {ds : List D} {r : D} {S S' : BX} (hl : ds.length = n) (h : b (Slot.box :: (ds.map Slot.pv ++ List.replicate more Slot.no)) S = .ok (.rt r) S') : bodyB n more b ds S = .ok r S' := by
  unfold bodyB
  rw [if_pos hl, h]
theorem call_ok {F : Fn} {as : DenL} {ds : List D} {r : D} {ρ : Env} {S S1 S2 : BX} (h : as ρ S = .ok ds S1) (hf : F ds = .ok r S2) : eCall F as ρ S = .ok r S1 := by
  show ((as ρ >>= _) : M D) S = _
  rw [bind_ok h]
  unfold Fn.liftN
  rw [hf]
theorem callB_ok {F : FnB} {i : Nat} {as : DenL} {ds : List D} {r : D} {ρ : Env} {S S1 S2 : BX} (hb : ρ[i]? = some .box) (h : as ρ S = .ok ds S1) (hf : F ds S1 = .ok r S2) : eCallB F i as ρ S = .ok r S2 := by
  unfold eCallB
  rw [hb]
  show ((as ρ >>= _) : M D) S = _
  rw [bind_ok h]
  exact nox_ok hf
section
variable {ρ ρ' : Env} {S S1 S2 S3 : BX} {x y z d r : D} {a b c e : Den} {as : DenL} {ds xs : List D} {t u : DenT} {k m : Bool}
theorem anil_ok : aNil ρ S = .ok [] S := rfl
theorem acons_ok (h : a ρ S = .ok x S1) (h2 : as ρ S1 = .ok xs S2) : aCons a as ρ S = .ok (x :: xs) S2 := by
  unfold aCons
  rw [bind_ok h, bind_ok h2]
  rfl
theorem aone_ok (h : a ρ S = .ok x S1) : aCons a aNil ρ S = .ok [x] S1 := acons_ok h rfl
theorem bi_ok {g : Bi} (h : as ρ S = .ok ds S1) (hg : g ds = some r) : eBi g as ρ S = .ok r S1 := by
  unfold eBi
  rw [bind_ok h, hg]
  rfl
theorem e1_ok {g : D → Option D} (h : a ρ S = .ok x S1) (hg : g x = some r) : e1 g a ρ S = .ok r S1 := by
  unfold e1
  rw [bind_ok h, hg]
  rfl
theorem e2_ok {g : D → D → Option D} (h : a ρ S = .ok x S1) (h2 : b ρ S1 = .ok y S2) (hg : g x y = some r) : e2 g a b ρ S = .ok r S2 := by
  unfold e2
  rw [bind_ok h, bind_ok h2, hg]
  rfl
theorem tup_ok (h : as ρ S = .ok ds S1) (hl : ds.length ≤ LIM) : eTup as ρ S = .ok (.tup ds) S1 := by
  unfold eTup
  rw [bind_ok h, if_pos hl]
  rfl
theorem lst_ok (h : as ρ S = .ok ds S1) (hl : ds.length ≤ LIM) : eLst as ρ S = .ok (.lst ds) S1 := by
  unfold eLst
  rw [bind_ok h, if_pos hl]
  rfl
theorem ret_ok (h : e ρ S = .ok d S1) : sRet e ρ S = .ok (.rt d) S1 := by
  unfold sRet
  rw [bind_ok h]
  rfl
theorem set_ok {g : Tg} (h : e ρ S = .ok d S1) (hg : g d ρ = some ρ') : sSet g e ρ S = .ok (.nx ρ') S1 := by
  unfold sSet
  rw [bind_ok h, hg]
  rfl
theorem if_ok {p q : DenS} (h : t ρ S = .ok k S1) : sIf t p q ρ S = if k then p ρ S1 else q ρ S1 := by
  unfold sIf
  rw [bind_ok h]
  cases k <;> rfl
theorem if_yes {p q : DenS} (h : t ρ S = .ok true S1) : sIf t p q ρ S = p ρ S1 := by rw [if_ok h]; rfl
theorem if_no {p q : DenS} (h : t ρ S = .ok false S1) : sIf t p q ρ S = q ρ S1 := by rw [if_ok h]; rfl
theorem seq_rt {p q : DenS} (h : p ρ S = .ok (.rt d) S1) : sSeq p q ρ S = .ok (.rt d) S1 := by
  show ((p ρ >>= _) : M Flow) S = _
  rw [bind_ok h]
  rfl
theorem eif_ok (h : t ρ S = .ok k S1) : eIf t a b ρ S = if k then a ρ S1 else b ρ S1 := by
  unfold eIf
  rw [bind_ok h]
  cases k <;> rfl
theorem tval_ok (h : e ρ S = .ok (.bl k) S1) : tVal e ρ S = .ok k S1 := by
  unfold tVal
  rw [bind_ok h]
  rfl
theorem ttruth_ok (h : e ρ S = .ok d S1) : tTruth e ρ S = .ok d.truth S1 := by
  unfold tTruth
  rw [bind_ok h]
  rfl
theorem tnot_ok (h : t ρ S = .ok k S1) : tNot t ρ S = .ok (!k) S1 := by
  unfold tNot
  rw [bind_ok h]
  rfl
theorem tand_ok (h : t ρ S = .ok true S1) (h2 : u ρ S1 = .ok m S2) : tAnd t u ρ S = .ok m S2 := by
  unfold tAnd
  rw [bind_ok h]
  exact h2
theorem tand_no (h : t ρ S = .ok false S1) : tAnd t u ρ S = .ok false S1 := by
  unfold tAnd
  rw [bind_ok h]
  rfl
theorem tor_ok (h : t ρ S = .ok false S1) (h2 : u ρ S1 = .ok m S2) : tOr t u ρ S = .ok m S2 := by
  unfold tOr
  rw [bind_ok h]
  exact h2
theorem tor_yes (h : t ρ S = .ok true S1) : tOr t u ρ S = .ok true S1 := by
  unfold tOr
  rw [bind_ok h]
  rfl
theorem sl_ok {lo hi : DenO} {o p : Option Int} (h : a ρ S = .ok x S1) (h1 : lo ρ S1 = .ok o S2) (h2 : hi ρ S2 = .ok p S3) (hg : x.sl o p = some r) : eSl a lo hi ρ S = .ok r S3 := by
  unfold eSl
  rw [bind_ok h, bind_ok h1, bind_ok h2, hg]
  rfl
theorem osome_ok {i : Int} (h : a ρ S = .ok (.int i) S1) : oSome a ρ S = .ok (some i) S1 := by
  unfold oSome
  rw [bind_ok h]
  rfl
theorem ono_ok : oNo ρ S = .ok none S := rfl
theorem of_ok (h : a ρ S = .ok x S1) (hg : x.items = some ds) : iOf a ρ S = .ok ds S1 := by
  unfold iOf
  rw [bind_ok h, hg]
  rfl
end
theorem range1_ok {a : Den} {ρ : Env} {S S' : BX} {n : Nat} (h : a ρ S = .ok (.int (n : Nat)) S') (hn : n ≤ LIM) : iRange1 a ρ S = .ok (intsFrom 0 n) S' := by
  show ((a ρ >>= _) : M (List D)) S = _
  rw [bind_ok h]
  show (if _ then _ else _ : M (List D)) S' = _
  rw [if_pos ⟨by unfold BIG; omega, by omega⟩]
  rfl
theorem lim_le {n : Nat} (h : n ≤ 1000) : n ≤ LIM := by unfold LIM; omega
theorem lim_lt' {n : Nat} (h : n ≤ 1000) : n < LIM := by unfold LIM; omega
theorem lim1 : (1 ≤ LIM) = True := eq_true (lim_le (by omega))
theorem lim2 : (2 ≤ LIM) = True := eq_true (lim_le (by omega))
theorem lim3 : (3 ≤ LIM) = True := eq_true (lim_le (by omega))
theorem lim0 : (0 ≤ LIM) = True := eq_true (Nat.zero_le _)
theorem ite_pure {α : Type} {c : Prop} [Decidable c] (a b : α) : (if c then M.pure a else M.pure b : M α) = M.pure (if c then a else b) := by split <;> rfl
theorem ok_inj {α : Type} {a b : α} {S S' : BX} (h : a = b) : (Res.ok a S : Res α) = .ok b S := by rw [h]
theorem eq_chr (a b : Nat) : D.eq (.str [a]) (.str [b]) = some (.bl (decide (a = b))) := by
  unfold D.eq D.eqv D.depth
  rw [if_pos (by simp)]
  by_cases h : a = b <;> simp [h]
theorem ne_chr (a b : Nat) : D.ne (.str [a]) (.str [b]) = some (.bl (!decide (a = b))) := by
  unfold D.ne D.eqv D.depth
  rw [if_pos (by simp)]
  by_cases h : a = b <;> simp [h]
theorem eq_int (a b : Int) : D.eq (.int a) (.int b) = some (.bl (decide (a = b))) := by
  unfold D.eq D.eqv D.depth
  rw [if_pos (by simp)]
  by_cases h : a = b <;> simp [h]
theorem ne_int (a b : Int) : D.ne (.int a) (.int b) = some (.bl (!decide (a = b))) := by
  unfold D.ne D.eqv D.depth
  rw [if_pos (by simp)]
  by_cases h : a = b <;> simp [h]
theorem ix_str {x : List Nat} {i : Nat} (h : i < x.length) : D.ix (.str x) (.int (i : Nat)) = some (.str [x.getD i 0]) := by
  show (atD x _).map _ = _
  rw [atD_nat h]
  simp [h]
theorem ix_lst {xs : List D} {i : Nat} {v : D} (h : xs[i]? = some v) : D.ix (.lst xs) (.int (i : Nat)) = some v := atD_get h
theorem ix_tup {xs : List D} {i : Nat} {v : D} (h : xs[i]? = some v) : D.ix (.tup xs) (.int (i : Nat)) = some v := atD_get h
theorem ix_lstL {xs : List D} {v : D} (h : xs.getLast? = some v) : D.ix (.lst xs) (.int (-1)) = some v := atD_last h
theorem ix_tupL {xs : List D} {v : D} (h : xs.getLast? = some v) : D.ix (.tup xs) (.int (-1)) = some v := atD_last h
theorem own_one {i : Nat} {e : Den} {ρ : Env} {S S' : BX} {d : D} (h : e ρ S = .ok d S') (hi : i < ρ.length) : sOwn i (lLst (aCons e aNil)) ρ S = .ok (.nx (ρ.set i (.own [d]))) S' := by
  have h1 : lLst (aCons e aNil) ρ S = .ok [d] S' := by
    unfold lLst aCons aNil
    rw [DN.bind_assoc, bind_ok h]
    show (if 1 ≤ LIM then M.pure [d] else M.bad : M (List D)) S' = _
    rw [if_pos (lim_le (by omega))]
    rfl
  unfold sOwn
  rw [bind_ok h1, if_pos hi]
  rfl
theorem minF_mem : ∀ (r : List Nat) (x : Nat), ∃ v, v ∈ x :: r ∧ (r.map fun n : Nat => (n : Int)).foldl (fun m y => if y < m then y else m) (x : Int) = (v : Int) ∧ ∀ y ∈ x :: r, v ≤ y
  | [], x => ⟨x, by simp, rfl, by simp⟩
  | y :: r, x => by
    have hs : (if (y : Int) < (x : Int) then (y : Int) else (x : Int)) = ((if y < x then y else x : Nat) : Int) := by split <;> split <;> omega
    obtain ⟨v, h1, h2, h3⟩ := minF_mem r (if y < x then y else x)
    refine ⟨v, ?_, ?_, ?_⟩
    · rcases List.mem_cons.mp h1 with h | h
      · rw [h]; split <;> simp
      · simp [h]
    · rw [List.map_cons, List.foldl_cons, hs]; exact h2
    · intro z hz
      have h4 := h3 (if y < x then y else x) List.mem_cons_self
      rcases List.mem_cons.mp hz with rfl | hz
      · split at h4 <;> omega
      · rcases List.mem_cons.mp hz with rfl | hz
        · split at h4 <;> omega
        · exact h3 z (List.mem_cons_of_mem _ hz)
theorem maxF_mem : ∀ (r : List Nat) (x : Nat), ∃ v, v ∈ x :: r ∧ (r.map fun n : Nat => (n : Int)).foldl (fun m y => if y > m then y else m) (x : Int) = (v : Int) ∧ ∀ y ∈ x :: r, y ≤ v
  | [], x => ⟨x, by simp, rfl, by simp⟩
  | y :: r, x => by
    have hs : (if (y : Int) > (x : Int) then (y : Int) else (x : Int)) = ((if y > x then y else x : Nat) : Int) := by split <;> split <;> omega
    obtain ⟨v, h1, h2, h3⟩ := maxF_mem r (if y > x then y else x)
    refine ⟨v, ?_, ?_, ?_⟩
    · rcases List.mem_cons.mp h1 with h | h
      · rw [h]; split <;> simp
      · simp [h]
    · rw [List.map_cons, List.foldl_cons, hs]; exact h2
    · intro z hz
      have h4 := h3 (if y > x then y else x) List.mem_cons_self
      rcases List.mem_cons.mp hz with rfl | hz
      · split at h4 <;> omega
      · rcases List.mem_cons.mp hz with rfl | hz
        · split at h4 <;> omega
        · exact h3 z (List.mem_cons_of_mem _ hz)
def natD (n : Nat) : D := .int (n : Nat)
theorem intsOf_nat : ∀ xs : List Nat, intsOf (xs.map natD) = some (xs.map fun n : Nat => (n : Int))
  | [] => rfl
  | x :: r => by
    show (intsOf (r.map natD)).map _ = _
    rw [intsOf_nat r]
    rfl
theorem minL_nat {xs : List Nat} (h : xs ≠ []) : ∃ v, v ∈ xs ∧ minL (xs.map fun n : Nat => (n : Int)) = some (v : Int) ∧ ∀ y ∈ xs, v ≤ y := by
  cases xs with
  | nil => exact absurd rfl h
  | cons x r =>
    obtain ⟨v, h1, h2, h3⟩ := minF_mem r x
    exact ⟨v, h1, congrArg some h2, h3⟩
theorem maxL_nat {xs : List Nat} (h : xs ≠ []) : ∃ v, v ∈ xs ∧ maxL (xs.map fun n : Nat => (n : Int)) = some (v : Int) ∧ ∀ y ∈ xs, y ≤ v := by
  cases xs with
  | nil => exact absurd rfl h
  | cons x r =>
    obtain ⟨v, h1, h2, h3⟩ := maxF_mem r x
    exact ⟨v, h1, congrArg some h2, h3⟩
theorem bMin_nat {xs : List Nat} (h : xs ≠ []) : ∃ v : Nat, v ∈ xs ∧ bMin [.tup (xs.map natD)] = some (.int v) ∧ bMin [.lst (xs.map natD)] = some (.int v) ∧ ∀ y ∈ xs, v ≤ y := by
  obtain ⟨v, h1, h2, h3⟩ := minL_nat h
  refine ⟨v, h1, ?_, ?_, h3⟩ <;>
  · show ((intsOf _).bind minL).map _ = _
    rw [intsOf_nat]
    show (minL _).map _ = _
    rw [h2]
    rfl
theorem bMax_nat {xs : List Nat} (h : xs ≠ []) : ∃ v : Nat, v ∈ xs ∧ bMax [.tup (xs.map natD)] = some (.int v) ∧ bMax [.lst (xs.map natD)] = some (.int v) ∧ ∀ y ∈ xs, y ≤ v := by
  obtain ⟨v, h1, h2, h3⟩ := maxL_nat h
  refine ⟨v, h1, ?_, ?_, h3⟩ <;>
  · show ((intsOf _).bind maxL).map _ = _
    rw [intsOf_nat]
    show (maxL _).map _ = _
    rw [h2]
    rfl
theorem sIx_nat (n d v : Nat) : sIx n d (some (v : Int)) = min v n := by
  show (if (v : Int) < 0 then ((v : Int) + (n : Int)).toNat else min (v : Int).toNat n) = _
  rw [if_neg (by omega), Int.toNat_natCast]
theorem cut_nat {α : Type} {x : List α} {a e : Nat} (h1 : a ≤ e) (h2 : e ≤ x.length) : cut x (some (a : Int)) (some (e : Int)) = (x.drop a).take (e - a) := by
  unfold cut
  rw [sIx_nat, sIx_nat]
  have e1 : min a x.length = a := by omega
  have e2 : min e x.length = e := by omega
  rw [e1, e2]
theorem idx_first {xs : List Nat} {v : Nat} (h : v ∈ xs) : ∃ e, idxD (.int (v : Nat)) (xs.map natD) = some e ∧ xs[e]? = some v ∧ ∀ b, b < e → xs[b]? ≠ some v := by
  induction xs with
  | nil => cases h
  | cons x r ih =>
    show ∃ e, (if D.eqv (.int (x : Nat)) (.int (v : Nat)) = true then some 0 else (idxD _ (r.map natD)).map (· + 1)) = some e ∧ _
    by_cases q : x = v
    · subst q
      refine ⟨0, ?_, rfl, fun b hb => by omega⟩
      rw [if_pos (by unfold D.eqv; simp)]
    · have hr : v ∈ r := by
        rcases List.mem_cons.mp h with h | h
        · exact absurd h.symm q
        · exact h
      obtain ⟨e, h1, h2, h3⟩ := ih hr
      refine ⟨e + 1, ?_, by simpa using h2, fun b hb => ?_⟩
      · rw [if_neg (by unfold D.eqv; simp; omega), h1]; rfl
      · cases b with
        | zero => simp [q]
        | succ b => simpa using h3 b (by omega)
theorem depths_nat : ∀ xs : List Nat, D.depths (xs.map natD) = 0
  | [] => rfl
  | x :: r => by
    show D.depths (natD x :: r.map natD) = 0
    unfold D.depths
    rw [depths_nat r]
    rfl
theorem gather_mapP {α : Type} {g : Tg} {c : DenT} {e : Den} {ρ : Env} {S : BX} (R F : α → D) (p : α → Bool) : ∀ xs : List α, (∀ x ∈ xs, ∃ ρ1, g (R x) ρ = some ρ1 ∧ c ρ1 S = .ok (p x) S ∧ (p x = true → e ρ1 S = .ok (F x) S)) → gather g c e ρ (xs.map R) S = .ok ((xs.filter p).map F) S
  | [], _ => rfl
  | x :: xs, h => by
    obtain ⟨ρ1, h1, h2, h3⟩ := h x List.mem_cons_self
    have ih := gather_mapP R F p xs fun y hy => h y (List.mem_cons_of_mem _ hy)
    show ((M.of (g (R x) ρ) >>= _) : M (List D)) S = _
    rw [h1]
    show (((c ρ1).nox >>= _) : M (List D)) S = _
    rw [bind_ok (nox_ok h2)]
    cases hp : p x with
    | true =>
      rw [List.filter_cons_of_pos hp]
      show (((e ρ1).nox >>= _) : M (List D)) S = _
      rw [bind_ok (nox_ok (h3 hp))]
      show ((gather g c e ρ (xs.map R) >>= _) : M (List D)) S = _
      rw [bind_ok ih]
      rfl
    | false =>
      rw [List.filter_cons_of_neg (by rw [hp]; decide)]
      exact ih
theorem gather_map {α : Type} {g : Tg} {e : Den} {ρ : Env} {S : BX} (R F : α → D) (xs : List α) (h : ∀ x ∈ xs, ∃ ρ1, g (R x) ρ = some ρ1 ∧ e ρ1 S = .ok (F x) S) : gather g tYes e ρ (xs.map R) S = .ok (xs.map F) S := by
  have := gather_mapP (c := tYes) (e := e) (g := g) (ρ := ρ) (S := S) R F (fun _ => true) xs fun d hd => by
    obtain ⟨ρ1, h1, h2⟩ := h d hd
    exact ⟨ρ1, h1, rfl, fun _ => h2⟩
  rw [this, List.filter_eq_self.mpr (fun _ _ => rfl)]
theorem ints_nat (n : Nat) : intsFrom 0 n = (List.range n).map natD := by
  rw [intsFrom_map]
  apply List.map_congr_left
  intro i _
  show D.int (0 + (i : Int)) = D.int i
  rw [Int.zero_add]
theorem gather_invC {g : Tg} {c : DenT} (hc : ∀ ρ S, c ρ S = .ok true S) {e : Den} {ρ : Env} (J : BX → Prop) (P : D → Prop) : ∀ (ds : List D) (S : BX), J S → (∀ d ∈ ds, ∃ ρ1, g d ρ = some ρ1 ∧ ∀ S, J S → ∃ y S', e ρ1 S = .ok y S' ∧ J S' ∧ P y) →
    ∃ ys S', gather g c e ρ ds S = .ok ys S' ∧ J S' ∧ ys.length = ds.length ∧ ∀ y ∈ ys, P y
  | [], S, hJ, _ => ⟨[], S, rfl, hJ, rfl, fun y h => by cases h⟩
  | d :: ds, S, hJ, h => by
    obtain ⟨ρ1, h1, h2⟩ := h d List.mem_cons_self
    obtain ⟨y, S1, h3, h4, h5⟩ := h2 S hJ
    obtain ⟨ys, S2, k1, k2, k3, k4⟩ := gather_invC hc J P ds S1 h4 fun d' hd => h d' (List.mem_cons_of_mem _ hd)
    refine ⟨y :: ys, S2, ?_, k2, by rw [List.length_cons, k3, List.length_cons], fun z hz => ?_⟩
    · show ((M.of (g d ρ) >>= _) : M (List D)) S = _
      rw [h1]
      show (((c ρ1).nox >>= _) : M (List D)) S = _
      rw [bind_ok (nox_ok (hc ρ1 S))]
      show (((e ρ1).nox >>= _) : M (List D)) S = _
      rw [bind_ok (nox_ok h3)]
      show ((gather g c e ρ ds >>= _) : M (List D)) S1 = _
      rw [bind_ok k1]
      rfl
    · rcases List.mem_cons.mp hz with rfl | hz
      · exact h5
      · exact k4 z hz
theorem gather_inv {g : Tg} {e : Den} {ρ : Env} (J : BX → Prop) (P : D → Prop) (ds : List D) (S : BX) (hJ : J S) (h : ∀ d ∈ ds, ∃ ρ1, g d ρ = some ρ1 ∧ ∀ S, J S → ∃ y S', e ρ1 S = .ok y S' ∧ J S' ∧ P y) :
    ∃ ys S', gather g tYes e ρ ds S = .ok ys S' ∧ J S' ∧ ys.length = ds.length ∧ ∀ y ∈ ys, P y := gather_invC (fun _ _ => rfl) J P ds S hJ h
theorem cut_le {α : Type} (xs : List α) (lo hi : Option Int) : (cut xs lo hi).length ≤ xs.length := by
  unfold cut
  rw [List.length_take, List.length_drop]
  omega
theorem join_chr : ∀ ys : List D, (∀ y ∈ ys, ∃ c, y = .str [c]) → ∃ xs, strsOf ys = some xs ∧ (joinL [] xs).length = ys.length
  | [], _ => ⟨[], rfl, rfl⟩
  | y :: r, h => by
    obtain ⟨c, rfl⟩ := h y List.mem_cons_self
    obtain ⟨xs, h1, h2⟩ := join_chr r fun z hz => h z (List.mem_cons_of_mem _ hz)
    refine ⟨[c] :: xs, ?_, ?_⟩
    · show (strsOf r).map _ = _
      rw [h1]; rfl
    · cases xs with
      | nil =>
        rw [show (joinL [] [] : List Nat).length = 0 from rfl] at h2
        show 1 = r.length + 1
        omega
      | cons x xs =>
        show ([c] ++ [] ++ joinL [] (x :: xs)).length = r.length + 1
        rw [List.length_append, h2]
        show 1 + r.length = _
        omega
theorem m1_ok {a b : Den} {g : D → D → Option D} {ρ : Env} {S S1 S2 : BX} {x : List Nat} {y r : D} (h : a ρ S = .ok (.str x) S1) (h2 : b ρ S1 = .ok y S2) (hg : g (.str x) y = some r) : eM1 g a b ρ S = .ok r S2 := by
  unfold eM1
  rw [bind_ok h]
  show ((b ρ >>= _) : M D) S1 = _
  rw [bind_ok h2, hg]
  rfl
/-- signs[draw(box, len(signs))], step by step, as many as are drawn below most + 1 -/
def d_text : DenS :=
  sRet (eM1 D.join (eC (.str [])) (eL (lLc (iRange1 (eCallB f_draw 0 (aCons (e2 D.add (eV 1) (eC (.int 1))) (aNil)))) (gN 3) (tYes) (e2 D.ix (eV 2) (eCallB f_draw 0 (aCons (eBi bLen (aCons (eV 2) (aNil))) (aNil)))) [3])))
def f_text : FnB := bodyB 2 1 d_text
theorem text_spec {most : Nat} {sg : List Nat} {S : BX} (h : Good S) (hm : most ≤ 900) (h0 : 0 < sg.length) (h1 : sg.length ≤ 900) : ∃ x S', f_text [.int (most : Nat), .str sg] S = .ok (.str x) S' ∧ Good S' ∧ x.length ≤ most := by
  obtain ⟨d, S1, k1, k2, k3, k4⟩ := draw_spec (many := ((most + 1 : Nat) : Int)) h (by omega) (by omega)
  obtain ⟨n, rfl⟩ := Int.eq_ofNat_of_zero_le k3
  have hr : iRange1 (eCallB f_draw 0 (aCons (e2 D.add (eV 1) (eC (.int 1))) (aNil))) [.box, .pv (.int (most : Nat)), .pv (.str sg), .no] S = .ok (intsFrom 0 n) S1 := range1_ok (callB_ok rfl (aone_ok (e2_ok rfl rfl rfl)) k1) (lim_le (by omega))
  obtain ⟨ys, S2, g1, g2, g3, g4⟩ := gather_inv (g := gN 3) (e := e2 D.ix (eV 2) (eCallB f_draw 0 (aCons (eBi bLen (aCons (eV 2) (aNil))) (aNil)))) (ρ := [.box, .pv (.int (most : Nat)), .pv (.str sg), .no]) Good (fun y => ∃ c, y = .str [c]) (intsFrom 0 n) S1 k2 (by
    intro d hd
    refine ⟨_, rfl, fun S hS => ?_⟩
    obtain ⟨j, S3, j1, j2, j3, j4⟩ := draw_spec (many := (sg.length : Nat)) hS (by omega) (by omega)
    obtain ⟨i, rfl⟩ := Int.eq_ofNat_of_zero_le j3
    exact ⟨_, S3, e2_ok (x := .str sg) rfl (callB_ok rfl (aone_ok (bi_ok (aone_ok rfl) rfl)) j1) (ix_str (by omega)), j2, _, rfl⟩)
  obtain ⟨xs, x1, x2⟩ := join_chr ys g4
  rw [g3, rangeD_len] at x2
  refine ⟨joinL [] xs, S2, ?_, g2, by omega⟩
  refine bodyB_ret rfl ?_
  show d_text [.box, .pv (.int (most : Nat)), .pv (.str sg), .no] S = _
  refine ret_ok (m1_ok rfl (eL_ok (lc_ok hr g1)) ?_)
  show (strsOf ys).bind _ = _
  rw [x1]
  show (if _ then _ else _) = _
  rw [if_pos (lim_le (by omega))]
end DN

set_option linter.all false
namespace K45
open DN
abbrev f__law_draw := f_draw
abbrev f__law_load := f_load

def b_distance_table_1 : DenS :=
  sSeq (sSet (gN 8) (e2 D.add (eBi bMin2 (aCons (e2 D.ix (e2 D.ix (eB 2) (eV 3)) (e2 D.add (eV 6) (eC (.int 1)))) (aCons (e2 D.ix (eB 5) (eV 6)) (aNil)))) (eC (.int 1))))
  (sApp 5 (eBi bMin2 (aCons (eV 8) (aCons (e2 D.add (e2 D.ix (e2 D.ix (eB 2) (eV 3)) (eV 6)) (eIf (tVal (e2 D.eq (eV 4) (eV 7))) (eC (.int 0)) (eC (.int 1)))) (aNil)))))
def b_distance_table_2 : DenS :=
  sSeq (sOwn 5 (lLst (aCons (e2 D.add (eV 3) (eC (.int 1))) (aNil))))
  (sSeq (sFor (iEnum (eV 1)) (gT (gsCons (gN 6) (gsCons (gN 7) (gsNil)))) (b_distance_table_1))
  (sSeq (sFrz 5) (sApp 2 (eV 5))))
def d_distance_table : DenS :=
  sSeq (sOwn 2 (lLst (aCons (eL (lRange1 (e2 D.add (eBi bLen (aCons (eV 1) (aNil))) (eC (.int 1))))) (aNil))))
  (sSeq (sFor (iEnum (eV 0)) (gT (gsCons (gN 3) (gsCons (gN 4) (gsNil)))) (b_distance_table_2))
  (sRet (eBi bTuple (aCons (eL (lLc (iOf (eB 2)) (gN 5) (tYes) (eBi bTuple (aCons (eV 5) (aNil))) [5])) (aNil)))))
def f_distance_table : Fn := bodyF 2 7 d_distance_table
-- distance_table(one, other): slots 0 one 1 other 2 rows 3 i 4 sign 5 row 6 j 7 mate 8 best
def d_distance : DenS :=
  sRet (e2 D.ix (e2 D.ix (eCall f_distance_table (aCons (eV 0) (aCons (eV 1) (aNil)))) (e1 D.neg (eC (.int 1)))) (e1 D.neg (eC (.int 1))))
def f_distance : Fn := bodyF 2 0 d_distance
-- distance(one, other): slots 0 one 1 other
def b_near_rows_1 : DenS :=
  sSeq (sSet (gN 7) (e2 D.add (eBi bMin2 (aCons (e2 D.ix (e2 D.ix (eB 2) (e1 D.neg (eC (.int 1)))) (e2 D.add (eV 5) (eC (.int 1)))) (aCons (e2 D.ix (eB 4) (eV 5)) (aNil)))) (eC (.int 1))))
  (sApp 4 (eBi bMin2 (aCons (eV 7) (aCons (e2 D.add (e2 D.ix (e2 D.ix (eB 2) (e1 D.neg (eC (.int 1)))) (eV 5)) (eIf (tVal (e2 D.eq (eV 3) (eV 6))) (eC (.int 0)) (eC (.int 1)))) (aNil)))))
def b_near_rows_2 : DenS :=
  sSeq (sOwn 4 (lLst (aCons (eC (.int 0)) (aNil))))
  (sSeq (sFor (iEnum (eV 1)) (gT (gsCons (gN 5) (gsCons (gN 6) (gsNil)))) (b_near_rows_1))
  (sSeq (sFrz 4) (sApp 2 (eV 4))))
def d_near_rows : DenS :=
  sSeq (sOwn 2 (lLst (aCons (eL (lRange1 (e2 D.add (eBi bLen (aCons (eV 1) (aNil))) (eC (.int 1))))) (aNil))))
  (sSeq (sFor (iOf (eV 0)) (gN 3) (b_near_rows_2))
  (sSeq (sFrz 2) (sRet (eV 2))))
def f_near_rows : Fn := bodyF 2 6 d_near_rows
-- near_rows(text, word): slots 0 text 1 word 2 rows 3 sign 4 row 5 j 6 mate 7 best
def d_near_ends : DenS :=
  sRet (eBi bTuple (aCons (eL (lLc (iOf (eCall f_near_rows (aCons (eV 0) (aCons (eV 1) (aNil))))) (gN 2) (tYes) (e2 D.ix (eV 2) (e1 D.neg (eC (.int 1)))) [2])) (aNil)))
def f_near_ends : Fn := bodyF 2 1 d_near_ends
-- near_ends(text, word): slots 0 text 1 word 2 row
def b_nearest_1 : DenS :=
  sAug 5 D.sub (eC (.int 1))
def d_nearest : DenS :=
  sSeq (sSet (gN 2) (eCall f_near_ends (aCons (eV 0) (aCons (eV 1) (aNil))))) (sSeq (sSet (gN 3) (eBi bMin (aCons (eV 2) (aNil)))) (sSeq (sSet (gN 4) (e2 D.index (eV 2) (eV 3)))
  (sSeq (sSet (gN 5) (eV 4))
  (sSeq (sWhile (tVal (e2 D.ne (eCall f_distance (aCons (eV 1) (aCons (eSl (eV 0) (oSome (eV 5)) (oSome (eV 4))) (aNil)))) (eV 3))) (b_nearest_1))
  (sRet (eTup (aCons (eV 3) (aCons (eTup (aCons (eV 5) (aCons (eV 4) (aNil)))) (aNil)))))))))
def f_nearest : Fn := bodyF 2 4 d_nearest
-- nearest(text, word): slots 0 text 1 word 2 ends 3 best 4 end 5 begin
def b_shift_table_1 : DenS :=
  sSet (gN 3) (e2 D.ix (eB 2) (eV 3))
def b_shift_table_2 : DenS :=
  sSeq (sWhile (tAnd (tVal (e2 D.gt (eV 3) (eC (.int 0)))) (tVal (e2 D.ne (e2 D.ix (eV 0) (eV 3)) (e2 D.ix (eV 0) (eV 1))))) (b_shift_table_1))
  (sSeq (sIf (tVal (e2 D.eq (e2 D.ix (eV 0) (eV 3)) (e2 D.ix (eV 0) (eV 1)))) (sAug 3 D.iadd (eC (.int 1))) (sNext))
  (sApp 2 (eV 3)))
def d_shift_table : DenS :=
  sSeq (sPar2 2 3 (xL (lLst (aCons (eC (.int 0)) (aCons (eC (.int 0)) (aNil))))) (xE (eC (.int 0))))
  (sSeq (sFor (iRange2 (eC (.int 1)) (eBi bLen (aCons (eV 0) (aNil)))) (gN 1) (b_shift_table_2))
  (sRet (eBi bTuple (aCons (eB 2) (aNil)))))
def f_shift_table : Fn := bodyF 1 3 d_shift_table
-- shift_table(word): slots 0 word 1 k 2 found 3 back
def b_beginnings_met_1 : DenS :=
  sSet (gN 5) (e2 D.ix (eV 3) (eV 5))
def b_beginnings_met_2 : DenS :=
  sSeq (sWhile (tAnd (tVal (e2 D.gt (eV 5) (eC (.int 0)))) (tOr (tVal (e2 D.eq (eV 5) (eBi bLen (aCons (eV 1) (aNil))))) (tVal (e2 D.ne (e2 D.ix (eV 1) (eV 5)) (eV 2))))) (b_beginnings_met_1))
  (sSeq (sIf (tVal (e2 D.eq (e2 D.ix (eV 1) (eV 5)) (eV 2))) (sAug 5 D.iadd (eC (.int 1))) (sNext))
  (sApp 4 (eV 5)))
def d_beginnings_met : DenS :=
  sSeq (sPar3 3 4 5 (xE (eCall f_shift_table (aCons (eV 1) (aNil)))) (xL (lLst (aCons (eC (.int 0)) (aNil)))) (xE (eC (.int 0))))
  (sSeq (sFor (iOf (eV 0)) (gN 2) (b_beginnings_met_2))
  (sRet (eBi bTuple (aCons (eB 4) (aNil)))))
def f_beginnings_met : Fn := bodyF 2 4 d_beginnings_met
-- beginnings_met(text, word): slots 0 text 1 word 2 sign 3 table 4 found 5 here
def d_finds : DenS :=
  sSeq (sSet (gN 2) (eCall f_beginnings_met (aCons (eV 0) (aCons (eV 1) (aNil)))))
  (sRet (eBi bTuple (aCons (eL (lLc (iRange1 (eBi bLen (aCons (eV 2) (aNil)))) (gN 3) (tVal (e2 D.eq (e2 D.ix (eV 2) (eV 3)) (eBi bLen (aCons (eV 1) (aNil))))) (e2 D.sub (eV 3) (eBi bLen (aCons (eV 1) (aNil)))) [3])) (aNil))))
def f_finds : Fn := bodyF 2 2 d_finds
-- finds(text, word): slots 0 text 1 word 2 met 3 place
def d__law_same (self : Fn) : DenS :=
  sSeq (sIf (tOr (tAnd (tTruth (e1 (D.isi "tuple") (eV 0))) (tTruth (e1 (D.isi "tuple") (eV 1)))) (tAnd (tTruth (e1 (D.isi "list") (eV 0))) (tTruth (e1 (D.isi "list") (eV 1))))) (sRet (eAnd (e2 D.eq (eBi bLen (aCons (eV 0) (aNil))) (eBi bLen (aCons (eV 1) (aNil)))) (eBi bAll (aCons (eL (lLc (iRange1 (eBi bLen (aCons (eV 0) (aNil)))) (gN 2) (tYes) (eCall self (aCons (e2 D.ix (eV 0) (eV 2)) (aCons (e2 D.ix (eV 1) (eV 2)) (aNil)))) [2])) (aNil))))) (sNext))
  (sSeq (sIf (tOr (tTruth (e1 (D.isi "bool") (eV 0))) (tTruth (e1 (D.isi "bool") (eV 1)))) (sRet (eAnd (e1 (D.isi "bool") (eV 0)) (eAnd (e1 (D.isi "bool") (eV 1)) (e2 D.eq (eV 0) (eV 1))))) (sNext))
  (sSeq (sIf (tOr (tAnd (tTruth (e1 (D.isi "int") (eV 0))) (tTruth (e1 (D.isi "int") (eV 1)))) (tAnd (tTruth (e1 (D.isi "str") (eV 0))) (tTruth (e1 (D.isi "str") (eV 1))))) (sRet (e2 D.eq (eV 0) (eV 1))) (sNext))
  (sRet (eAnd (e2 D.is (eV 0) (eC .non)) (e2 D.is (eV 1) (eC .non))))))
def f__law_same : Nat → Fn
  | 0 => Fn.none
  | n + 1 => bodyF 2 1 (d__law_same (f__law_same n))
-- _law_same(a, b): slots 0 a 1 b 2 k
def d__law_text : DenS :=
  sRet (eM1 D.join (eC (.str [])) (eL (lLc (iRange1 (eCallB f__law_draw 0 (aCons (e2 D.add (eV 1) (eC (.int 1))) (aNil)))) (gN 3) (tYes) (e2 D.ix (eV 2) (eCallB f__law_draw 0 (aCons (eBi bLen (aCons (eV 2) (aNil))) (aNil)))) [3])))
def f__law_text : FnB := bodyB 2 1 d__law_text
-- _law_text(box, most, signs): slots 0 box 1 most 2 signs 3 step
def b__law_distance_1 : DenS :=
  sApp 4 (eBi bMin3 (aCons (e2 D.add (e2 D.ix (eV 2) (e2 D.add (eV 5) (eC (.int 1)))) (eC (.int 1))) (aCons (e2 D.add (e2 D.ix (eB 4) (eV 5)) (eC (.int 1))) (aCons (e2 D.add (e2 D.ix (eV 2) (eV 5)) (eIf (tVal (e2 D.eq (e2 D.ix (eV 0) (eV 3)) (e2 D.ix (eV 1) (eV 5)))) (eC (.int 0)) (eC (.int 1)))) (aNil)))))
def b__law_distance_2 : DenS :=
  sSeq (sOwn 4 (lLst (aCons (e2 D.add (eV 3) (eC (.int 1))) (aNil))))
  (sSeq (sFor (iRange1 (eBi bLen (aCons (eV 1) (aNil)))) (gN 5) (b__law_distance_1))
  (sSeq (sFrz 4) (sSet (gN 2) (eV 4))))
def d__law_distance : DenS :=
  sSeq (sSet (gN 2) (eL (lRange1 (e2 D.add (eBi bLen (aCons (eV 1) (aNil))) (eC (.int 1))))))
  (sSeq (sFor (iRange1 (eBi bLen (aCons (eV 0) (aNil)))) (gN 3) (b__law_distance_2))
  (sRet (e2 D.ix (eV 2) (e1 D.neg (eC (.int 1))))))
def f__law_distance : Fn := bodyF 2 4 d__law_distance
-- _law_distance(one, other): slots 0 one 1 other 2 row 3 i 4 after 5 j
def b_law_1 : DenS :=
  sSeq (sSet (gN 3) (e2 D.ix (eLst (aCons (eC (.str [97, 98])) (aCons (eC (.str [97, 98, 99])) (aCons (eC (.str [97, 98, 10])) (aNil))))) (eCallB f__law_draw 1 (aCons (eC (.int 3)) (aNil)))))
  (sSeq (sSet (gT (gsCons (gN 10) (gsCons (gN 11) (gsNil)))) (eTup (aCons (eCallB f__law_text 1 (aCons (eC (.int 14)) (aCons (eV 3) (aNil)))) (aCons (e2 D.add (e2 D.ix (eV 3) (eCallB f__law_draw 1 (aCons (eC (.int 2)) (aNil)))) (eCallB f__law_text 1 (aCons (eC (.int 4)) (aCons (eV 3) (aNil))))) (aNil)))))
  (sSeq (sIf (tVal (e2 D.eq (eCallB f__law_draw 1 (aCons (eC (.int 3)) (aNil))) (eC (.int 0)))) (sSet (gN 10) (e2 D.add (e2 D.add (e2 D.add (e2 D.add (eSl (eV 10) (oNo) (oSome (eC (.int 5)))) (eSl (eV 11) (oNo) (oSome (eC (.int 2))))) (eCallB f__law_text 1 (aCons (eC (.int 1)) (aCons (eV 3) (aNil))))) (eSl (eV 11) (oSome (eC (.int 2))) (oNo))) (eSl (eV 10) (oSome (eC (.int 5))) (oSome (eC (.int 9)))))) (sNext))
  (sSeq (sSet (gN 4) (eL (lLc (iRange1 (e2 D.add (eBi bLen (aCons (eV 10) (aNil))) (eC (.int 1)))) (gN 12) (tYes) (eL (lLc (iRange1 (e2 D.add (eV 12) (eC (.int 1)))) (gN 13) (tYes) (eCall f__law_distance (aCons (eV 11) (aCons (eSl (eV 10) (oSome (eV 13)) (oSome (eV 12))) (aNil)))) [13])) [12])))
  (sSeq (sSet (gN 5) (eBi bTuple (aCons (eL (lLc (iOf (eV 4)) (gN 14) (tYes) (eBi bMin (aCons (eV 14) (aNil))) [14])) (aNil))))
  (sSeq (sIf (tNot (tTruth (eCall (f__law_same 20) (aCons (eCall f_near_ends (aCons (eV 10) (aCons (eV 11) (aNil)))) (aCons (eV 5) (aNil)))))) (sRet (eC (.bl false))) (sNext))
  (sSeq (sSet (gN 6) (eBi bMin (aCons (eV 5) (aNil))))
  (sSeq (sSet (gN 7) (e2 D.ix (eL (lLc (iRange1 (e2 D.add (eBi bLen (aCons (eV 10) (aNil))) (eC (.int 1)))) (gN 12) (tVal (e2 D.eq (e2 D.ix (eV 5) (eV 12)) (eV 6))) (eV 12) [12])) (eC (.int 0))))
  (sSeq (sSet (gN 8) (eBi bMax (aCons (eL (lLc (iRange1 (e2 D.add (eV 7) (eC (.int 1)))) (gN 13) (tVal (e2 D.eq (e2 D.ix (e2 D.ix (eV 4) (eV 7)) (eV 13)) (eV 6))) (eV 13) [13])) (aNil))))
  (sSeq (sIf (tOr (tNot (tTruth (eCall (f__law_same 20) (aCons (eCall f_nearest (aCons (eV 10) (aCons (eV 11) (aNil)))) (aCons (eTup (aCons (eV 6) (aCons (eTup (aCons (eV 8) (aCons (eV 7) (aNil)))) (aNil)))) (aNil)))))) (tVal (e2 D.ne (eCall f_distance (aCons (eV 11) (aCons (eSl (eV 10) (oSome (eV 8)) (oSome (eV 7))) (aNil)))) (eV 6)))) (sRet (eC (.bl false))) (sNext))
  (sSeq (sIf (tOr (tNot (tTruth (eBi bAll (aCons (eL (lLc (iOf (eCall f_finds (aCons (eV 10) (aCons (eV 11) (aNil))))) (gN 15) (tYes) (e2 D.eq (e2 D.ix (eV 5) (e2 D.add (eV 15) (eBi bLen (aCons (eV 11) (aNil))))) (eC (.int 0))) [15])) (aNil))))) (tOr (tVal (e2 D.gt (eBi bMax (aCons (eV 5) (aNil))) (eBi bLen (aCons (eV 11) (aNil))))) (tVal (e2 D.ne (e2 D.eq (eV 6) (eC (.int 0))) (e2 D.gt (eBi bLen (aCons (eCall f_finds (aCons (eV 10) (aCons (eV 11) (aNil)))) (aNil))) (eC (.int 0))))))) (sRet (eC (.bl false))) (sNext))
  (sSeq (sSet (gN 9) (e2 D.add (eV 10) (e2 D.ix (eV 3) (eCallB f__law_draw 1 (aCons (eBi bLen (aCons (eV 3) (aNil))) (aNil))))))
  (sIf (tNot (tTruth (eCall (f__law_same 20) (aCons (eSl (eCall f_near_ends (aCons (eV 9) (aCons (eV 11) (aNil)))) (oNo) (oSome (e1 D.neg (eC (.int 1))))) (aCons (eV 5) (aNil)))))) (sRet (eC (.bl false))) (sNext)))))))))))))
def d_law : DenS :=
  sSeq (sFor (iRange1 (eC (.int 4))) (gN 2) (b_law_1))
  (sRet (eC (.bl true)))
def env_law : Env := [Slot.no, Slot.box, Slot.no, Slot.no, Slot.no, Slot.no, Slot.no, Slot.no, Slot.no, Slot.no, Slot.no, Slot.no, Slot.no, Slot.no, Slot.no, Slot.no]
-- law(script): slots 0 script 1 box 2 turn 3 signs 4 rows 5 due 6 best 7 end 8 begin 9 more 10 text 11 word 12 b 13 a 14 row 15 place
end K45

set_option linter.all false
namespace K45
open DN
/-! the table of distances: z is 1 (the first column counts) or 0 -/
def dp (z : Nat) (x y : Nat → Nat) : Nat → Nat → Nat
  | 0, j => j
  | i + 1, 0 => z * (i + 1)
  | i + 1, j + 1 => min (min (dp z x y i (j + 1) + 1) (dp z x y (i + 1) j + 1)) (dp z x y i j + if x i = y j then 0 else 1)
def sh (t : Nat → Nat) (a : Nat) : Nat → Nat := fun k => t (a + k)
theorem dp_ss (z : Nat) (x y : Nat → Nat) (i j : Nat) : dp z x y (i + 1) (j + 1) = min (min (dp z x y i (j + 1) + 1) (dp z x y (i + 1) j + 1)) (dp z x y i j + if x i = y j then 0 else 1) := by rw [dp]
theorem dp_s0 (z : Nat) (x y : Nat → Nat) (i : Nat) : dp z x y (i + 1) 0 = z * (i + 1) := by rw [dp]
theorem dp_0j (z : Nat) (x y : Nat → Nat) (j : Nat) : dp z x y 0 j = j := by rw [dp]
theorem dp_j0 (x y : Nat → Nat) : ∀ i, dp 1 x y i 0 = i
  | 0 => dp_0j 1 x y 0
  | i + 1 => by rw [dp_s0]; omega
theorem dp_le1 (z : Nat) (x y : Nat → Nat) (i j : Nat) : dp z x y (i + 1) (j + 1) ≤ dp z x y i (j + 1) + 1 := by
  rw [dp_ss]
  omega
theorem dp_le2 (z : Nat) (x y : Nat → Nat) (i j : Nat) : dp z x y (i + 1) (j + 1) ≤ dp z x y (i + 1) j + 1 := by
  rw [dp_ss]
  omega
theorem dp_le3 (z : Nat) (x y : Nat → Nat) (i j : Nat) : dp z x y (i + 1) (j + 1) ≤ dp z x y i j + if x i = y j then 0 else 1 := by
  rw [dp_ss]
  exact Nat.min_le_right _ _
theorem dp_ge {z : Nat} {x y : Nat → Nat} {i j m : Nat} (h1 : m ≤ dp z x y i (j + 1) + 1) (h2 : m ≤ dp z x y (i + 1) j + 1) (h3 : m ≤ dp z x y i j + if x i = y j then 0 else 1) : m ≤ dp z x y (i + 1) (j + 1) := by
  rw [dp_ss]
  omega
theorem near_le (t w : Nat → Nat) : ∀ (b j a : Nat), a ≤ b → dp 0 t w b j ≤ dp 1 w (sh t a) j (b - a)
  | 0, j, a, h => by
    have : a = 0 := by omega
    subst this
    rw [dp_0j, dp_j0]
    exact Nat.le_refl _
  | b + 1, 0, a, h => by
    have : dp 0 t w (b + 1) 0 = 0 := by rw [dp_s0]; omega
    rw [this]
    exact Nat.zero_le _
  | b + 1, j + 1, a, h => by
    by_cases hb : a = b + 1
    · have ih := near_le t w (b + 1) j a h
      rw [hb, Nat.sub_self, dp_j0] at ih ⊢
      exact Nat.le_trans (dp_le2 0 t w b j) (by omega)
    · have hab : a ≤ b := by omega
      have e : b + 1 - a = (b - a) + 1 := by omega
      have ih1 := near_le t w (b + 1) j a h
      have ih2 := near_le t w b (j + 1) a hab
      have ih3 := near_le t w b j a hab
      rw [e] at ih1 ⊢
      have ex : sh t a (b - a) = t b := by unfold sh; congr 1; omega
      refine dp_ge ?_ ?_ ?_
      · exact Nat.le_trans (dp_le2 0 t w b j) (by omega)
      · exact Nat.le_trans (dp_le1 0 t w b j) (by omega)
      · refine Nat.le_trans (dp_le3 0 t w b j) ?_
        rw [ex]
        by_cases q : t b = w j
        · rw [if_pos q, if_pos q.symm]; exact ih3
        · rw [if_neg q, if_neg (fun z => q z.symm)]; omega
theorem near_ex (t w : Nat → Nat) : ∀ (b j : Nat), ∃ a, a ≤ b ∧ dp 1 w (sh t a) j (b - a) ≤ dp 0 t w b j
  | 0, j => ⟨0, Nat.le_refl _, by rw [dp_0j, dp_j0]; exact Nat.le_refl _⟩
  | b + 1, 0 => ⟨b + 1, Nat.le_refl _, by rw [Nat.sub_self, dp_j0]; exact Nat.zero_le _⟩
  | b + 1, j + 1 => by
    have e0 : dp 0 t w (b + 1) (j + 1) = min (min (dp 0 t w b (j + 1) + 1) (dp 0 t w (b + 1) j + 1)) (dp 0 t w b j + if t b = w j then 0 else 1) := dp_ss ..
    have hc : dp 0 t w (b + 1) (j + 1) = dp 0 t w b (j + 1) + 1 ∨ dp 0 t w (b + 1) (j + 1) = dp 0 t w (b + 1) j + 1 ∨ dp 0 t w (b + 1) (j + 1) = dp 0 t w b j + if t b = w j then 0 else 1 := by omega
    rcases hc with h | h | h
    · obtain ⟨a, ha, ih⟩ := near_ex t w b (j + 1)
      refine ⟨a, by omega, ?_⟩
      have e : b + 1 - a = (b - a) + 1 := by omega
      rw [h, e]
      exact Nat.le_trans (dp_le2 1 w (sh t a) j (b - a)) (by omega)
    · obtain ⟨a, ha, ih⟩ := near_ex t w (b + 1) j
      by_cases hb : a = b + 1
      · refine ⟨a, ha, ?_⟩
        rw [h]
        rw [hb, Nat.sub_self, dp_j0] at ih ⊢
        omega
      · refine ⟨a, ha, ?_⟩
        have e : b + 1 - a = (b - a) + 1 := by omega
        rw [h]
        rw [e] at ih ⊢
        exact Nat.le_trans (dp_le1 1 w (sh t a) j (b - a)) (by omega)
    · obtain ⟨a, ha, ih⟩ := near_ex t w b j
      refine ⟨a, by omega, ?_⟩
      have e : b + 1 - a = (b - a) + 1 := by omega
      have ex : sh t a (b - a) = t b := by unfold sh; congr 1; omega
      rw [h, e]
      refine Nat.le_trans (dp_le3 1 w (sh t a) j (b - a)) ?_
      rw [ex]
      by_cases q : t b = w j
      · rw [if_pos q, if_pos q.symm]; omega
      · rw [if_neg q, if_neg (fun z => q z.symm)]; omega
/-- no distance: the same -/
theorem dp_zero {x y : Nat → Nat} : ∀ {i j : Nat}, dp 1 x y i j = 0 → i = j ∧ ∀ k, k < i → x k = y k
  | 0, j, h => by rw [dp_0j] at h; exact ⟨h.symm, fun k hk => by omega⟩
  | i + 1, 0, h => by rw [dp_j0] at h; omega
  | i + 1, j + 1, h => by
    have e0 : dp 1 x y (i + 1) (j + 1) = min (min (dp 1 x y i (j + 1) + 1) (dp 1 x y (i + 1) j + 1)) (dp 1 x y i j + if x i = y j then 0 else 1) := dp_ss ..
    rw [e0] at h
    by_cases q : x i = y j
    · rw [if_pos q] at h
      obtain ⟨h1, h2⟩ := dp_zero (x := x) (y := y) (i := i) (j := j) (by omega)
      refine ⟨by omega, fun k hk => ?_⟩
      by_cases hki : k = i
      · subst hki; subst h1; exact q
      · exact h2 k (by omega)
    · rw [if_neg q] at h; omega
theorem dp_same {x y : Nat → Nat} : ∀ {i : Nat}, (∀ k, k < i → x k = y k) → dp 1 x y i i = 0
  | 0, _ => by rw [dp_0j]
  | i + 1, h => by
    have ih := dp_same (i := i) fun k hk => h k (by omega)
    have e := dp_le3 1 x y i i
    rw [if_pos (h i (by omega)), ih] at e
    omega
theorem dp_congr {z : Nat} {x y x' y' : Nat → Nat} : ∀ {i j : Nat}, (∀ k, k < i → x k = x' k) → (∀ k, k < j → y k = y' k) → dp z x y i j = dp z x' y' i j
  | 0, j, _, _ => by rw [dp_0j, dp_0j]
  | i + 1, 0, _, _ => by rw [dp_s0, dp_s0]
  | i + 1, j + 1, h1, h2 => by
    have a := dp_congr (z := z) (i := i) (j := j + 1) (fun k hk => h1 k (by omega)) h2
    have b := dp_congr (z := z) (i := i + 1) (j := j) h1 (fun k hk => h2 k (by omega))
    have c := dp_congr (z := z) (i := i) (j := j) (fun k hk => h1 k (by omega)) (fun k hk => h2 k (by omega))
    rw [dp_ss, dp_ss, a, b, c, h1 i (by omega), h2 j (by omega)]
/-- the bounds of what is near -/
theorem near_top (t w : Nat → Nat) (b j : Nat) : dp 0 t w b j ≤ j := by
  have := near_le t w b j b (Nat.le_refl _)
  rw [Nat.sub_self, dp_j0] at this
  exact this
end K45

set_option linter.all false
namespace K45
open DN
def cd (w : List Nat) : Nat → Nat := fun i => w.getD i 0
def rowOf (f : Nat → Nat) (n : Nat) : List D := (List.range n).map fun j => .int (f j : Nat)
theorem rowOf_get {f : Nat → Nat} {n j : Nat} (h : j < n) : (rowOf f n)[j]? = some (.int (f j : Nat)) := by
  unfold rowOf
  rw [List.getElem?_map, List.getElem?_range h]; rfl
theorem rowOf_succ (f : Nat → Nat) (n : Nat) : rowOf f (n + 1) = rowOf f n ++ [.int (f n : Nat)] := by
  unfold rowOf
  rw [List.range_succ, List.map_append]; rfl
theorem rowOf_len (f : Nat → Nat) (n : Nat) : (rowOf f n).length = n := by unfold rowOf; simp
theorem rowOf_last (f : Nat → Nat) (n : Nat) : (rowOf f (n + 1)).getLast? = some (.int (f n : Nat)) := by rw [rowOf_succ]; simp
theorem ints_row (z : Nat) (x y : Nat → Nat) (n : Nat) : intsFrom 0 n = rowOf (dp z x y 0) n := by
  rw [intsFrom_map]
  unfold rowOf
  apply List.map_congr_left
  intro j _
  rw [dp_0j]
  simp
theorem min2_nat (a b : Nat) : (if (b : Int) < a then (b : Int) else a) = ((min a b : Nat) : Int) := by
  split <;> omega
theorem min3_nat (a b c : Nat) : (if (c : Int) < (if (b : Int) < a then (b : Int) else a) then (c : Int) else if (b : Int) < a then (b : Int) else a) = ((min (min a b) c : Nat) : Int) := by
  rw [min2_nat, min2_nat]
abbrev EL (one other : List Nat) (r x3 a x5 : Slot) : Env := [.pv (.str one), .pv (.str other), r, x3, a, x5]
theorem dif_cast (p : Prop) [Decidable p] (n : Nat) : ((n : Int) + if p then (0 : Int) else 1) = ((n + if p then 0 else 1 : Nat) : Int) := by split <;> omega
theorem ite_int (p : Prop) [Decidable p] : (if p then D.int 0 else D.int 1) = D.int ((if p then 0 else 1 : Nat) : Int) := by split <;> rfl
section
variable {one other : List Nat}
theorem distance_in {i : Nat} (hi : i < one.length) (hn : other.length ≤ 900) {x5 : Slot} : ∃ ρ' S', sFor (iRange1 (eBi bLen (aCons (eV 1) (aNil)))) (gN 5) b__law_distance_1 (EL one other (.pv (.lst (rowOf (dp 1 (cd one) (cd other) i) (other.length + 1)))) (.pv (.int (i : Nat))) (.own (rowOf (dp 1 (cd one) (cd other) (i + 1)) 1)) x5) .off = .ok (.nx ρ') S' ∧
    ∃ x5, ρ' = EL one other (.pv (.lst (rowOf (dp 1 (cd one) (cd other) i) (other.length + 1)))) (.pv (.int (i : Nat))) (.own (rowOf (dp 1 (cd one) (cd other) (i + 1)) (other.length + 1))) x5 ∧ S' = .off := by
  have hit : iRange1 (eBi bLen (aCons (eV 1) (aNil))) (EL one other (.pv (.lst (rowOf (dp 1 (cd one) (cd other) i) (other.length + 1)))) (.pv (.int (i : Nat))) (.own (rowOf (dp 1 (cd one) (cd other) (i + 1)) 1)) x5) .off = .ok (intsFrom 0 other.length) .off := by
    unfold iRange1
    simp only [sSeq, sSet, sOwn, sRet, sIf, sNext, sApp, sFrz, sAug, sPar2, sPar3, xE, xL, eV, eB, eC, DN.e1, DN.e2, eIf, eBi, eTup, eLst, aCons, aNil, tVal, tTruth, tAnd, tOr, tNot, tYes, lLst, eL, eSl, oNo, oSome, eAnd, eNotT, bind_def, M.bind, M.pure, nx_ok, M.of, gN, gT, gsCons, gsNil, Option.bind_some, Option.map_some, List.getElem?_cons_zero, List.getElem?_cons_succ, List.set_cons_zero, List.set_cons_succ, List.length_cons, List.length_nil, Nat.reduceAdd, Nat.reduceLT, Nat.zero_lt_succ, if_true, ite_true, if_false, ite_false, Bool.false_eq_true, and_self, D.add, D.iadd, D.sub, D.neg, D.gt, D.lt, bMin2, bMin3, bMax2, bLen, D.size, D.truth, eq_chr, ne_chr, eq_int, ne_int, ite_pure, lim0, lim1, lim2, lim3, Nat.zero_add, decide_eq_true_eq, Bool.not_eq_true', decide_eq_false_iff_not]
    rw [if_pos ⟨by unfold BIG; omega, by unfold LIM; omega⟩]
    rfl
  obtain ⟨ρ', S', h1, h2⟩ := for_inv (g := gN 5) (b := b__law_distance_1) (fun j ρ S => ∃ x5, ρ = EL one other (.pv (.lst (rowOf (dp 1 (cd one) (cd other) i) (other.length + 1)))) (.pv (.int (i : Nat))) (.own (rowOf (dp 1 (cd one) (cd other) (i + 1)) (j + 1))) x5 ∧ S = .off) hit ⟨_, rfl, rfl⟩ (by
    rintro j d ρ S hd ⟨x5, rfl, rfl⟩
    rw [rangeD_get] at hd
    by_cases hj : j < other.length
    · rw [if_pos hj] at hd
      cases hd
      rw [Int.zero_add]
      refine ⟨_, _, .off, rfl, ?_, .pv (.int (j : Nat)), rfl, rfl⟩
      have e1 : D.ix (.lst (rowOf (dp 1 (cd one) (cd other) i) (other.length + 1))) (.int ((j : Int) + 1)) = some _ := ix_lst (i := j + 1) (rowOf_get (by omega))
      have e2 := ix_lst (rowOf_get (f := dp 1 (cd one) (cd other) (i + 1)) (n := j + 1) (j := j) (by omega))
      have e3 := ix_lst (rowOf_get (f := dp 1 (cd one) (cd other) i) (n := other.length + 1) (j := j) (by omega))
      have hl : (rowOf (dp 1 (cd one) (cd other) (i + 1)) (j + 1)).length < LIM := by rw [rowOf_len]; unfold LIM; omega
      unfold b__law_distance_1
      simp only [sSeq, sSet, sOwn, sRet, sIf, sNext, sApp, sFrz, sAug, sPar2, sPar3, xE, xL, eV, eB, eC, DN.e1, DN.e2, eIf, eBi, eTup, eLst, aCons, aNil, tVal, tTruth, tAnd, tOr, tNot, tYes, lLst, eL, eSl, oNo, oSome, eAnd, eNotT, bind_def, M.bind, M.pure, nx_ok, M.of, gN, gT, gsCons, gsNil, Option.bind_some, Option.map_some, List.getElem?_cons_zero, List.getElem?_cons_succ, List.set_cons_zero, List.set_cons_succ, List.length_cons, List.length_nil, Nat.reduceAdd, Nat.reduceLT, Nat.zero_lt_succ, if_true, ite_true, if_false, ite_false, Bool.false_eq_true, and_self, D.add, D.iadd, D.sub, D.neg, D.gt, D.lt, bMin2, bMin3, bMax2, bLen, D.size, D.truth, eq_chr, ne_chr, eq_int, ne_int, ite_pure, lim0, lim1, lim2, lim3, Nat.zero_add, decide_eq_true_eq, Bool.not_eq_true', decide_eq_false_iff_not, e1, e2, e3, ix_str hi, ix_str hj, hl, ite_int]
      rw [rowOf_succ _ (j + 1), dp_ss]
      have key := min3_nat (dp 1 (cd one) (cd other) i (j + 1) + 1) (dp 1 (cd one) (cd other) (i + 1) j + 1) (dp 1 (cd one) (cd other) i j + if one.getD i 0 = other.getD j 0 then 0 else 1)
      simp only [Int.natCast_add, Int.natCast_one] at key
      rw [key]
      rfl
    · rw [if_neg hj] at hd; cases hd)
  rw [rangeD_len] at h2
  exact ⟨ρ', S', h1, h2⟩
theorem law_distance_run (hn : other.length ≤ 900) (hm : one.length ≤ 900) : f__law_distance [.str one, .str other] = .ok (.int (dp 1 (cd one) (cd other) one.length other.length : Nat)) .off := by
  refine bodyF_ret rfl ?_
  show d__law_distance (EL one other .no .no .no .no) .off = _
  have h0 : sSet (gN 2) (eL (lRange1 (e2 D.add (eBi bLen (aCons (eV 1) (aNil))) (eC (.int 1))))) (EL one other .no .no .no .no) .off = .ok (.nx (EL one other (.pv (.lst (rowOf (dp 1 (cd one) (cd other) 0) (other.length + 1)))) .no .no .no)) .off := by
    have hr := range1_ok (a := e2 D.add (eBi bLen (aCons (eV 1) (aNil))) (eC (.int 1))) (ρ := EL one other .no .no .no .no) (S := .off) (S' := .off) (n := other.length + 1) (by simp only [sSeq, sSet, sOwn, sRet, sIf, sNext, sApp, sFrz, sAug, sPar2, sPar3, xE, xL, eV, eB, eC, DN.e1, DN.e2, eIf, eBi, eTup, eLst, aCons, aNil, tVal, tTruth, tAnd, tOr, tNot, tYes, lLst, eL, eSl, oNo, oSome, eAnd, eNotT, bind_def, M.bind, M.pure, nx_ok, M.of, gN, gT, gsCons, gsNil, Option.bind_some, Option.map_some, List.getElem?_cons_zero, List.getElem?_cons_succ, List.set_cons_zero, List.set_cons_succ, List.length_cons, List.length_nil, Nat.reduceAdd, Nat.reduceLT, Nat.zero_lt_succ, if_true, ite_true, if_false, ite_false, Bool.false_eq_true, and_self, D.add, D.iadd, D.sub, D.neg, D.gt, D.lt, bMin2, bMin3, bMax2, bLen, D.size, D.truth, eq_chr, ne_chr, eq_int, ne_int, ite_pure, lim0, lim1, lim2, lim3, Nat.zero_add, decide_eq_true_eq, Bool.not_eq_true', decide_eq_false_iff_not]; rfl) (lim_le (by omega))
    unfold sSet
    rw [bind_ok (eL_ok (l := lRange1 _) hr), ints_row 1 (cd one) (cd other)]
    rfl
  have hit : iRange1 (eBi bLen (aCons (eV 0) (aNil))) (EL one other (.pv (.lst (rowOf (dp 1 (cd one) (cd other) 0) (other.length + 1)))) .no .no .no) .off = .ok (intsFrom 0 one.length) .off := by
    exact range1_ok (by simp only [sSeq, sSet, sOwn, sRet, sIf, sNext, sApp, sFrz, sAug, sPar2, sPar3, xE, xL, eV, eB, eC, DN.e1, DN.e2, eIf, eBi, eTup, eLst, aCons, aNil, tVal, tTruth, tAnd, tOr, tNot, tYes, lLst, eL, eSl, oNo, oSome, eAnd, eNotT, bind_def, M.bind, M.pure, nx_ok, M.of, gN, gT, gsCons, gsNil, Option.bind_some, Option.map_some, List.getElem?_cons_zero, List.getElem?_cons_succ, List.set_cons_zero, List.set_cons_succ, List.length_cons, List.length_nil, Nat.reduceAdd, Nat.reduceLT, Nat.zero_lt_succ, if_true, ite_true, if_false, ite_false, Bool.false_eq_true, and_self, D.add, D.iadd, D.sub, D.neg, D.gt, D.lt, bMin2, bMin3, bMax2, bLen, D.size, D.truth, eq_chr, ne_chr, eq_int, ne_int, ite_pure, lim0, lim1, lim2, lim3, Nat.zero_add, decide_eq_true_eq, Bool.not_eq_true', decide_eq_false_iff_not]) (lim_le (by omega))
  obtain ⟨ρ', S', h1, x3, x4, x5, rfl, rfl⟩ := for_inv (g := gN 3) (b := b__law_distance_2) (fun i ρ S => ∃ x3 x4 x5, ρ = EL one other (.pv (.lst (rowOf (dp 1 (cd one) (cd other) i) (other.length + 1)))) x3 x4 x5 ∧ S = .off) hit ⟨_, _, _, rfl, rfl⟩ (by
    rintro i d ρ S hd ⟨x3, x4, x5, rfl, rfl⟩
    rw [rangeD_get] at hd
    by_cases hi : i < one.length
    · rw [if_pos hi] at hd
      cases hd
      rw [Int.zero_add]
      obtain ⟨ρ', S', k1, x5', rfl, rfl⟩ := distance_in (one := one) (other := other) hi hn (x5 := x5)
      refine ⟨_, _, .off, rfl, ?_, .pv (.int (i : Nat)), .pv (.lst (rowOf (dp 1 (cd one) (cd other) (i + 1)) (other.length + 1))), x5', rfl, rfl⟩
      unfold b__law_distance_2
      rw [seq_nx (ρ' := EL one other (.pv (.lst (rowOf (dp 1 (cd one) (cd other) i) (other.length + 1)))) (.pv (.int (i : Nat))) (.own (rowOf (dp 1 (cd one) (cd other) (i + 1)) 1)) x5) (S' := .off) ?_]
      · rw [seq_nx k1]
        simp only [sSeq, sSet, sOwn, sRet, sIf, sNext, sApp, sFrz, sAug, sPar2, sPar3, xE, xL, eV, eB, eC, DN.e1, DN.e2, eIf, eBi, eTup, eLst, aCons, aNil, tVal, tTruth, tAnd, tOr, tNot, tYes, lLst, eL, eSl, oNo, oSome, eAnd, eNotT, bind_def, M.bind, M.pure, nx_ok, M.of, gN, gT, gsCons, gsNil, Option.bind_some, Option.map_some, List.getElem?_cons_zero, List.getElem?_cons_succ, List.set_cons_zero, List.set_cons_succ, List.length_cons, List.length_nil, Nat.reduceAdd, Nat.reduceLT, Nat.zero_lt_succ, if_true, ite_true, if_false, ite_false, Bool.false_eq_true, and_self, D.add, D.iadd, D.sub, D.neg, D.gt, D.lt, bMin2, bMin3, bMax2, bLen, D.size, D.truth, eq_chr, ne_chr, eq_int, ne_int, ite_pure, lim0, lim1, lim2, lim3, Nat.zero_add, decide_eq_true_eq, Bool.not_eq_true', decide_eq_false_iff_not]
      · simp only [sSeq, sSet, sOwn, sRet, sIf, sNext, sApp, sFrz, sAug, sPar2, sPar3, xE, xL, eV, eB, eC, DN.e1, DN.e2, eIf, eBi, eTup, eLst, aCons, aNil, tVal, tTruth, tAnd, tOr, tNot, tYes, lLst, eL, eSl, oNo, oSome, eAnd, eNotT, bind_def, M.bind, M.pure, nx_ok, M.of, gN, gT, gsCons, gsNil, Option.bind_some, Option.map_some, List.getElem?_cons_zero, List.getElem?_cons_succ, List.set_cons_zero, List.set_cons_succ, List.length_cons, List.length_nil, Nat.reduceAdd, Nat.reduceLT, Nat.zero_lt_succ, if_true, ite_true, if_false, ite_false, Bool.false_eq_true, and_self, D.add, D.iadd, D.sub, D.neg, D.gt, D.lt, bMin2, bMin3, bMax2, bLen, D.size, D.truth, eq_chr, ne_chr, eq_int, ne_int, ite_pure, lim0, lim1, lim2, lim3, Nat.zero_add, decide_eq_true_eq, Bool.not_eq_true', decide_eq_false_iff_not]
        have e : rowOf (dp 1 (cd one) (cd other) (i + 1)) 1 = [.int (((i + 1 : Nat)) : Int)] := by
          show [D.int _] = _
          rw [dp_j0]
        rw [e]
        rfl
    · rw [if_neg hi] at hd; cases hd)
  rw [rangeD_len] at h1
  unfold d__law_distance
  rw [seq_nx h0, seq_nx h1]
  have e1 := ix_lstL (rowOf_last (dp 1 (cd one) (cd other) one.length) other.length)
  simp only [sSeq, sSet, sOwn, sRet, sIf, sNext, sApp, sFrz, sAug, sPar2, sPar3, xE, xL, eV, eB, eC, DN.e1, DN.e2, eIf, eBi, eTup, eLst, aCons, aNil, tVal, tTruth, tAnd, tOr, tNot, tYes, lLst, eL, eSl, oNo, oSome, eAnd, eNotT, bind_def, M.bind, M.pure, nx_ok, M.of, gN, gT, gsCons, gsNil, Option.bind_some, Option.map_some, List.getElem?_cons_zero, List.getElem?_cons_succ, List.set_cons_zero, List.set_cons_succ, List.length_cons, List.length_nil, Nat.reduceAdd, Nat.reduceLT, Nat.zero_lt_succ, if_true, ite_true, if_false, ite_false, Bool.false_eq_true, and_self, D.add, D.iadd, D.sub, D.neg, D.gt, D.lt, bMin2, bMin3, bMax2, bLen, D.size, D.truth, eq_chr, ne_chr, eq_int, ne_int, ite_pure, lim0, lim1, lim2, lim3, Nat.zero_add, decide_eq_true_eq, Bool.not_eq_true', decide_eq_false_iff_not, e1]
end
end K45

set_option linter.all false
namespace K45
open DN
def tab (z : Nat) (x y : Nat → Nat) (n i : Nat) : List D := (List.range i).map fun k => .lst (rowOf (dp z x y k) n)
theorem tab_get {z : Nat} {x y : Nat → Nat} {n i k : Nat} (h : k < i) : (tab z x y n i)[k]? = some (.lst (rowOf (dp z x y k) n)) := by
  unfold tab
  rw [List.getElem?_map, List.getElem?_range h]; rfl
theorem tab_succ (z : Nat) (x y : Nat → Nat) (n i : Nat) : tab z x y n (i + 1) = tab z x y n i ++ [.lst (rowOf (dp z x y i) n)] := by
  unfold tab
  rw [List.range_succ, List.map_append]; rfl
theorem tab_len (z : Nat) (x y : Nat → Nat) (n i : Nat) : (tab z x y n i).length = i := by unfold tab; simp
theorem tab_last (z : Nat) (x y : Nat → Nat) (n i : Nat) : (tab z x y n (i + 1)).getLast? = some (.lst (rowOf (dp z x y i) n)) := by rw [tab_succ]; simp
theorem tab_one (z : Nat) (x y : Nat → Nat) (n : Nat) : tab z x y n 1 = [.lst (rowOf (dp z x y 0) n)] := by rw [tab_succ]; rfl
def chs (x : List Nat) : List D := x.map fun c => .str [c]
theorem chs_get {x : List Nat} {i : Nat} (h : i < x.length) : (chs x)[i]? = some (.str [cd x i]) := by
  unfold chs cd
  rw [List.getElem?_map, List.getElem?_eq_getElem h]
  simp [h]
theorem chs_len (x : List Nat) : (chs x).length = x.length := by unfold chs; simp
theorem min2_cell (a b c : Nat) : (if (c : Int) < ((if (b : Int) < a then (b : Int) else a) + 1) then (c : Int) else ((if (b : Int) < a then (b : Int) else a) + 1)) = ((min (min (a + 1) (b + 1)) c : Nat) : Int) := by
  rw [min2_nat]
  have h := min2_nat (min a b + 1) c
  rw [Int.natCast_add, Int.natCast_one] at h
  rw [h]
  congr 1
  omega
section
variable {text word : List Nat}
/-! near_rows -/
abbrev EN (text word : List Nat) (r : List D) (x3 x4 x5 x6 x7 : Slot) : Env := [.pv (.str text), .pv (.str word), .own r, x3, x4, x5, x6, x7]
theorem near_in {b : Nat} (hb : b < text.length) (hn : word.length ≤ 900) {x5 x6 x7 : Slot} : ∃ ρ' S', sFor (iEnum (eV 1)) (gT (gsCons (gN 5) (gsCons (gN 6) (gsNil)))) b_near_rows_1 (EN text word (tab 0 (cd text) (cd word) (word.length + 1) (b + 1)) (.pv (.str [cd text b])) (.own (rowOf (dp 0 (cd text) (cd word) (b + 1)) 1)) x5 x6 x7) .off = .ok (.nx ρ') S' ∧
    ∃ x5 x6 x7, ρ' = EN text word (tab 0 (cd text) (cd word) (word.length + 1) (b + 1)) (.pv (.str [cd text b])) (.own (rowOf (dp 0 (cd text) (cd word) (b + 1)) (word.length + 1))) x5 x6 x7 ∧ S' = .off := by
  have hit : iEnum (eV 1) (EN text word (tab 0 (cd text) (cd word) (word.length + 1) (b + 1)) (.pv (.str [cd text b])) (.own (rowOf (dp 0 (cd text) (cd word) (b + 1)) 1)) x5 x6 x7) .off = .ok (enumFrom 0 (chs word)) .off := rfl
  obtain ⟨ρ', S', h1, h2⟩ := for_nx (g := gT (gsCons (gN 5) (gsCons (gN 6) (gsNil)))) (b := b_near_rows_1) (fun j ρ S => ∃ x5 x6 x7, ρ = EN text word (tab 0 (cd text) (cd word) (word.length + 1) (b + 1)) (.pv (.str [cd text b])) (.own (rowOf (dp 0 (cd text) (cd word) (b + 1)) (j + 1))) x5 x6 x7 ∧ S = .off) hit ⟨_, _, _, rfl, rfl⟩ (by
    rintro j d ρ S hd ⟨x5, x6, x7, rfl, rfl⟩
    rw [enumD_get] at hd
    by_cases hj : j < word.length
    · rw [chs_get hj] at hd
      cases hd
      rw [Nat.zero_add]
      refine ⟨_, rfl, ?_⟩
      have e0 := ix_lstL (tab_last 0 (cd text) (cd word) (word.length + 1) b)
      have e1 : D.ix (.lst (rowOf (dp 0 (cd text) (cd word) b) (word.length + 1))) (.int ((j : Int) + 1)) = some _ := ix_lst (i := j + 1) (rowOf_get (by omega))
      have e2 := ix_lst (rowOf_get (f := dp 0 (cd text) (cd word) (b + 1)) (n := j + 1) (j := j) (by omega))
      have e3 := ix_lst (rowOf_get (f := dp 0 (cd text) (cd word) b) (n := word.length + 1) (j := j) (by omega))
      have hl : (rowOf (dp 0 (cd text) (cd word) (b + 1)) (j + 1)).length < LIM := by rw [rowOf_len]; exact lim_lt' (by omega)
      unfold b_near_rows_1
      simp only [sSeq, sSet, sOwn, sRet, sIf, sNext, sApp, sFrz, sAug, sPar2, sPar3, xE, xL, eV, eB, eC, DN.e1, DN.e2, eIf, eBi, eTup, eLst, aCons, aNil, tVal, tTruth, tAnd, tOr, tNot, tYes, lLst, eL, eSl, oNo, oSome, eAnd, eNotT, bind_def, M.bind, M.pure, nx_ok, M.of, gN, gT, gsCons, gsNil, Option.bind_some, Option.map_some, List.getElem?_cons_zero, List.getElem?_cons_succ, List.set_cons_zero, List.set_cons_succ, List.length_cons, List.length_nil, Nat.reduceAdd, Nat.reduceLT, Nat.zero_lt_succ, if_true, ite_true, if_false, ite_false, Bool.false_eq_true, and_self, D.add, D.iadd, D.sub, D.neg, D.gt, D.lt, bMin2, bMin3, bMax2, bLen, D.size, D.truth, eq_chr, ne_chr, eq_int, ne_int, ite_pure, lim0, lim1, lim2, lim3, Nat.zero_add, decide_eq_true_eq, Bool.not_eq_true', decide_eq_false_iff_not, e0, e1, e2, e3, hl, ite_int]
      have key := min2_cell (dp 0 (cd text) (cd word) b (j + 1)) (dp 0 (cd text) (cd word) (b + 1) j) (dp 0 (cd text) (cd word) b j + if cd text b = cd word j then 0 else 1)
      simp only [Int.natCast_add, Int.natCast_one] at key
      rw [rowOf_succ _ (j + 1), dp_ss, ← key]
      exact ⟨_, _, _, rfl, trivial⟩
    · rw [List.getElem?_eq_none (by rw [chs_len]; omega)] at hd; cases hd)
  rw [enumD_len, chs_len] at h2
  exact ⟨ρ', S', h1, h2⟩
theorem near_rows_run (hn : word.length ≤ 900) (hm : text.length ≤ 900) : f_near_rows [.str text, .str word] = .ok (.lst (tab 0 (cd text) (cd word) (word.length + 1) (text.length + 1))) .off := by
  refine bodyF_ret rfl ?_
  show d_near_rows [.pv (.str text), .pv (.str word), .no, .no, .no, .no, .no, .no] .off = _
  have h0 : sOwn 2 (lLst (aCons (eL (lRange1 (e2 D.add (eBi bLen (aCons (eV 1) (aNil))) (eC (.int 1))))) (aNil))) [.pv (.str text), .pv (.str word), .no, .no, .no, .no, .no, .no] .off = .ok (.nx (EN text word (tab 0 (cd text) (cd word) (word.length + 1) 1) .no .no .no .no .no)) .off := by
    have hr := range1_ok (a := e2 D.add (eBi bLen (aCons (eV 1) (aNil))) (eC (.int 1))) (ρ := [.pv (.str text), .pv (.str word), .no, .no, .no, .no, .no, .no]) (S := .off) (S' := .off) (n := word.length + 1) (by simp only [sSeq, sSet, sOwn, sRet, sIf, sNext, sApp, sFrz, sAug, sPar2, sPar3, xE, xL, eV, eB, eC, DN.e1, DN.e2, eIf, eBi, eTup, eLst, aCons, aNil, tVal, tTruth, tAnd, tOr, tNot, tYes, lLst, eL, eSl, oNo, oSome, eAnd, eNotT, bind_def, M.bind, M.pure, nx_ok, M.of, gN, gT, gsCons, gsNil, Option.bind_some, Option.map_some, List.getElem?_cons_zero, List.getElem?_cons_succ, List.set_cons_zero, List.set_cons_succ, List.length_cons, List.length_nil, Nat.reduceAdd, Nat.reduceLT, Nat.zero_lt_succ, if_true, ite_true, if_false, ite_false, Bool.false_eq_true, and_self, D.add, D.iadd, D.sub, D.neg, D.gt, D.lt, bMin2, bMin3, bMax2, bLen, D.size, D.truth, eq_chr, ne_chr, eq_int, ne_int, ite_pure, lim0, lim1, lim2, lim3, Nat.zero_add, decide_eq_true_eq, Bool.not_eq_true', decide_eq_false_iff_not]; rfl) (lim_le (by omega))
    have hl := eL_ok (l := lRange1 (e2 D.add (eBi bLen (aCons (eV 1) (aNil))) (eC (.int 1)))) hr
    rw [ints_row 0 (cd text) (cd word)] at hl
    rw [own_one hl (by show 2 < 8; omega), tab_one]
    rfl
  obtain ⟨ρ', S', h1, x3, x4, x5, x6, x7, rfl, rfl⟩ := for_nx (it := iOf (eV 0)) (g := gN 3) (b := b_near_rows_2) (ρ := EN text word (tab 0 (cd text) (cd word) (word.length + 1) 1) .no .no .no .no .no) (S := .off) (S1 := .off) (ds := chs text)
    (fun b ρ S => ∃ x3 x4 x5 x6 x7, ρ = EN text word (tab 0 (cd text) (cd word) (word.length + 1) (b + 1)) x3 x4 x5 x6 x7 ∧ S = .off) rfl ⟨_, _, _, _, _, rfl, rfl⟩ (by
    rintro b d ρ S hd ⟨x3, x4, x5, x6, x7, rfl, rfl⟩
    by_cases hb : b < text.length
    · rw [chs_get hb] at hd
      cases hd
      refine ⟨_, rfl, ?_⟩
      obtain ⟨ρ', S', k1, x5', x6', x7', rfl, rfl⟩ := near_in (text := text) (word := word) hb hn (x5 := x5) (x6 := x6) (x7 := x7)
      have k0 : sOwn 4 (lLst (aCons (eC (.int 0)) (aNil))) (EN text word (tab 0 (cd text) (cd word) (word.length + 1) (b + 1)) (.pv (.str [cd text b])) x4 x5 x6 x7) .off = .ok (.nx (EN text word (tab 0 (cd text) (cd word) (word.length + 1) (b + 1)) (.pv (.str [cd text b])) (.own (rowOf (dp 0 (cd text) (cd word) (b + 1)) 1)) x5 x6 x7)) .off := by
        simp only [sSeq, sSet, sOwn, sRet, sIf, sNext, sApp, sFrz, sAug, sPar2, sPar3, xE, xL, eV, eB, eC, DN.e1, DN.e2, eIf, eBi, eTup, eLst, aCons, aNil, tVal, tTruth, tAnd, tOr, tNot, tYes, lLst, eL, eSl, oNo, oSome, eAnd, eNotT, bind_def, M.bind, M.pure, nx_ok, M.of, gN, gT, gsCons, gsNil, Option.bind_some, Option.map_some, List.getElem?_cons_zero, List.getElem?_cons_succ, List.set_cons_zero, List.set_cons_succ, List.length_cons, List.length_nil, Nat.reduceAdd, Nat.reduceLT, Nat.zero_lt_succ, if_true, ite_true, if_false, ite_false, Bool.false_eq_true, and_self, D.add, D.iadd, D.sub, D.neg, D.gt, D.lt, bMin2, bMin3, bMax2, bLen, D.size, D.truth, eq_chr, ne_chr, eq_int, ne_int, ite_pure, lim0, lim1, lim2, lim3, Nat.zero_add, decide_eq_true_eq, Bool.not_eq_true', decide_eq_false_iff_not]
        have e : rowOf (dp 0 (cd text) (cd word) (b + 1)) 1 = [.int 0] := by
          show [D.int _] = _
          rw [dp_s0, Nat.zero_mul]; rfl
        rw [e]
      unfold b_near_rows_2
      show Nx (sSeq _ _ (EN text word (tab 0 (cd text) (cd word) (word.length + 1) (b + 1)) (.pv (.str [cd text b])) x4 x5 x6 x7) .off) _
      rw [seq_nx k0, seq_nx k1]
      have hl : (tab 0 (cd text) (cd word) (word.length + 1) (b + 1)).length < LIM := by rw [tab_len]; exact lim_lt' (by omega)
      simp only [sSeq, sSet, sOwn, sRet, sIf, sNext, sApp, sFrz, sAug, sPar2, sPar3, xE, xL, eV, eB, eC, DN.e1, DN.e2, eIf, eBi, eTup, eLst, aCons, aNil, tVal, tTruth, tAnd, tOr, tNot, tYes, lLst, eL, eSl, oNo, oSome, eAnd, eNotT, bind_def, M.bind, M.pure, nx_ok, M.of, gN, gT, gsCons, gsNil, Option.bind_some, Option.map_some, List.getElem?_cons_zero, List.getElem?_cons_succ, List.set_cons_zero, List.set_cons_succ, List.length_cons, List.length_nil, Nat.reduceAdd, Nat.reduceLT, Nat.zero_lt_succ, if_true, ite_true, if_false, ite_false, Bool.false_eq_true, and_self, D.add, D.iadd, D.sub, D.neg, D.gt, D.lt, bMin2, bMin3, bMax2, bLen, D.size, D.truth, eq_chr, ne_chr, eq_int, ne_int, ite_pure, lim0, lim1, lim2, lim3, Nat.zero_add, decide_eq_true_eq, Bool.not_eq_true', decide_eq_false_iff_not, hl]
      rw [tab_succ _ _ _ _ (b + 1)]
      exact ⟨_, _, _, _, _, rfl, trivial⟩
    · rw [List.getElem?_eq_none (by rw [chs_len]; omega)] at hd; cases hd)
  rw [chs_len] at h1
  unfold d_near_rows
  rw [seq_nx h0, seq_nx h1]
  simp only [sSeq, sSet, sOwn, sRet, sIf, sNext, sApp, sFrz, sAug, sPar2, sPar3, xE, xL, eV, eB, eC, DN.e1, DN.e2, eIf, eBi, eTup, eLst, aCons, aNil, tVal, tTruth, tAnd, tOr, tNot, tYes, lLst, eL, eSl, oNo, oSome, eAnd, eNotT, bind_def, M.bind, M.pure, nx_ok, M.of, gN, gT, gsCons, gsNil, Option.bind_some, Option.map_some, List.getElem?_cons_zero, List.getElem?_cons_succ, List.set_cons_zero, List.set_cons_succ, List.length_cons, List.length_nil, Nat.reduceAdd, Nat.reduceLT, Nat.zero_lt_succ, if_true, ite_true, if_false, ite_false, Bool.false_eq_true, and_self, D.add, D.iadd, D.sub, D.neg, D.gt, D.lt, bMin2, bMin3, bMax2, bLen, D.size, D.truth, eq_chr, ne_chr, eq_int, ne_int, ite_pure, lim0, lim1, lim2, lim3, Nat.zero_add, decide_eq_true_eq, Bool.not_eq_true', decide_eq_false_iff_not]
end
end K45

set_option linter.all false
namespace K45
open DN
section
variable {text word : List Nat}
def lastD : D → D
  | .lst xs => xs.getLast?.getD .non
  | _ => .non
theorem lastD_row (f : Nat → Nat) (n : Nat) : lastD (.lst (rowOf f (n + 1))) = .int (f n : Nat) := by
  show ((rowOf f (n + 1)).getLast?).getD .non = _
  rw [rowOf_last]
  rfl
theorem near_ends_run (hn : word.length ≤ 900) (hm : text.length ≤ 900) : f_near_ends [.str text, .str word] = .ok (.tup (rowOf (fun b => dp 0 (cd text) (cd word) b word.length) (text.length + 1))) .off := by
  refine bodyF_ret rfl ?_
  show d_near_ends [.pv (.str text), .pv (.str word), .no] .off = _
  have hi : iOf (eCall f_near_rows (aCons (eV 0) (aCons (eV 1) aNil))) [.pv (.str text), .pv (.str word), .no] .off = .ok (tab 0 (cd text) (cd word) (word.length + 1) (text.length + 1)) .off := by
    have hc := call_ok (F := f_near_rows) (as := aCons (eV 0) (aCons (eV 1) aNil)) (ρ := [.pv (.str text), .pv (.str word), .no]) (S := .off) (ds := [.str text, .str word]) (S1 := .off) rfl (near_rows_run hn hm)
    unfold iOf
    rw [bind_ok hc]
    rfl
  have hg := gather_all (g := gN 2) (e := e2 D.ix (eV 2) (e1 D.neg (eC (.int 1)))) (ρ := [.pv (.str text), .pv (.str word), .no]) (S := .off) lastD (ds := tab 0 (cd text) (cd word) (word.length + 1) (text.length + 1)) (by
    intro d hd
    obtain ⟨b, _, rfl⟩ := List.mem_map.mp hd
    refine ⟨_, rfl, ?_⟩
    have e := ix_lstL (rowOf_last (dp 0 (cd text) (cd word) b) word.length)
    rw [lastD_row]
    show e2 D.ix (eV 2) (e1 D.neg (eC (.int 1))) [.pv (.str text), .pv (.str word), .pv (.lst (rowOf (dp 0 (cd text) (cd word) b) (word.length + 1)))] .off = _
    simp only [sSeq, sSet, sOwn, sRet, sIf, sNext, sApp, sFrz, sAug, sPar2, sPar3, xE, xL, eV, eB, eC, DN.e1, DN.e2, eIf, eBi, eTup, eLst, aCons, aNil, tVal, tTruth, tAnd, tOr, tNot, tYes, lLst, eL, eSl, oNo, oSome, eAnd, eNotT, bind_def, M.bind, M.pure, nx_ok, M.of, gN, gT, gsCons, gsNil, Option.bind_some, Option.map_some, List.getElem?_cons_zero, List.getElem?_cons_succ, List.set_cons_zero, List.set_cons_succ, List.length_cons, List.length_nil, Nat.reduceAdd, Nat.reduceLT, Nat.zero_lt_succ, if_true, ite_true, if_false, ite_false, Bool.false_eq_true, and_self, D.add, D.iadd, D.sub, D.neg, D.gt, D.lt, bMin2, bMin3, bMax2, bLen, D.size, D.truth, eq_chr, ne_chr, eq_int, ne_int, ite_pure, lim0, lim1, lim2, lim3, Nat.zero_add, decide_eq_true_eq, Bool.not_eq_true', decide_eq_false_iff_not, e])
  have hm : (tab 0 (cd text) (cd word) (word.length + 1) (text.length + 1)).map lastD = rowOf (fun b => dp 0 (cd text) (cd word) b word.length) (text.length + 1) := by
    unfold tab
    rw [List.map_map]
    show _ = (List.range (text.length + 1)).map _
    apply List.map_congr_left
    intro b _
    show lastD (.lst _) = _
    rw [lastD_row]
  rw [hm] at hg
  have hl := eL_ok (lc_ok (vs := [2]) (c := tYes) hi hg)
  exact ret_ok (bi_ok (aone_ok hl) rfl)
end
section
variable {one other : List Nat}
abbrev ET (one other : List Nat) (r : List D) (x3 x4 x5 x6 x7 x8 : Slot) : Env := [.pv (.str one), .pv (.str other), .own r, x3, x4, x5, x6, x7, x8]
theorem table_in {i : Nat} (hi : i < one.length) (hn : other.length ≤ 900) {x6 x7 x8 : Slot} : ∃ ρ' S', sFor (iEnum (eV 1)) (gT (gsCons (gN 6) (gsCons (gN 7) (gsNil)))) b_distance_table_1 (ET one other (tab 1 (cd one) (cd other) (other.length + 1) (i + 1)) (.pv (.int (i : Nat))) (.pv (.str [cd one i])) (.own (rowOf (dp 1 (cd one) (cd other) (i + 1)) 1)) x6 x7 x8) .off = .ok (.nx ρ') S' ∧
    ∃ x6 x7 x8, ρ' = ET one other (tab 1 (cd one) (cd other) (other.length + 1) (i + 1)) (.pv (.int (i : Nat))) (.pv (.str [cd one i])) (.own (rowOf (dp 1 (cd one) (cd other) (i + 1)) (other.length + 1))) x6 x7 x8 ∧ S' = .off := by
  have hit : iEnum (eV 1) (ET one other (tab 1 (cd one) (cd other) (other.length + 1) (i + 1)) (.pv (.int (i : Nat))) (.pv (.str [cd one i])) (.own (rowOf (dp 1 (cd one) (cd other) (i + 1)) 1)) x6 x7 x8) .off = .ok (enumFrom 0 (chs other)) .off := rfl
  obtain ⟨ρ', S', h1, h2⟩ := for_nx (g := gT (gsCons (gN 6) (gsCons (gN 7) (gsNil)))) (b := b_distance_table_1) (fun j ρ S => ∃ x6 x7 x8, ρ = ET one other (tab 1 (cd one) (cd other) (other.length + 1) (i + 1)) (.pv (.int (i : Nat))) (.pv (.str [cd one i])) (.own (rowOf (dp 1 (cd one) (cd other) (i + 1)) (j + 1))) x6 x7 x8 ∧ S = .off) hit ⟨_, _, _, rfl, rfl⟩ (by
    rintro j d ρ S hd ⟨x6, x7, x8, rfl, rfl⟩
    rw [enumD_get] at hd
    by_cases hj : j < other.length
    · rw [chs_get hj] at hd
      cases hd
      rw [Nat.zero_add]
      refine ⟨_, rfl, ?_⟩
      have e0 := ix_lst (tab_get (z := 1) (x := cd one) (y := cd other) (n := other.length + 1) (i := i + 1) (k := i) (by omega))
      have e1 : D.ix (.lst (rowOf (dp 1 (cd one) (cd other) i) (other.length + 1))) (.int ((j : Int) + 1)) = some _ := ix_lst (i := j + 1) (rowOf_get (by omega))
      have e2 := ix_lst (rowOf_get (f := dp 1 (cd one) (cd other) (i + 1)) (n := j + 1) (j := j) (by omega))
      have e3 := ix_lst (rowOf_get (f := dp 1 (cd one) (cd other) i) (n := other.length + 1) (j := j) (by omega))
      have hl : (rowOf (dp 1 (cd one) (cd other) (i + 1)) (j + 1)).length < LIM := by rw [rowOf_len]; exact lim_lt' (by omega)
      unfold b_distance_table_1
      simp only [sSeq, sSet, sOwn, sRet, sIf, sNext, sApp, sFrz, sAug, sPar2, sPar3, xE, xL, eV, eB, eC, DN.e1, DN.e2, eIf, eBi, eTup, eLst, aCons, aNil, tVal, tTruth, tAnd, tOr, tNot, tYes, lLst, eL, eSl, oNo, oSome, eAnd, eNotT, bind_def, M.bind, M.pure, nx_ok, M.of, gN, gT, gsCons, gsNil, Option.bind_some, Option.map_some, List.getElem?_cons_zero, List.getElem?_cons_succ, List.set_cons_zero, List.set_cons_succ, List.length_cons, List.length_nil, Nat.reduceAdd, Nat.reduceLT, Nat.zero_lt_succ, if_true, ite_true, if_false, ite_false, Bool.false_eq_true, and_self, D.add, D.iadd, D.sub, D.neg, D.gt, D.lt, bMin2, bMin3, bMax2, bLen, D.size, D.truth, eq_chr, ne_chr, eq_int, ne_int, ite_pure, lim0, lim1, lim2, lim3, Nat.zero_add, decide_eq_true_eq, Bool.not_eq_true', decide_eq_false_iff_not, e0, e1, e2, e3, hl, ite_int]
      have key := min2_cell (dp 1 (cd one) (cd other) i (j + 1)) (dp 1 (cd one) (cd other) (i + 1) j) (dp 1 (cd one) (cd other) i j + if cd one i = cd other j then 0 else 1)
      simp only [Int.natCast_add, Int.natCast_one] at key
      rw [rowOf_succ _ (j + 1), dp_ss, ← key]
      exact ⟨_, _, _, rfl, trivial⟩
    · rw [List.getElem?_eq_none (by rw [chs_len]; omega)] at hd; cases hd)
  rw [enumD_len, chs_len] at h2
  exact ⟨ρ', S', h1, h2⟩
def tupD : D → D
  | .lst xs => .tup xs
  | _ => .non
theorem table_run (hn : other.length ≤ 900) (hm : one.length ≤ 900) : f_distance_table [.str one, .str other] = .ok (.tup ((List.range (one.length + 1)).map fun i => .tup (rowOf (dp 1 (cd one) (cd other) i) (other.length + 1)))) .off := by
  refine bodyF_ret rfl ?_
  show d_distance_table [.pv (.str one), .pv (.str other), .no, .no, .no, .no, .no, .no, .no] .off = _
  have h0 : sOwn 2 (lLst (aCons (eL (lRange1 (e2 D.add (eBi bLen (aCons (eV 1) (aNil))) (eC (.int 1))))) (aNil))) [.pv (.str one), .pv (.str other), .no, .no, .no, .no, .no, .no, .no] .off = .ok (.nx (ET one other (tab 1 (cd one) (cd other) (other.length + 1) 1) .no .no .no .no .no .no)) .off := by
    have hr := range1_ok (a := e2 D.add (eBi bLen (aCons (eV 1) (aNil))) (eC (.int 1))) (ρ := [.pv (.str one), .pv (.str other), .no, .no, .no, .no, .no, .no, .no]) (S := .off) (S' := .off) (n := other.length + 1) (by simp only [sSeq, sSet, sOwn, sRet, sIf, sNext, sApp, sFrz, sAug, sPar2, sPar3, xE, xL, eV, eB, eC, DN.e1, DN.e2, eIf, eBi, eTup, eLst, aCons, aNil, tVal, tTruth, tAnd, tOr, tNot, tYes, lLst, eL, eSl, oNo, oSome, eAnd, eNotT, bind_def, M.bind, M.pure, nx_ok, M.of, gN, gT, gsCons, gsNil, Option.bind_some, Option.map_some, List.getElem?_cons_zero, List.getElem?_cons_succ, List.set_cons_zero, List.set_cons_succ, List.length_cons, List.length_nil, Nat.reduceAdd, Nat.reduceLT, Nat.zero_lt_succ, if_true, ite_true, if_false, ite_false, Bool.false_eq_true, and_self, D.add, D.iadd, D.sub, D.neg, D.gt, D.lt, bMin2, bMin3, bMax2, bLen, D.size, D.truth, eq_chr, ne_chr, eq_int, ne_int, ite_pure, lim0, lim1, lim2, lim3, Nat.zero_add, decide_eq_true_eq, Bool.not_eq_true', decide_eq_false_iff_not]; rfl) (lim_le (by omega))
    have hl := eL_ok (l := lRange1 (e2 D.add (eBi bLen (aCons (eV 1) (aNil))) (eC (.int 1)))) hr
    rw [ints_row 1 (cd one) (cd other)] at hl
    rw [own_one hl (by show 2 < 9; omega), tab_one]
    rfl
  have hit : iEnum (eV 0) (ET one other (tab 1 (cd one) (cd other) (other.length + 1) 1) .no .no .no .no .no .no) .off = .ok (enumFrom 0 (chs one)) .off := rfl
  obtain ⟨ρ', S', h1, x3, x4, x5, x6, x7, x8, rfl, rfl⟩ := for_nx (g := gT (gsCons (gN 3) (gsCons (gN 4) (gsNil)))) (b := b_distance_table_2)
    (fun b ρ S => ∃ x3 x4 x5 x6 x7 x8, ρ = ET one other (tab 1 (cd one) (cd other) (other.length + 1) (b + 1)) x3 x4 x5 x6 x7 x8 ∧ S = .off) hit ⟨_, _, _, _, _, _, rfl, rfl⟩ (by
    rintro b d ρ S hd ⟨x3, x4, x5, x6, x7, x8, rfl, rfl⟩
    rw [enumD_get] at hd
    by_cases hb : b < one.length
    · rw [chs_get hb] at hd
      cases hd
      rw [Nat.zero_add]
      refine ⟨_, rfl, ?_⟩
      obtain ⟨ρ', S', k1, x6', x7', x8', rfl, rfl⟩ := table_in (one := one) (other := other) hb hn (x6 := x6) (x7 := x7) (x8 := x8)
      have k0 : sOwn 5 (lLst (aCons (e2 D.add (eV 3) (eC (.int 1))) (aNil))) (ET one other (tab 1 (cd one) (cd other) (other.length + 1) (b + 1)) (.pv (.int (b : Nat))) (.pv (.str [cd one b])) x5 x6 x7 x8) .off = .ok (.nx (ET one other (tab 1 (cd one) (cd other) (other.length + 1) (b + 1)) (.pv (.int (b : Nat))) (.pv (.str [cd one b])) (.own (rowOf (dp 1 (cd one) (cd other) (b + 1)) 1)) x6 x7 x8)) .off := by
        simp only [sSeq, sSet, sOwn, sRet, sIf, sNext, sApp, sFrz, sAug, sPar2, sPar3, xE, xL, eV, eB, eC, DN.e1, DN.e2, eIf, eBi, eTup, eLst, aCons, aNil, tVal, tTruth, tAnd, tOr, tNot, tYes, lLst, eL, eSl, oNo, oSome, eAnd, eNotT, bind_def, M.bind, M.pure, nx_ok, M.of, gN, gT, gsCons, gsNil, Option.bind_some, Option.map_some, List.getElem?_cons_zero, List.getElem?_cons_succ, List.set_cons_zero, List.set_cons_succ, List.length_cons, List.length_nil, Nat.reduceAdd, Nat.reduceLT, Nat.zero_lt_succ, if_true, ite_true, if_false, ite_false, Bool.false_eq_true, and_self, D.add, D.iadd, D.sub, D.neg, D.gt, D.lt, bMin2, bMin3, bMax2, bLen, D.size, D.truth, eq_chr, ne_chr, eq_int, ne_int, ite_pure, lim0, lim1, lim2, lim3, Nat.zero_add, decide_eq_true_eq, Bool.not_eq_true', decide_eq_false_iff_not]
        have e : rowOf (dp 1 (cd one) (cd other) (b + 1)) 1 = [.int (((b + 1 : Nat)) : Int)] := by
          show [D.int _] = _
          rw [dp_j0]
        rw [e]
        rfl
      unfold b_distance_table_2
      show Nx (sSeq _ _ (ET one other (tab 1 (cd one) (cd other) (other.length + 1) (b + 1)) (.pv (.int (b : Nat))) (.pv (.str [cd one b])) x5 x6 x7 x8) .off) _
      rw [seq_nx k0, seq_nx k1]
      have hl : (tab 1 (cd one) (cd other) (other.length + 1) (b + 1)).length < LIM := by rw [tab_len]; exact lim_lt' (by omega)
      simp only [sSeq, sSet, sOwn, sRet, sIf, sNext, sApp, sFrz, sAug, sPar2, sPar3, xE, xL, eV, eB, eC, DN.e1, DN.e2, eIf, eBi, eTup, eLst, aCons, aNil, tVal, tTruth, tAnd, tOr, tNot, tYes, lLst, eL, eSl, oNo, oSome, eAnd, eNotT, bind_def, M.bind, M.pure, nx_ok, M.of, gN, gT, gsCons, gsNil, Option.bind_some, Option.map_some, List.getElem?_cons_zero, List.getElem?_cons_succ, List.set_cons_zero, List.set_cons_succ, List.length_cons, List.length_nil, Nat.reduceAdd, Nat.reduceLT, Nat.zero_lt_succ, if_true, ite_true, if_false, ite_false, Bool.false_eq_true, and_self, D.add, D.iadd, D.sub, D.neg, D.gt, D.lt, bMin2, bMin3, bMax2, bLen, D.size, D.truth, eq_chr, ne_chr, eq_int, ne_int, ite_pure, lim0, lim1, lim2, lim3, Nat.zero_add, decide_eq_true_eq, Bool.not_eq_true', decide_eq_false_iff_not, hl]
      rw [tab_succ _ _ _ _ (b + 1)]
      exact ⟨_, _, _, _, _, _, rfl, trivial⟩
    · rw [List.getElem?_eq_none (by rw [chs_len]; omega)] at hd; cases hd)
  rw [enumD_len, chs_len] at h1
  have hg := gather_all (g := gN 5) (e := eBi bTuple (aCons (eV 5) aNil)) (ρ := ET one other (tab 1 (cd one) (cd other) (other.length + 1) (one.length + 1)) x3 x4 .no x6 x7 x8) (S := .off) tupD (ds := tab 1 (cd one) (cd other) (other.length + 1) (one.length + 1)) (by
    intro d hd
    obtain ⟨b, _, rfl⟩ := List.mem_map.mp hd
    exact ⟨_, rfl, rfl⟩)
  have hm : (tab 1 (cd one) (cd other) (other.length + 1) (one.length + 1)).map tupD = (List.range (one.length + 1)).map fun i => .tup (rowOf (dp 1 (cd one) (cd other) i) (other.length + 1)) := by
    unfold tab
    rw [List.map_map]
    rfl
  rw [hm] at hg
  have hl := eL_ok (lc_ok (it := iOf (eB 2)) (ρ := ET one other (tab 1 (cd one) (cd other) (other.length + 1) (one.length + 1)) x3 x4 x5 x6 x7 x8) (S := .off) (vs := [5]) (c := tYes) rfl hg)
  unfold d_distance_table
  rw [seq_nx h0, seq_nx h1]
  exact ret_ok (bi_ok (aone_ok hl) rfl)
theorem distance_run (hn : other.length ≤ 900) (hm : one.length ≤ 900) : f_distance [.str one, .str other] = .ok (.int (dp 1 (cd one) (cd other) one.length other.length : Nat)) .off := by
  refine bodyF_ret rfl ?_
  show d_distance [.pv (.str one), .pv (.str other)] .off = _
  have hc := call_ok (F := f_distance_table) (as := aCons (eV 0) (aCons (eV 1) aNil)) (ρ := [.pv (.str one), .pv (.str other)]) (S := .off) (ds := [.str one, .str other]) (S1 := .off) rfl (table_run hn hm)
  have e1 := ix_tupL (xs := (List.range (one.length + 1)).map fun i => .tup (rowOf (dp 1 (cd one) (cd other) i) (other.length + 1))) (v := .tup (rowOf (dp 1 (cd one) (cd other) one.length) (other.length + 1))) (by rw [List.range_succ, List.map_append]; simp)
  have e2' := ix_tupL (rowOf_last (dp 1 (cd one) (cd other) one.length) other.length)
  exact ret_ok (e2_ok (e2_ok hc rfl e1) rfl e2')
end
end K45

set_option linter.all false
namespace K45
open DN
theorem rowOf_nat (f : Nat → Nat) (n : Nat) : rowOf f n = ((List.range n).map f).map natD := by
  unfold rowOf
  rw [List.map_map]
  rfl
/-- what stands nearest -/
structure Best (t w : Nat → Nat) (n m v e a : Nat) : Prop where
  e_le : e ≤ n
  e_at : dp 0 t w e m = v
  least : ∀ b, b ≤ n → v ≤ dp 0 t w b m
  first : ∀ b, b < e → dp 0 t w b m ≠ v
  a_le : a ≤ e
  a_at : dp 1 w (sh t a) m (e - a) = v
  last : ∀ c, a < c → c ≤ e → dp 1 w (sh t c) m (e - c) ≠ v
theorem Best.uniq {t w : Nat → Nat} {n m v e a v' e' a' : Nat} (h : Best t w n m v e a) (k : Best t w n m v' e' a') : v = v' ∧ e = e' ∧ a = a' := by
  have hv : v = v' := by
    have h1 := h.least e' k.e_le
    have h2 := k.least e h.e_le
    rw [k.e_at] at h1
    rw [h.e_at] at h2
    omega
  subst hv
  have he : e = e' := by
    rcases Nat.lt_trichotomy e e' with q | q | q
    · exact absurd h.e_at (k.first e q)
    · exact q
    · exact absurd k.e_at (h.first e' q)
  subst he
  refine ⟨rfl, rfl, ?_⟩
  rcases Nat.lt_trichotomy a a' with q | q | q
  · exact absurd k.a_at (h.last a' q k.a_le)
  · exact q
  · exact absurd h.a_at (k.last a q h.a_le)
def piece (x : List Nat) (a e : Nat) : List Nat := (x.drop a).take (e - a)
theorem piece_len {x : List Nat} {a e : Nat} (h : e ≤ x.length) : (piece x a e).length = e - a := by
  unfold piece
  rw [List.length_take, List.length_drop]
  omega
theorem piece_at {x : List Nat} {a e k : Nat} (hk : k < e - a) : cd (piece x a e) k = cd x (a + k) := by
  unfold piece cd
  rw [List.getD_eq_getElem?_getD, List.getD_eq_getElem?_getD, List.getElem?_take, if_pos hk, List.getElem?_drop]
theorem piece_dp (x : List Nat) (w : Nat → Nat) (m a e : Nat) : dp 1 w (cd (piece x a e)) m (e - a) = dp 1 w (sh (cd x) a) m (e - a) :=
  dp_congr (fun _ _ => rfl) fun k hk => piece_at hk
section
variable {text word : List Nat}
theorem nearest_run (hn : word.length ≤ 900) (hm : text.length ≤ 900) : ∃ v e a, Best (cd text) (cd word) text.length word.length v e a ∧ f_nearest [.str text, .str word] = .ok (.tup [.int (v : Nat), .tup [.int (a : Nat), .int (e : Nat)]]) .off := by
  have hnr := near_ends_run hn hm
  rw [rowOf_nat] at hnr
  have hne : (List.range (text.length + 1)).map (fun b => dp 0 (cd text) (cd word) b word.length) ≠ [] := by rw [List.range_succ, List.map_append]; simp
  obtain ⟨v, h1, h2, _, h3⟩ := bMin_nat hne
  obtain ⟨e, k1, k2, k3⟩ := idx_first h1
  have at_ : ∀ b, b ≤ text.length → ((List.range (text.length + 1)).map (fun b => dp 0 (cd text) (cd word) b word.length))[b]? = some (dp 0 (cd text) (cd word) b word.length) := fun b hb => by
    rw [List.getElem?_map, List.getElem?_range (by omega)]; rfl
  have hel : e ≤ text.length := by
    have := (List.getElem?_eq_some_iff.mp k2).1
    rw [List.length_map, List.length_range] at this
    omega
  have heat : dp 0 (cd text) (cd word) e word.length = v := by
    have := at_ e hel
    rw [k2] at this
    exact (Option.some.inj this).symm
  have hix : D.index (.tup (((List.range (text.length + 1)).map (fun b => dp 0 (cd text) (cd word) b word.length)).map natD)) (.int (v : Nat)) = some (.int (e : Nat)) := by
    show (if min (D.depths _) _ ≤ 64 then (idxD _ _).map _ else none) = _
    rw [depths_nat, k1, if_pos (by omega)]
    rfl
  -- the loop
  obtain ⟨a1, ha1, ha2⟩ := near_ex (cd text) (cd word) e word.length
  have ha3 := near_le (cd text) (cd word) e word.length a1 ha1
  let P : Nat → Prop := fun a => a ≤ e ∧ a1 ≤ a ∧ ∀ c, a < c → c ≤ e → dp 1 (cd word) (sh (cd text) c) word.length (e - c) ≠ v
  let EV : Nat → Env := fun a => [.pv (.str text), .pv (.str word), .pv (.tup (((List.range (text.length + 1)).map (fun b => dp 0 (cd text) (cd word) b word.length)).map natD)), .pv (.int (v : Nat)), .pv (.int (e : Nat)), .pv (.int (a : Nat))]
  have hcond : ∀ a, a ≤ e → tVal (e2 D.ne (eCall f_distance (aCons (eV 1) (aCons (eSl (eV 0) (oSome (eV 5)) (oSome (eV 4))) (aNil)))) (eV 3)) (EV a) .off = .ok (!decide (((dp 1 (cd word) (sh (cd text) a) word.length (e - a) : Nat) : Int) = v)) .off := fun a hae => by
    have hd := distance_run (one := word) (other := piece text a e) (by rw [piece_len hel]; omega) hn
    rw [piece_len hel, piece_dp] at hd
    have hs : eSl (eV 0) (oSome (eV 5)) (oSome (eV 4)) (EV a) .off = .ok (.str (piece text a e)) .off :=
      sl_ok (x := .str text) (S1 := .off) (S2 := .off) (o := some (a : Int)) (p := some (e : Int)) rfl rfl rfl (by show some (D.str (cut text _ _)) = _; rw [cut_nat hae hel]; rfl)
    exact tval_ok (e2_ok (call_ok (acons_ok (x := .str word) rfl (aone_ok hs)) hd) (y := .int (v : Nat)) rfl (ne_int _ _))
  obtain ⟨ρ', S', hw, a, hP, ha, rfl, rfl⟩ := while_inv (c := tVal (e2 D.ne (eCall f_distance (aCons (eV 1) (aCons (eSl (eV 0) (oSome (eV 5)) (oSome (eV 4))) (aNil)))) (eV 3))) (b := b_nearest_1)
    (fun k ρ S => P k ∧ ρ = EV k ∧ S = .off) (fun ρ S => ∃ a, P a ∧ dp 1 (cd word) (sh (cd text) a) word.length (e - a) = v ∧ ρ = EV a ∧ S = .off) (by
      rintro a ρ S ⟨⟨p1, p2, p3⟩, rfl, rfl⟩
      by_cases q : dp 1 (cd word) (sh (cd text) a) word.length (e - a) = v
      · refine .inl ⟨.off, ?_, a, ⟨p1, p2, p3⟩, q, rfl, rfl⟩
        rw [hcond a p1, q]
        simp
      · have hlt : a1 < a := by
          rcases Nat.lt_or_ge a1 a with z | z
          · exact z
          · have : a = a1 := by omega
            subst this
            exact absurd (by omega) q
        refine .inr ⟨.off, EV (a - 1), .off, a - 1, ?_, ?_, ⟨⟨by omega, by omega, fun c h1 h2 => ?_⟩, rfl, rfl⟩, by omega⟩
        · rw [hcond a p1, decide_eq_false (by omega)]
          rfl
        · have e0 : ((a : Int) - 1) = ((a - 1 : Nat) : Int) := by omega
          show b_nearest_1 [_, _, _, _, _, _] .off = _
          unfold b_nearest_1
          simp only [sSeq, sSet, sOwn, sRet, sIf, sNext, sApp, sFrz, sAug, sPar2, sPar3, xE, xL, eV, eB, eC, DN.e1, DN.e2, eIf, eBi, eTup, eLst, aCons, aNil, tVal, tTruth, tAnd, tOr, tNot, tYes, lLst, eL, eSl, oNo, oSome, eAnd, eNotT, bind_def, M.bind, M.pure, nx_ok, M.of, gN, gT, gsCons, gsNil, Option.bind_some, Option.map_some, List.getElem?_cons_zero, List.getElem?_cons_succ, List.set_cons_zero, List.set_cons_succ, List.length_cons, List.length_nil, Nat.reduceAdd, Nat.reduceLT, Nat.zero_lt_succ, if_true, ite_true, if_false, ite_false, Bool.false_eq_true, and_self, D.add, D.iadd, D.sub, D.neg, D.gt, D.lt, bMin2, bMin3, bMax2, bLen, D.size, D.truth, eq_chr, ne_chr, eq_int, ne_int, ite_pure, lim0, lim1, lim2, lim3, Nat.zero_add, decide_eq_true_eq, Bool.not_eq_true', decide_eq_false_iff_not]
          rw [e0]
        · by_cases z : c = a
          · rw [z]; exact q
          · exact p3 c (by omega) h2) FUEL e (EV e) .off (by unfold FUEL; omega) ⟨⟨Nat.le_refl _, ha1, fun c h1 h2 => by omega⟩, rfl, rfl⟩
  refine ⟨v, e, a, ⟨hel, heat, fun b hb => h3 _ (List.mem_of_getElem? (at_ b hb)), fun b hb => ?_, hP.1, ha, hP.2.2⟩, ?_⟩
  · have := k3 b hb
    rw [at_ b (by omega)] at this
    exact fun z => this (congrArg some z)
  · refine bodyF_ret rfl ?_
    show d_nearest [.pv (.str text), .pv (.str word), .no, .no, .no, .no] .off = _
    unfold d_nearest
    rw [seq_nx (set_ok (g := gN 2) (call_ok (acons_ok (x := .str text) rfl (aone_ok (x := .str word) rfl)) hnr) rfl)]
    rw [seq_nx (set_ok (g := gN 3) (bi_ok (aone_ok rfl) h2) rfl)]
    rw [seq_nx (set_ok (g := gN 4) (e2_ok rfl rfl hix) rfl)]
    rw [seq_nx (set_ok (g := gN 5) (d := .int (e : Nat)) rfl rfl)]
    refine Eq.trans (seq_nx (a := sWhile _ _) hw) ?_
    exact ret_ok (tup_ok (acons_ok rfl (aone_ok (tup_ok (acons_ok rfl (aone_ok rfl)) (lim_le (by show 2 ≤ 1000; omega))))) (lim_le (by show 2 ≤ 1000; omega)))
end
end K45

set_option linter.all false
namespace K45
open DN
/-- the first l of w stand at t's end at k -/
def Bo (w t : Nat → Nat) (k l : Nat) : Prop := l ≤ k ∧ ∀ i, i < l → w i = t (k - l + i)
theorem bo_zero (w t : Nat → Nat) (k : Nat) : Bo w t k 0 := ⟨Nat.zero_le _, fun i h => by omega⟩
theorem bo_chain {w t : Nat → Nat} {k h l : Nat} (b : Bo w t k h) (hl : l ≤ h) : Bo w t k l ↔ Bo w w h l := by
  obtain ⟨b1, b2⟩ := b
  have key : ∀ i, i < l → w (h - l + i) = t (k - l + i) := fun i hi => by
    rw [b2 (h - l + i) (by omega)]
    congr 1
    omega
  constructor
  · rintro ⟨c1, c2⟩
    exact ⟨hl, fun i hi => by rw [c2 i hi, key i hi]⟩
  · rintro ⟨c1, c2⟩
    exact ⟨by omega, fun i hi => by rw [c2 i hi, key i hi]⟩
theorem bo_succ {w t : Nat → Nat} {k l : Nat} : Bo w t (k + 1) (l + 1) ↔ Bo w t k l ∧ w l = t k := by
  constructor
  · rintro ⟨c1, c2⟩
    refine ⟨⟨by omega, fun i hi => ?_⟩, ?_⟩
    · rw [c2 i (by omega)]
      congr 1
      omega
    · rw [c2 l (by omega)]
      congr 1
      omega
  · rintro ⟨⟨c1, c2⟩, c3⟩
    refine ⟨by omega, fun i hi => ?_⟩
    by_cases q : i = l
    · subst q
      rw [c3]
      congr 1
      omega
    · rw [c2 i (by omega)]
      congr 1
      omega
/-- the table of borders, below n -/
def Sh (w T : Nat → Nat) (n : Nat) : Prop := ∀ h, 1 ≤ h → h < n → T h < h ∧ Bo w w h (T h) ∧ ∀ l, l < h → Bo w w h l → l ≤ T h
/-- a try: what is longer (and below u) does not go on -/
structure Try (w t : Nat → Nat) (m u k c h : Nat) : Prop where
  bo : Bo w t k h
  no : ∀ l, h < l → l < u → Bo w t k l → ¬ (l < m ∧ w l = c)
theorem Try.step {w t T : Nat → Nat} {m u k c h n : Nat} (q : Try w t m u k c h) (hs : Sh w T n) (h1 : 1 ≤ h) (h2 : h < n) (hu : h < u) (hno : ¬ (h < m ∧ w h = c)) : T h < h ∧ Try w t m u k c (T h) := by
  obtain ⟨s1, s2, s3⟩ := hs h h1 h2
  refine ⟨s1, (bo_chain q.bo (Nat.le_of_lt s1)).mpr s2, fun l a b d => ?_⟩
  rcases Nat.lt_trichotomy l h with z | z | z
  · have := s3 l z ((bo_chain q.bo (Nat.le_of_lt z)).mp d)
    omega
  · rw [z]; exact hno
  · exact q.no l z b d
/-- at the end of the tries -/
theorem Try.last {w t : Nat → Nat} {m u k h : Nat} (q : Try w t m u k (t k) h) (hend : h = 0 ∨ (h < m ∧ w h = t k)) (h' : Nat) (hh : h' = if w h = t k then h + 1 else h) (hm : 0 < m) (um : ∀ l, l < u → l < m ∨ u = m + 1) (hu : h < u) (hu2 : u ≤ m + 1) :
    Bo w t (k + 1) h' ∧ ∀ l, l ≤ u → l ≤ m → Bo w t (k + 1) l → l ≤ h' := by
  by_cases e : w h = t k
  · rw [if_pos e] at hh
    subst hh
    refine ⟨bo_succ.mpr ⟨q.bo, e⟩, fun l hl hlm b => ?_⟩
    cases l with
    | zero => omega
    | succ l =>
      obtain ⟨b1, b2⟩ := bo_succ.mp b
      rcases Nat.lt_or_ge h l with z | z
      · exact absurd ⟨by omega, b2⟩ (q.no l z (by omega) b1)
      · omega
  · rw [if_neg e] at hh
    subst hh
    have h0 : h' = 0 := by
      rcases hend with z | ⟨_, z⟩
      · exact z
      · exact absurd z e
    subst h0
    refine ⟨bo_zero _ _ _, fun l hl hlm b => ?_⟩
    cases l with
    | zero => exact Nat.le_refl _
    | succ l =>
      obtain ⟨b1, b2⟩ := bo_succ.mp b
      cases l with
      | zero => exact absurd b2 e
      | succ l => exact absurd ⟨by omega, b2⟩ (q.no (l + 1) (by omega) (by omega) b1)
theorem cd_app {xs : List Nat} {v i : Nat} : cd (xs ++ [v]) i = if i < xs.length then cd xs i else if i = xs.length then v else 0 := by
  unfold cd
  rw [List.getD_eq_getElem?_getD, List.getD_eq_getElem?_getD, List.getElem?_append]
  by_cases h : i < xs.length
  · rw [if_pos h, if_pos h]
  · rw [if_neg h, if_neg h]
    by_cases h2 : i = xs.length
    · rw [if_pos h2, h2, Nat.sub_self]; rfl
    · rw [if_neg h2, List.getElem?_eq_none (by simp; omega)]; rfl
theorem nat_get {xs : List Nat} {i : Nat} (h : i < xs.length) : (xs.map natD)[i]? = some (.int (cd xs i : Nat)) := by
  unfold cd
  rw [List.getElem?_map, List.getElem?_eq_getElem h]
  simp [h, natD]
section
variable {word : List Nat}
abbrev ES (word : List Nat) (k : Slot) (xs : List Nat) (b : Slot) : Env := [.pv (.str word), k, .own (xs.map natD), b]
theorem shift_while {k : Nat} {xs : List Nat} (hk : 1 ≤ k) (hkm : k < word.length) (hx : xs.length = k + 1) (hm : word.length ≤ 900) (hs : Sh (cd word) (cd xs) (k + 1)) :
    ∃ h, h < k ∧ Try (cd word) (cd word) word.length k k (cd word k) h ∧ (h = 0 ∨ (h < word.length ∧ cd word h = cd word k)) ∧ sWhile (tAnd (tVal (e2 D.gt (eV 3) (eC (.int 0)))) (tVal (e2 D.ne (e2 D.ix (eV 0) (eV 3)) (e2 D.ix (eV 0) (eV 1))))) b_shift_table_1 (ES word (.pv (.int (k : Nat))) xs (.pv (.int (cd xs k : Nat)))) .off = .ok (.nx (ES word (.pv (.int (k : Nat))) xs (.pv (.int (h : Nat))))) .off := by
  obtain ⟨s1, s2, s3⟩ := hs k hk (Nat.lt_succ_self _)
  obtain ⟨ρ', S', hw, h, p1, p2, p3, rfl, rfl⟩ := while_inv (c := tAnd (tVal (e2 D.gt (eV 3) (eC (.int 0)))) (tVal (e2 D.ne (e2 D.ix (eV 0) (eV 3)) (e2 D.ix (eV 0) (eV 1))))) (b := b_shift_table_1)
    (fun h ρ S => h < k ∧ Try (cd word) (cd word) word.length k k (cd word k) h ∧ ρ = ES word (.pv (.int (k : Nat))) xs (.pv (.int (h : Nat))) ∧ S = .off)
    (fun ρ S => ∃ h, h < k ∧ Try (cd word) (cd word) word.length k k (cd word k) h ∧ (h = 0 ∨ (h < word.length ∧ cd word h = cd word k)) ∧ ρ = ES word (.pv (.int (k : Nat))) xs (.pv (.int (h : Nat))) ∧ S = .off) (by
      rintro h ρ S ⟨p1, p2, rfl, rfl⟩
      have e1 : tVal (e2 D.gt (eV 3) (eC (.int 0))) (ES word (.pv (.int (k : Nat))) xs (.pv (.int (h : Nat)))) .off = .ok (decide ((0 : Int) < (h : Nat))) .off := tval_ok (e2_ok rfl rfl rfl)
      by_cases h0 : h = 0
      · refine .inl ⟨.off, tand_no (e1.trans ?_), h, p1, p2, .inl h0, rfl, rfl⟩
        rw [h0]; rfl
      · have e1' := e1.trans (show _ = Res.ok true BX.off by rw [decide_eq_true (by omega)])
        have e3 : tVal (e2 D.ne (e2 D.ix (eV 0) (eV 3)) (e2 D.ix (eV 0) (eV 1))) (ES word (.pv (.int (k : Nat))) xs (.pv (.int (h : Nat)))) .off = .ok (!decide (cd word h = cd word k)) .off :=
          tval_ok (e2_ok (e2_ok rfl rfl (ix_str (by omega))) (e2_ok rfl rfl (ix_str hkm)) (ne_chr _ _))
        by_cases q : cd word h = cd word k
        · refine .inl ⟨.off, tand_ok e1' (e3.trans ?_), h, p1, p2, .inr ⟨by omega, q⟩, rfl, rfl⟩
          rw [decide_eq_true q]; rfl
        · obtain ⟨t1, t2⟩ := p2.step hs (by omega) (by omega) p1 (fun z => q z.2)
          refine .inr ⟨.off, ES word (.pv (.int (k : Nat))) xs (.pv (.int (cd xs h : Nat))), .off, cd xs h, tand_ok e1' (e3.trans ?_), ?_, ⟨by omega, t2, rfl, rfl⟩, t1⟩
          · rw [decide_eq_false q]; rfl
          · exact set_ok (e2_ok rfl rfl (ix_lst (nat_get (by omega)))) rfl) FUEL (cd xs k) (ES word (.pv (.int (k : Nat))) xs (.pv (.int (cd xs k : Nat)))) .off (by unfold FUEL; omega) ⟨s1, ⟨s2, fun l a b d => absurd (s3 l b d) (by omega)⟩, rfl, rfl⟩
  exact ⟨h, p1, p2, p3, hw⟩
theorem sh_app {w : Nat → Nat} {xs : List Nat} {v n : Nat} (hx : xs.length = n) (hs : Sh w (cd xs) n) (h1 : v < n) (h2 : Bo w w n v) (h3 : ∀ l, l < n → Bo w w n l → l ≤ v) : Sh w (cd (xs ++ [v])) (n + 1) := fun h a b => by
  rw [cd_app]
  by_cases q : h < xs.length
  · rw [if_pos q]
    exact hs h a (by omega)
  · have e : h = xs.length := by omega
    rw [if_neg q, if_pos e]
    have e2 : h = n := by omega
    rw [e2]
    exact ⟨h1, h2, h3⟩
theorem shift_run (hm0 : 0 < word.length) (hm : word.length ≤ 900) : ∃ xs : List Nat, f_shift_table [.str word] = .ok (.tup (xs.map natD)) .off ∧ word.length < xs.length ∧ Sh (cd word) (cd xs) (word.length + 1) := by
  have h0 : sPar2 2 3 (xL (lLst (aCons (eC (.int 0)) (aCons (eC (.int 0)) (aNil))))) (xE (eC (.int 0))) [.pv (.str word), .no, .no, .no] .off = .ok (.nx (ES word .no [0, 0] (.pv (.int (0 : Nat))))) .off := by
    simp only [sSeq, sSet, sOwn, sRet, sIf, sNext, sApp, sFrz, sAug, sPar2, sPar3, xE, xL, eV, eB, eC, DN.e1, DN.e2, eIf, eBi, eTup, eLst, aCons, aNil, tVal, tTruth, tAnd, tOr, tNot, tYes, lLst, eL, eSl, oNo, oSome, eAnd, eNotT, bind_def, M.bind, M.pure, nx_ok, M.of, gN, gT, gsCons, gsNil, Option.bind_some, Option.map_some, List.getElem?_cons_zero, List.getElem?_cons_succ, List.set_cons_zero, List.set_cons_succ, List.length_cons, List.length_nil, Nat.reduceAdd, Nat.reduceLT, Nat.zero_lt_succ, if_true, ite_true, if_false, ite_false, Bool.false_eq_true, and_self, D.add, D.iadd, D.sub, D.neg, D.gt, D.lt, bMin2, bMin3, bMax2, bLen, D.size, D.truth, eq_chr, ne_chr, eq_int, ne_int, ite_pure, lim0, lim1, lim2, lim3, Nat.zero_add, decide_eq_true_eq, Bool.not_eq_true', decide_eq_false_iff_not]
    rfl
  have sh0 : Sh (cd word) (cd [0, 0]) 2 := fun h a b => by
    have e : h = 1 := by omega
    subst e
    exact ⟨by decide, bo_zero _ _ _, fun l hl _ => by omega⟩
  have hit : iRange2 (eC (.int 1)) (eBi bLen (aCons (eV 0) (aNil))) (ES word .no [0, 0] (.pv (.int (0 : Nat)))) .off = .ok (intsFrom 1 (word.length - 1)) .off := by
    have hb : eBi bLen (aCons (eV 0) (aNil)) (ES word .no [0, 0] (.pv (.int (0 : Nat)))) .off = .ok (.int (word.length : Nat)) .off := bi_ok (aone_ok rfl) rfl
    unfold iRange2
    rw [bind_ok (m := eC (.int 1) _) (a := .int 1) (S' := .off) rfl, bind_ok hb]
    show (if _ then _ else _ : M (List D)) .off = _
    have c3 : (LIM : Int) = 1000000 := rfl
    rw [if_pos ⟨by unfold BIG; omega, by unfold BIG; omega, by unfold BIG; omega, by unfold BIG; omega, by omega⟩]
    have e : ((word.length : Int) - 1).toNat = word.length - 1 := by omega
    rw [e]
    rfl
  obtain ⟨ρ', S', h1, x1, xs, hx, hs, rfl, rfl⟩ := for_nx (g := gN 1) (b := b_shift_table_2)
    (fun i ρ S => ∃ x1 xs, xs.length = i + 2 ∧ Sh (cd word) (cd xs) (i + 2) ∧ ρ = ES word x1 xs (.pv (.int (cd xs (i + 1) : Nat))) ∧ S = .off) hit ⟨.no, [0, 0], rfl, sh0, rfl, rfl⟩ (by
    rintro i d ρ S hd ⟨x1, xs, hx, hs, rfl, rfl⟩
    rw [rangeD_get] at hd
    by_cases hi : i < word.length - 1
    · rw [if_pos hi] at hd
      cases hd
      have ek : (1 : Int) + (i : Int) = ((i + 1 : Nat) : Int) := by omega
      rw [ek]
      refine ⟨_, rfl, ?_⟩
      obtain ⟨h, p1, p2, p3, hw⟩ := shift_while (word := word) (k := i + 1) (xs := xs) (by omega) (by omega) hx hm hs
      have hl := p2.last p3 _ rfl hm0 (fun l hl => .inl (by omega)) p1 (by omega)
      have hlen : (xs.map natD).length < LIM := by rw [List.length_map]; exact lim_lt' (by omega)
      unfold b_shift_table_2
      show Nx (sSeq _ _ (ES word (.pv (.int ((i + 1 : Nat) : Int))) xs (.pv (.int (cd xs (i + 1) : Nat)))) .off) _
      rw [seq_nx hw]
      have e3 : tVal (e2 D.eq (e2 D.ix (eV 0) (eV 3)) (e2 D.ix (eV 0) (eV 1))) (ES word (.pv (.int ((i + 1 : Nat) : Int))) xs (.pv (.int (h : Nat)))) .off = .ok (decide (cd word h = cd word (i + 1))) .off :=
        tval_ok (e2_ok (e2_ok rfl rfl (ix_str (by omega))) (e2_ok rfl rfl (ix_str (by omega))) (eq_chr _ _))
      have e4 : sIf (tVal (e2 D.eq (e2 D.ix (eV 0) (eV 3)) (e2 D.ix (eV 0) (eV 1)))) (sAug 3 D.iadd (eC (.int 1))) sNext (ES word (.pv (.int ((i + 1 : Nat) : Int))) xs (.pv (.int (h : Nat)))) .off = .ok (.nx (ES word (.pv (.int ((i + 1 : Nat) : Int))) xs (.pv (.int ((if cd word h = cd word (i + 1) then h + 1 else h : Nat) : Int))))) .off := by
        rw [if_ok e3]
        by_cases q : cd word h = cd word (i + 1)
        · rw [decide_eq_true q, if_pos q]
          rfl
        · rw [decide_eq_false q, if_neg q]
          rfl
      rw [seq_nx e4]
      generalize hv : (if cd word h = cd word (i + 1) then h + 1 else h) = v at *
      have hvlt : v < i + 2 := by
        rw [← hv]; split <;> omega
      simp only [sSeq, sSet, sOwn, sRet, sIf, sNext, sApp, sFrz, sAug, sPar2, sPar3, xE, xL, eV, eB, eC, DN.e1, DN.e2, eIf, eBi, eTup, eLst, aCons, aNil, tVal, tTruth, tAnd, tOr, tNot, tYes, lLst, eL, eSl, oNo, oSome, eAnd, eNotT, bind_def, M.bind, M.pure, nx_ok, M.of, gN, gT, gsCons, gsNil, Option.bind_some, Option.map_some, List.getElem?_cons_zero, List.getElem?_cons_succ, List.set_cons_zero, List.set_cons_succ, List.length_cons, List.length_nil, Nat.reduceAdd, Nat.reduceLT, Nat.zero_lt_succ, if_true, ite_true, if_false, ite_false, Bool.false_eq_true, and_self, D.add, D.iadd, D.sub, D.neg, D.gt, D.lt, bMin2, bMin3, bMax2, bLen, D.size, D.truth, eq_chr, ne_chr, eq_int, ne_int, ite_pure, lim0, lim1, lim2, lim3, Nat.zero_add, decide_eq_true_eq, Bool.not_eq_true', decide_eq_false_iff_not, hlen]
      refine ⟨.pv (.int ((i + 1 : Nat) : Int)), xs ++ [v], by rw [List.length_append, hx]; rfl, sh_app hx hs hvlt hl.1 (fun l a b => hl.2 l (by omega) (by omega) b), ?_, trivial⟩
      rw [cd_app, if_neg (by omega), if_pos (by omega)]
      unfold ES
      rw [List.map_append]
      rfl
    · rw [if_neg hi] at hd; cases hd)
  rw [rangeD_len] at hx hs h1
  refine ⟨xs, ?_, by omega, ?_⟩
  · refine bodyF_ret rfl ?_
    show d_shift_table [.pv (.str word), .no, .no, .no] .off = _
    unfold d_shift_table
    rw [seq_nx h0, seq_nx h1]
    exact ret_ok (bi_ok (aone_ok rfl) rfl)
  · have e : word.length - 1 + 2 = word.length + 1 := by omega
    rw [e] at hs
    exact hs
end
section
variable {text word : List Nat}
abbrev EM (text word : List Nat) (c : Slot) (xs ys : List Nat) (h : Nat) : Env := [.pv (.str text), .pv (.str word), c, .pv (.tup (xs.map natD)), .own (ys.map natD), .pv (.int (h : Nat))]
theorem met_while {c k h0 : Nat} {xs ys : List Nat} (hx : word.length < xs.length) (hm : word.length ≤ 900) (hs : Sh (cd word) (cd xs) (word.length + 1)) (hc : c = cd text k) (q0 : h0 ≤ word.length) (q1 : Try (cd word) (cd text) word.length (word.length + 1) k c h0) (hm0 : 0 < word.length) :
    ∃ h, h ≤ word.length ∧ Try (cd word) (cd text) word.length (word.length + 1) k c h ∧ (h = 0 ∨ (h < word.length ∧ cd word h = c)) ∧ sWhile (tAnd (tVal (e2 D.gt (eV 5) (eC (.int 0)))) (tOr (tVal (e2 D.eq (eV 5) (eBi bLen (aCons (eV 1) (aNil))))) (tVal (e2 D.ne (e2 D.ix (eV 1) (eV 5)) (eV 2))))) b_beginnings_met_1 (EM text word (.pv (.str [c])) xs ys h0) .off = .ok (.nx (EM text word (.pv (.str [c])) xs ys h)) .off := by
  obtain ⟨ρ', S', hw, h, p1, p2, p3, rfl, rfl⟩ := while_inv (c := tAnd (tVal (e2 D.gt (eV 5) (eC (.int 0)))) (tOr (tVal (e2 D.eq (eV 5) (eBi bLen (aCons (eV 1) (aNil))))) (tVal (e2 D.ne (e2 D.ix (eV 1) (eV 5)) (eV 2))))) (b := b_beginnings_met_1)
    (fun h ρ S => h ≤ word.length ∧ Try (cd word) (cd text) word.length (word.length + 1) k c h ∧ ρ = EM text word (.pv (.str [c])) xs ys h ∧ S = .off)
    (fun ρ S => ∃ h, h ≤ word.length ∧ Try (cd word) (cd text) word.length (word.length + 1) k c h ∧ (h = 0 ∨ (h < word.length ∧ cd word h = c)) ∧ ρ = EM text word (.pv (.str [c])) xs ys h ∧ S = .off) (by
      rintro h ρ S ⟨p1, p2, rfl, rfl⟩
      have e1 : tVal (e2 D.gt (eV 5) (eC (.int 0))) (EM text word (.pv (.str [c])) xs ys h) .off = .ok (decide ((0 : Int) < (h : Nat))) .off := tval_ok (e2_ok rfl rfl rfl)
      by_cases h0 : h = 0
      · refine .inl ⟨.off, tand_no (e1.trans ?_), h, p1, p2, .inl h0, rfl, rfl⟩
        rw [h0]; rfl
      · have e1' := e1.trans (show _ = Res.ok true BX.off by rw [decide_eq_true (by omega)])
        have e2' : tVal (e2 D.eq (eV 5) (eBi bLen (aCons (eV 1) (aNil)))) (EM text word (.pv (.str [c])) xs ys h) .off = .ok (decide ((h : Int) = (word.length : Nat))) .off := tval_ok (e2_ok rfl (bi_ok (aone_ok rfl) rfl) (eq_int _ _))
        have go : ∀ hno : ¬ (h < word.length ∧ cd word h = c), b_beginnings_met_1 (EM text word (.pv (.str [c])) xs ys h) .off = .ok (.nx (EM text word (.pv (.str [c])) xs ys (cd xs h))) .off ∧ cd xs h < h ∧ Try (cd word) (cd text) word.length (word.length + 1) k c (cd xs h) := fun hno => by
          obtain ⟨t1, t2⟩ := p2.step hs (by omega) (by omega) (by omega) hno
          exact ⟨set_ok (e2_ok rfl rfl (ix_tup (nat_get (by omega)))) rfl, t1, t2⟩
        by_cases hl : h = word.length
        · obtain ⟨g1, g2, g3⟩ := go (by omega)
          refine .inr ⟨.off, _, .off, cd xs h, tand_ok e1' (tor_yes (e2'.trans ?_)), g1, ⟨by omega, g3, rfl, rfl⟩, g2⟩
          rw [decide_eq_true (by omega)]
        · have e2'' := e2'.trans (show _ = Res.ok false BX.off by rw [decide_eq_false (by omega)])
          have e3 : tVal (e2 D.ne (e2 D.ix (eV 1) (eV 5)) (eV 2)) (EM text word (.pv (.str [c])) xs ys h) .off = .ok (!decide (cd word h = c)) .off :=
            tval_ok (e2_ok (e2_ok rfl rfl (ix_str (by omega))) rfl (ne_chr _ _))
          by_cases q : cd word h = c
          · refine .inl ⟨.off, tand_ok e1' (tor_ok e2'' (e3.trans ?_)), h, p1, p2, .inr ⟨by omega, q⟩, rfl, rfl⟩
            rw [decide_eq_true q]; rfl
          · obtain ⟨g1, g2, g3⟩ := go (fun z => q z.2)
            refine .inr ⟨.off, _, .off, cd xs h, tand_ok e1' (tor_ok e2'' (e3.trans ?_)), g1, ⟨by omega, g3, rfl, rfl⟩, g2⟩
            rw [decide_eq_false q]; rfl) FUEL h0 (EM text word (.pv (.str [c])) xs ys h0) .off (by unfold FUEL; omega) ⟨q0, q1, rfl, rfl⟩
  exact ⟨h, p1, p2, p3, hw⟩
/-- what is met at each place -/
def Mt (w t : Nat → Nat) (m : Nat) (ys : List Nat) : Prop := ∀ k, k < ys.length → cd ys k ≤ m ∧ Bo w t k (cd ys k) ∧ ∀ l, l ≤ m → Bo w t k l → l ≤ cd ys k
theorem mt_app {w t : Nat → Nat} {m v : Nat} {ys : List Nat} (h : Mt w t m ys) (h1 : v ≤ m) (h2 : Bo w t ys.length v) (h3 : ∀ l, l ≤ m → Bo w t ys.length l → l ≤ v) : Mt w t m (ys ++ [v]) := fun k hk => by
  rw [cd_app]
  by_cases q : k < ys.length
  · rw [if_pos q]; exact h k q
  · rw [List.length_append] at hk
    have e : k = ys.length := by simp at hk; omega
    rw [if_neg q, if_pos e, e]
    exact ⟨h1, h2, h3⟩
theorem met_run (hm0 : 0 < word.length) (hm : word.length ≤ 900) (hn : text.length ≤ 900) : ∃ ys : List Nat, f_beginnings_met [.str text, .str word] = .ok (.tup (ys.map natD)) .off ∧ ys.length = text.length + 1 ∧ Mt (cd word) (cd text) word.length ys := by
  obtain ⟨xs, hrun, hx, hs⟩ := shift_run hm0 hm
  have h0 : sPar3 3 4 5 (xE (eCall f_shift_table (aCons (eV 1) (aNil)))) (xL (lLst (aCons (eC (.int 0)) (aNil)))) (xE (eC (.int 0))) [.pv (.str text), .pv (.str word), .no, .no, .no, .no] .off = .ok (.nx (EM text word .no xs [0] 0)) .off := by
    have hc := call_ok (F := f_shift_table) (as := aCons (eV 1) aNil) (ρ := [.pv (.str text), .pv (.str word), .no, .no, .no, .no]) (S := .off) (ds := [.str word]) (S1 := .off) rfl hrun
    unfold sPar3 xE
    rw [DN.bind_assoc, bind_ok hc]
    rw [DN.pure_bind]
    simp only [sSeq, sSet, sOwn, sRet, sIf, sNext, sApp, sFrz, sAug, sPar2, sPar3, xE, xL, eV, eB, eC, DN.e1, DN.e2, eIf, eBi, eTup, eLst, aCons, aNil, tVal, tTruth, tAnd, tOr, tNot, tYes, lLst, eL, eSl, oNo, oSome, eAnd, eNotT, bind_def, M.bind, M.pure, nx_ok, M.of, gN, gT, gsCons, gsNil, Option.bind_some, Option.map_some, List.getElem?_cons_zero, List.getElem?_cons_succ, List.set_cons_zero, List.set_cons_succ, List.length_cons, List.length_nil, Nat.reduceAdd, Nat.reduceLT, Nat.zero_lt_succ, if_true, ite_true, if_false, ite_false, Bool.false_eq_true, and_self, D.add, D.iadd, D.sub, D.neg, D.gt, D.lt, bMin2, bMin3, bMax2, bLen, D.size, D.truth, eq_chr, ne_chr, eq_int, ne_int, ite_pure, lim0, lim1, lim2, lim3, Nat.zero_add, decide_eq_true_eq, Bool.not_eq_true', decide_eq_false_iff_not]
    rfl
  obtain ⟨ρ', S', h1, x2, ys, hy, hmt, rfl, rfl⟩ := for_nx (it := iOf (eV 0)) (g := gN 2) (b := b_beginnings_met_2) (ρ := EM text word .no xs [0] 0) (S := .off) (S1 := .off) (ds := chs text)
    (fun k ρ S => ∃ x2 ys, ys.length = k + 1 ∧ Mt (cd word) (cd text) word.length ys ∧ ρ = EM text word x2 xs ys (cd ys k) ∧ S = .off) rfl ⟨.no, [0], rfl, (fun k hk => by
      have e : k = 0 := by simp at hk; omega
      subst e
      exact ⟨Nat.zero_le _, bo_zero _ _ _, fun l _ b => b.1⟩), rfl, rfl⟩ (by
    rintro k d ρ S hd ⟨x2, ys, hy, hmt, rfl, rfl⟩
    by_cases hk : k < text.length
    · rw [chs_get hk] at hd
      cases hd
      refine ⟨_, rfl, ?_⟩
      obtain ⟨m1, m2, m3⟩ := hmt k (by omega)
      obtain ⟨h, p1, p2, p3, hw⟩ := met_while (text := text) (word := word) (c := cd text k) (k := k) (h0 := cd ys k) (xs := xs) (ys := ys) hx hm hs rfl m1 ⟨m2, fun l a b e => absurd (m3 l (by omega) e) (by omega)⟩ hm0
      have hl := p2.last p3 _ rfl hm0 (fun l hl => .inr rfl) (by omega) (Nat.le_refl _)
      have hlen : (ys.map natD).length < LIM := by rw [List.length_map]; exact lim_lt' (by omega)
      unfold b_beginnings_met_2
      show Nx (sSeq _ _ (EM text word (.pv (.str [cd text k])) xs ys (cd ys k)) .off) _
      rw [seq_nx hw]
      have hlt : h < word.length := by rcases p3 with z | ⟨z, _⟩ <;> omega
      have e3 : tVal (e2 D.eq (e2 D.ix (eV 1) (eV 5)) (eV 2)) (EM text word (.pv (.str [cd text k])) xs ys h) .off = .ok (decide (cd word h = cd text k)) .off :=
        tval_ok (e2_ok (e2_ok rfl rfl (ix_str hlt)) rfl (eq_chr _ _))
      have e4 : sIf (tVal (e2 D.eq (e2 D.ix (eV 1) (eV 5)) (eV 2))) (sAug 5 D.iadd (eC (.int 1))) sNext (EM text word (.pv (.str [cd text k])) xs ys h) .off = .ok (.nx (EM text word (.pv (.str [cd text k])) xs ys (if cd word h = cd text k then h + 1 else h))) .off := by
        rw [if_ok e3]
        by_cases q : cd word h = cd text k
        · rw [decide_eq_true q, if_pos q]
          rfl
        · rw [decide_eq_false q, if_neg q]
          rfl
      rw [seq_nx e4]
      generalize hv : (if cd word h = cd text k then h + 1 else h) = v at *
      have hvm : v ≤ word.length := by rw [← hv]; split <;> omega
      simp only [sSeq, sSet, sOwn, sRet, sIf, sNext, sApp, sFrz, sAug, sPar2, sPar3, xE, xL, eV, eB, eC, DN.e1, DN.e2, eIf, eBi, eTup, eLst, aCons, aNil, tVal, tTruth, tAnd, tOr, tNot, tYes, lLst, eL, eSl, oNo, oSome, eAnd, eNotT, bind_def, M.bind, M.pure, nx_ok, M.of, gN, gT, gsCons, gsNil, Option.bind_some, Option.map_some, List.getElem?_cons_zero, List.getElem?_cons_succ, List.set_cons_zero, List.set_cons_succ, List.length_cons, List.length_nil, Nat.reduceAdd, Nat.reduceLT, Nat.zero_lt_succ, if_true, ite_true, if_false, ite_false, Bool.false_eq_true, and_self, D.add, D.iadd, D.sub, D.neg, D.gt, D.lt, bMin2, bMin3, bMax2, bLen, D.size, D.truth, eq_chr, ne_chr, eq_int, ne_int, ite_pure, lim0, lim1, lim2, lim3, Nat.zero_add, decide_eq_true_eq, Bool.not_eq_true', decide_eq_false_iff_not, hlen]
      refine ⟨.pv (.str [cd text k]), ys ++ [v], by rw [List.length_append, hy]; rfl, mt_app hmt hvm (by rw [hy]; exact hl.1) (fun l a b => hl.2 l (by omega) a (by rw [hy] at b; exact b)), ?_, trivial⟩
      rw [cd_app, if_neg (by omega), if_pos (by omega)]
      unfold EM
      rw [List.map_append]
      rfl
    · rw [List.getElem?_eq_none (by rw [chs_len]; omega)] at hd; cases hd)
  rw [chs_len] at hy h1
  refine ⟨ys, ?_, hy, hmt⟩
  refine bodyF_ret rfl ?_
  show d_beginnings_met [.pv (.str text), .pv (.str word), .no, .no, .no, .no] .off = _
  unfold d_beginnings_met
  rw [seq_nx h0, seq_nx h1]
  exact ret_ok (bi_ok (aone_ok rfl) rfl)
end
end K45

set_option linter.all false
namespace K45
open DN
section
variable {text word : List Nat}
def fP (ys : List Nat) (m : Nat) : D → Bool
  | .int i => decide (cd ys i.toNat = m)
  | _ => false
def fF (m : Nat) : D → D
  | .int i => .int (i - m)
  | _ => .non
theorem finds_run (hm0 : 0 < word.length) (hm : word.length ≤ 900) (hn : text.length ≤ 900) : ∃ F : List Nat, f_finds [.str text, .str word] = .ok (.tup (F.map natD)) .off ∧ ∀ p, p ∈ F ↔ (p + word.length ≤ text.length ∧ ∀ i, i < word.length → cd word i = cd text (p + i)) := by
  obtain ⟨ys, hrun, hy, hmt⟩ := met_run hm0 hm hn
  have hc := call_ok (F := f_beginnings_met) (as := aCons (eV 0) (aCons (eV 1) aNil)) (ρ := [.pv (.str text), .pv (.str word), .no, .no]) (S := .off) (ds := [.str text, .str word]) (S1 := .off) rfl hrun
  have hr : iRange1 (eBi bLen (aCons (eV 2) (aNil))) [.pv (.str text), .pv (.str word), .pv (.tup (ys.map natD)), .no] .off = .ok (intsFrom 0 ys.length) .off := range1_ok (bi_ok (aone_ok rfl) (by show some (D.int ((ys.map natD).length : Nat)) = _; rw [List.length_map])) (lim_le (by omega))
  have hg := gather_pure (g := gN 3) (c := tVal (e2 D.eq (e2 D.ix (eV 2) (eV 3)) (eBi bLen (aCons (eV 1) (aNil))))) (e := e2 D.sub (eV 3) (eBi bLen (aCons (eV 1) (aNil)))) (ρ := [.pv (.str text), .pv (.str word), .pv (.tup (ys.map natD)), .no]) (S := .off) (fP ys word.length) (fF word.length) (intsFrom 0 ys.length) (by
    intro d hd
    obtain ⟨i, hi⟩ := List.mem_iff_getElem?.mp hd
    rw [rangeD_get] at hi
    by_cases q : i < ys.length
    · rw [if_pos q] at hi
      cases hi
      rw [Int.zero_add]
      refine ⟨_, rfl, ?_, fun _ => e2_ok rfl (bi_ok (aone_ok rfl) rfl) rfl⟩
      refine (tval_ok (e2_ok (e2_ok rfl rfl (ix_tup (nat_get q))) (bi_ok (aone_ok rfl) rfl) (eq_int _ _))).trans ?_
      show Res.ok (decide ((cd ys i : Int) = (word.length : Nat))) .off = Res.ok (decide (cd ys (i : Int).toNat = word.length)) .off
      rw [Int.toNat_natCast]
      by_cases z : cd ys i = word.length
      · rw [decide_eq_true (by omega), decide_eq_true z]
      · rw [decide_eq_false (by omega), decide_eq_false z]
    · rw [if_neg q] at hi; cases hi)
  have hF : ((intsFrom 0 ys.length).filter (fP ys word.length)).map (fF word.length) = (((List.range ys.length).filter fun k => decide (cd ys k = word.length)).map (· - word.length)).map natD := by
    rw [intsFrom_map, List.filter_map, List.map_map, List.map_map]
    have e : (fP ys word.length) ∘ (fun i : Nat => D.int (0 + (i : Int))) = fun k => decide (cd ys k = word.length) := by
      funext k
      show decide (cd ys (0 + (k : Int)).toNat = word.length) = _
      rw [Int.zero_add, Int.toNat_natCast]
    rw [e]
    apply List.map_congr_left
    intro k hk
    obtain ⟨hk1, hk2⟩ := List.mem_filter.mp hk
    have hk3 : cd ys k = word.length := of_decide_eq_true hk2
    have hk4 := (hmt k (List.mem_range.mp hk1)).2.1.1
    show D.int (0 + (k : Int) - (word.length : Nat)) = D.int ((k - word.length : Nat) : Int)
    congr 1
    omega
  rw [hF] at hg
  refine ⟨((List.range ys.length).filter fun k => decide (cd ys k = word.length)).map (· - word.length), ?_, fun p => ?_⟩

  · refine bodyF_ret rfl ?_
    show d_finds [.pv (.str text), .pv (.str word), .no, .no] .off = _
    unfold d_finds
    rw [seq_nx (set_ok (g := gN 2) hc rfl)]
    exact ret_ok (bi_ok (aone_ok (eL_ok (lc_ok hr hg))) rfl)
  · rw [List.mem_map]
    constructor
    · rintro ⟨k, hk, rfl⟩
      obtain ⟨hk1, hk2⟩ := List.mem_filter.mp hk
      have hk3 : cd ys k = word.length := of_decide_eq_true hk2
      have hk0 := List.mem_range.mp hk1
      obtain ⟨_, ⟨b1, b2⟩, _⟩ := hmt k hk0
      rw [hk3] at b1 b2
      exact ⟨by omega, b2⟩
    · rintro ⟨h1, h2⟩
      have hk0 : p + word.length < ys.length := by omega
      obtain ⟨m1, _, m3⟩ := hmt (p + word.length) hk0
      have hb : Bo (cd word) (cd text) (p + word.length) word.length := ⟨by omega, fun i hi => by
        rw [h2 i hi]
        congr 1
        omega⟩
      have := m3 _ (Nat.le_refl _) hb
      refine ⟨p + word.length, List.mem_filter.mpr ⟨List.mem_range.mpr hk0, decide_eq_true (by omega)⟩, by omega⟩
end
/-! _law_same of a value and itself -/
theorem same_tup (ds : List D) (n : Nat) (hl : ds.length ≤ 900) (h : ∀ d ∈ ds, f__law_same n [d, d] = .ok (.bl true) .off) : f__law_same (n + 1) [.tup ds, .tup ds] = .ok (.bl true) .off := by
  refine bodyF_ret rfl ?_
  show d__law_same (f__law_same n) [.pv (.tup ds), .pv (.tup ds), .no] .off = _
  unfold d__law_same
  have hr : iRange1 (eBi bLen (aCons (eV 0) (aNil))) [.pv (.tup ds), .pv (.tup ds), .no] .off = .ok (intsFrom 0 ds.length) .off := range1_ok (bi_ok (aone_ok rfl) rfl) (lim_le (by omega))
  have hg := gather_all (g := gN 2) (e := eCall (f__law_same n) (aCons (e2 D.ix (eV 0) (eV 2)) (aCons (e2 D.ix (eV 1) (eV 2)) (aNil)))) (ρ := [.pv (.tup ds), .pv (.tup ds), .no]) (S := .off) (fun _ => .bl true) (ds := intsFrom 0 ds.length) (by
    intro d hd
    obtain ⟨i, hi⟩ := List.mem_iff_getElem?.mp hd
    rw [rangeD_get] at hi
    by_cases q : i < ds.length
    · rw [if_pos q] at hi
      cases hi
      rw [Int.zero_add]
      have hix : ds[i]? = some ds[i] := List.getElem?_eq_getElem q
      exact ⟨_, rfl, call_ok (acons_ok (e2_ok rfl rfl (ix_tup hix)) (aone_ok (e2_ok rfl rfl (ix_tup hix)))) (h _ (List.getElem_mem q))⟩
    · rw [if_neg q] at hi; cases hi)
  have hall : bAll [.lst ((intsFrom 0 ds.length).map fun _ => D.bl true)] = some (.bl true) := by
    have : ∀ xs : List D, bsOf (xs.map fun _ => D.bl true) = some (xs.map fun _ => true) := fun xs => by
      induction xs with
      | nil => rfl
      | cons x r ih =>
        show (bsOf (r.map fun _ => D.bl true)).map _ = _
        rw [ih]
        rfl
    show (bsOf _).map _ = _
    rw [this]
    show some (D.bl (List.all _ id)) = _
    congr 2
    rw [List.all_eq_true]
    intro x hx
    obtain ⟨_, _, rfl⟩ := List.mem_map.mp hx
    rfl
  have hbi : eBi bAll (aCons (eL (lLc (iRange1 (eBi bLen (aCons (eV 0) (aNil)))) (gN 2) (tYes) (eCall (f__law_same n) (aCons (e2 D.ix (eV 0) (eV 2)) (aCons (e2 D.ix (eV 1) (eV 2)) (aNil)))) [2])) (aNil)) [.pv (.tup ds), .pv (.tup ds), .no] .off = .ok (.bl true) .off := bi_ok (aone_ok (eL_ok (lc_ok hr hg))) hall
  have hc : tOr (tAnd (tTruth (e1 (D.isi "tuple") (eV 0))) (tTruth (e1 (D.isi "tuple") (eV 1)))) (tAnd (tTruth (e1 (D.isi "list") (eV 0))) (tTruth (e1 (D.isi "list") (eV 1)))) [.pv (.tup ds), .pv (.tup ds), .no] .off = .ok true .off := rfl
  have he : e2 D.eq (eBi bLen (aCons (eV 0) (aNil))) (eBi bLen (aCons (eV 1) (aNil))) [.pv (.tup ds), .pv (.tup ds), .no] .off = .ok (.bl true) .off := (e2_ok (bi_ok (aone_ok rfl) rfl) (bi_ok (aone_ok rfl) rfl) (eq_int _ _)).trans (by rw [decide_eq_true rfl])
  have hre : sRet (eAnd (e2 D.eq (eBi bLen (aCons (eV 0) (aNil))) (eBi bLen (aCons (eV 1) (aNil)))) (eBi bAll (aCons (eL (lLc (iRange1 (eBi bLen (aCons (eV 0) (aNil)))) (gN 2) (tYes) (eCall (f__law_same n) (aCons (e2 D.ix (eV 0) (eV 2)) (aCons (e2 D.ix (eV 1) (eV 2)) (aNil)))) [2])) (aNil)))) [.pv (.tup ds), .pv (.tup ds), .no] .off = .ok (.rt (.bl true)) .off := by
    refine ret_ok ?_
    unfold eAnd
    rw [bind_ok he]
    exact hbi
  exact seq_rt ((if_yes hc).trans hre)
theorem same_int (i : Int) (n : Nat) : f__law_same (n + 1) [.int i, .int i] = .ok (.bl true) .off := by
  refine bodyF_ret rfl ?_
  show d__law_same (f__law_same n) [.pv (.int i), .pv (.int i), .no] .off = _
  unfold d__law_same
  have he : e2 D.eq (eV 0) (eV 1) [.pv (.int i), .pv (.int i), .no] .off = .ok (.bl true) .off := (e2_ok rfl rfl (eq_int _ _)).trans (by rw [decide_eq_true rfl])
  have hre := ret_ok he
  rw [seq_nx (S' := .off) (ρ' := [.pv (.int i), .pv (.int i), .no]) rfl, seq_nx (S' := .off) (ρ' := [.pv (.int i), .pv (.int i), .no]) rfl]
  exact seq_rt ((if_yes (S1 := .off) rfl).trans hre)
theorem same_nats (xs : List Nat) (hl : xs.length ≤ 900) : f__law_same 20 [.tup (xs.map natD), .tup (xs.map natD)] = .ok (.bl true) .off :=
  same_tup _ 19 (by rw [List.length_map]; exact hl) fun d hd => by
    obtain ⟨x, _, rfl⟩ := List.mem_map.mp hd
    exact same_int _ 18
end K45

set_option linter.all false
namespace K45
open DN
abbrev LE (x2 x3 x4 x5 x6 x7 x8 x9 x10 x11 x12 x13 x14 x15 : Slot) : Env := [.no, .box, x2, x3, x4, x5, x6, x7, x8, x9, x10, x11, x12, x13, x14, x15]
theorem draw_nat {many : Nat} {S : BX} (h : Good S) (h0 : 0 < many) (h1 : many < 1000) : ∃ d : Nat, ∃ S', f__law_draw [.int (many : Nat)] S = .ok (.int d) S' ∧ Good S' ∧ d < many := by
  obtain ⟨d, S', a, b, c, e⟩ := draw_spec (many := (many : Nat)) h (by omega) (by omega)
  obtain ⟨n, rfl⟩ := Int.eq_ofNat_of_zero_le c
  exact ⟨n, S', a, b, by omega⟩
theorem drawC {many : Nat} {S : BX} {ρ : Env} (hb : ρ[1]? = some .box) (h : Good S) (h0 : 0 < many) (h1 : many < 1000) : ∃ d : Nat, ∃ S', eCallB f__law_draw 1 (aCons (eC (.int (many : Nat))) aNil) ρ S = .ok (.int d) S' ∧ Good S' ∧ d < many := by
  obtain ⟨d, S', a, b, c⟩ := draw_nat h h0 h1
  exact ⟨d, S', callB_ok hb (aone_ok rfl) a, b, c⟩
theorem textC {most i : Nat} {sg : List Nat} {S : BX} {ρ : Env} (hb : ρ[1]? = some .box) (hs : ρ[i]? = some (.pv (.str sg))) (h : Good S) (hm : most ≤ 900) (h0 : 0 < sg.length) (h1 : sg.length ≤ 900) :
    ∃ x S', eCallB f__law_text 1 (aCons (eC (.int (most : Nat))) (aCons (eV i) aNil)) ρ S = .ok (.str x) S' ∧ Good S' ∧ x.length ≤ most := by
  obtain ⟨x, S', a, b, c⟩ := text_spec (most := most) h hm h0 h1
  have hv : eV i ρ S = .ok (.str sg) S := by unfold eV; rw [hs]; rfl
  exact ⟨x, S', callB_ok (F := f_text) hb (acons_ok rfl (aone_ok hv)) a, b, c⟩
theorem add_str {x y : List Nat} (h : x.length + y.length ≤ 900) : D.add (.str x) (.str y) = some (.str (x ++ y)) := by
  show (if _ then _ else _) = _
  rw [if_pos (lim_le (by omega))]
def h_law (rest : DenS) : DenS :=
  sSeq (sSet (gN 3) (e2 D.ix (eLst (aCons (eC (.str [97, 98])) (aCons (eC (.str [97, 98, 99])) (aCons (eC (.str [97, 98, 10])) (aNil))))) (eCallB f__law_draw 1 (aCons (eC (.int 3)) (aNil)))))
  (sSeq (sSet (gT (gsCons (gN 10) (gsCons (gN 11) (gsNil)))) (eTup (aCons (eCallB f__law_text 1 (aCons (eC (.int 14)) (aCons (eV 3) (aNil)))) (aCons (e2 D.add (e2 D.ix (eV 3) (eCallB f__law_draw 1 (aCons (eC (.int 2)) (aNil)))) (eCallB f__law_text 1 (aCons (eC (.int 4)) (aCons (eV 3) (aNil))))) (aNil)))))
  (sSeq (sIf (tVal (e2 D.eq (eCallB f__law_draw 1 (aCons (eC (.int 3)) (aNil))) (eC (.int 0)))) (sSet (gN 10) (e2 D.add (e2 D.add (e2 D.add (e2 D.add (eSl (eV 10) (oNo) (oSome (eC (.int 5)))) (eSl (eV 11) (oNo) (oSome (eC (.int 2))))) (eCallB f__law_text 1 (aCons (eC (.int 1)) (aCons (eV 3) (aNil))))) (eSl (eV 11) (oSome (eC (.int 2))) (oNo))) (eSl (eV 10) (oSome (eC (.int 5))) (oSome (eC (.int 9)))))) (sNext)) rest))
/-- the first three statements: signs, text, word -/
theorem law_head {P : Env → BX → Prop} {S : BX} {rest : DenS} {x2 x3 x4 x5 x6 x7 x8 x9 x10 x11 x12 x13 x14 x15 : Slot} (h : Good S)
    (hk : ∀ sg text word S', Good S' → 2 ≤ sg.length → sg.length ≤ 3 → 1 ≤ word.length → word.length ≤ 5 → text.length ≤ 100 → Nx (rest (LE x2 (.pv (.str sg)) x4 x5 x6 x7 x8 x9 (.pv (.str text)) (.pv (.str word)) x12 x13 x14 x15) S') P) :
    Nx (h_law rest
     (LE x2 x3 x4 x5 x6 x7 x8 x9 x10 x11 x12 x13 x14 x15) S) P := by
  unfold h_law
  obtain ⟨d, S1, a1, b1, c1⟩ := drawC (many := 3) (ρ := LE x2 x3 x4 x5 x6 x7 x8 x9 x10 x11 x12 x13 x14 x15) rfl h (by omega) (by omega)
  have hsg : ∃ sg, ([.str [97, 98], .str [97, 98, 99], .str [97, 98, 10]] : List D)[d]? = some (.str sg) ∧ 2 ≤ sg.length ∧ sg.length ≤ 3 := by
    match d, c1 with
    | 0, _ => exact ⟨_, rfl, by decide, by decide⟩
    | 1, _ => exact ⟨_, rfl, by decide, by decide⟩
    | 2, _ => exact ⟨_, rfl, by decide, by decide⟩
  obtain ⟨sg, g1, g2, g3⟩ := hsg
  refine nx_seq (set_ok (g := gN 3) (ρ' := LE x2 (.pv (.str sg)) x4 x5 x6 x7 x8 x9 x10 x11 x12 x13 x14 x15) (e2_ok (lst_ok (acons_ok rfl (acons_ok rfl (aone_ok rfl))) (lim_le (by show 3 ≤ 1000; omega))) a1 (ix_lst g1)) rfl) ?_
  obtain ⟨x, S2, t1, t2, t3⟩ := textC (most := 14) (i := 3) (sg := sg) (ρ := LE x2 (.pv (.str sg)) x4 x5 x6 x7 x8 x9 x10 x11 x12 x13 x14 x15) rfl rfl b1 (by omega) (by omega) (by omega)
  obtain ⟨d2, S3, a2, b2, c2⟩ := drawC (many := 2) (ρ := LE x2 (.pv (.str sg)) x4 x5 x6 x7 x8 x9 x10 x11 x12 x13 x14 x15) rfl t2 (by omega) (by omega)
  obtain ⟨y, S4, u1, u2, u3⟩ := textC (most := 4) (i := 3) (sg := sg) (ρ := LE x2 (.pv (.str sg)) x4 x5 x6 x7 x8 x9 x10 x11 x12 x13 x14 x15) rfl rfl b2 (by omega) (by omega) (by omega)
  have hw : e2 D.add (e2 D.ix (eV 3) (eCallB f__law_draw 1 (aCons (eC (.int 2)) (aNil)))) (eCallB f__law_text 1 (aCons (eC (.int 4)) (aCons (eV 3) (aNil)))) (LE x2 (.pv (.str sg)) x4 x5 x6 x7 x8 x9 x10 x11 x12 x13 x14 x15) S2 = .ok (.str ([sg.getD d2 0] ++ y)) S4 :=
    e2_ok (e2_ok rfl a2 (ix_str (by omega))) u1 (add_str (by show 1 + y.length ≤ 900; omega))
  refine nx_seq (set_ok (g := gT (gsCons (gN 10) (gsCons (gN 11) (gsNil)))) (ρ' := LE x2 (.pv (.str sg)) x4 x5 x6 x7 x8 x9 (.pv (.str x)) (.pv (.str ([sg.getD d2 0] ++ y))) x12 x13 x14 x15) (tup_ok (acons_ok t1 (aone_ok hw)) (lim_le (by show 2 ≤ 1000; omega))) rfl) ?_
  generalize hword : [sg.getD d2 0] ++ y = word
  have hwl : word.length = 1 + y.length := by rw [← hword]; simp; omega
  obtain ⟨d3, S5, a3, b3, c3⟩ := drawC (many := 3) (ρ := LE x2 (.pv (.str sg)) x4 x5 x6 x7 x8 x9 (.pv (.str x)) (.pv (.str word)) x12 x13 x14 x15) rfl u2 (by omega) (by omega)
  have hc : tVal (e2 D.eq (eCallB f__law_draw 1 (aCons (eC (.int 3)) (aNil))) (eC (.int 0))) (LE x2 (.pv (.str sg)) x4 x5 x6 x7 x8 x9 (.pv (.str x)) (.pv (.str word)) x12 x13 x14 x15) S4 = .ok (decide ((d3 : Int) = 0)) S5 := tval_ok (e2_ok a3 (b := eC (.int 0)) (y := .int 0) rfl (eq_int _ _))
  have fin : ∃ z S6, sIf (tVal (e2 D.eq (eCallB f__law_draw 1 (aCons (eC (.int 3)) (aNil))) (eC (.int 0)))) (sSet (gN 10) (e2 D.add (e2 D.add (e2 D.add (e2 D.add (eSl (eV 10) (oNo) (oSome (eC (.int 5)))) (eSl (eV 11) (oNo) (oSome (eC (.int 2))))) (eCallB f__law_text 1 (aCons (eC (.int 1)) (aCons (eV 3) (aNil))))) (eSl (eV 11) (oSome (eC (.int 2))) (oNo))) (eSl (eV 10) (oSome (eC (.int 5))) (oSome (eC (.int 9)))))) (sNext)
      (LE x2 (.pv (.str sg)) x4 x5 x6 x7 x8 x9 (.pv (.str x)) (.pv (.str word)) x12 x13 x14 x15) S4 = .ok (.nx (LE x2 (.pv (.str sg)) x4 x5 x6 x7 x8 x9 (.pv (.str z)) (.pv (.str word)) x12 x13 x14 x15)) S6 ∧ Good S6 ∧ z.length ≤ 100 := by
    by_cases q : (d3 : Int) = 0
    · rw [decide_eq_true q] at hc
      rw [if_yes hc]
      obtain ⟨v, S6, v1, v2, v3⟩ := textC (most := 1) (i := 3) (sg := sg) (ρ := LE x2 (.pv (.str sg)) x4 x5 x6 x7 x8 x9 (.pv (.str x)) (.pv (.str word)) x12 x13 x14 x15) rfl rfl b3 (by omega) (by omega) (by omega)
      have l1 := cut_le x none (some 5)
      have l2 := cut_le word none (some 2)
      have l3 := cut_le word (some 2) none
      have l4 := cut_le x (some 5) (some 9)
      refine ⟨_, S6, set_ok (g := gN 10) (e2_ok (e2_ok (e2_ok (e2_ok (sl_ok (x := .str x) rfl rfl rfl rfl) (sl_ok (x := .str word) rfl rfl rfl rfl) (add_str (by omega))) v1 (add_str (by rw [List.length_append]; omega))) (sl_ok (x := .str word) rfl rfl rfl rfl) (add_str (by rw [List.length_append, List.length_append]; omega))) (sl_ok (x := .str x) rfl rfl rfl rfl) (add_str (by rw [List.length_append, List.length_append, List.length_append]; omega))) rfl, v2, ?_⟩
      rw [List.length_append, List.length_append, List.length_append, List.length_append]
      omega
    · rw [decide_eq_false q] at hc
      rw [if_no hc]
      exact ⟨x, S5, rfl, b3, by omega⟩
  obtain ⟨z, S6, f1, f2, f3⟩ := fin
  refine nx_seq f1 ?_
  exact hk sg z word S6 f2 g2 g3 (by omega) (by omega) f3
end K45

set_option linter.all false
namespace K45
open DN
section
variable {text word : List Nat} {S : BX} {x2 x3 x4 x5 x6 x7 x8 x9 x10 x11 x12 x13 x14 x15 : Slot}
def Nf (text word : List Nat) (b : Nat) : Nat := dp 0 (cd text) (cd word) b word.length
def Ef (text word : List Nat) (b a : Nat) : Nat := dp 1 (cd word) (sh (cd text) a) word.length (b - a)
def Rf (text word : List Nat) (b : Nat) : D := .lst (((List.range (b + 1)).map (Ef text word b)).map natD)
def rowsD (text word : List Nat) : D := .lst ((List.range (text.length + 1)).map (Rf text word))
def dueD (text word : List Nat) : D := .tup (((List.range (text.length + 1)).map (Nf text word)).map natD)
theorem range_in {a : Den} {ρ : Env} {n : Nat} (h : a ρ S = .ok (.int (n : Nat)) S) (hn : n ≤ 900) : iRange1 (e2 D.add a (eC (.int 1))) ρ S = .ok ((List.range (n + 1)).map natD) S := by
  rw [← ints_nat]
  exact range1_ok (n := n + 1) (e2_ok h rfl rfl) (lim_le (by omega))
theorem st4 (hn : text.length ≤ 100) (hm : word.length ≤ 5) : sSet (gN 4) (eL (lLc (iRange1 (e2 D.add (eBi bLen (aCons (eV 10) (aNil))) (eC (.int 1)))) (gN 12) (tYes) (eL (lLc (iRange1 (e2 D.add (eV 12) (eC (.int 1)))) (gN 13) (tYes) (eCall f__law_distance (aCons (eV 11) (aCons (eSl (eV 10) (oSome (eV 13)) (oSome (eV 12))) (aNil)))) [13])) [12]))
    (LE x2 x3 x4 x5 x6 x7 x8 x9 (.pv (.str text)) (.pv (.str word)) x12 x13 x14 x15) S = .ok (.nx (LE x2 x3 (.pv (rowsD text word)) x5 x6 x7 x8 x9 (.pv (.str text)) (.pv (.str word)) x12 x13 x14 x15)) S := by
  have hr := range_in (a := eBi bLen (aCons (eV 10) (aNil))) (ρ := LE x2 x3 x4 x5 x6 x7 x8 x9 (.pv (.str text)) (.pv (.str word)) x12 x13 x14 x15) (S := S) (n := text.length) (bi_ok (aone_ok rfl) rfl) (by omega)
  have hg := gather_map (g := gN 12) (e := eL (lLc (iRange1 (e2 D.add (eV 12) (eC (.int 1)))) (gN 13) (tYes) (eCall f__law_distance (aCons (eV 11) (aCons (eSl (eV 10) (oSome (eV 13)) (oSome (eV 12))) (aNil)))) [13])) (ρ := LE x2 x3 x4 x5 x6 x7 x8 x9 (.pv (.str text)) (.pv (.str word)) .no x13 x14 x15) (S := S) natD (Rf text word) (List.range (text.length + 1)) (by
    intro b hb
    have hbn := List.mem_range.mp hb
    refine ⟨LE x2 x3 x4 x5 x6 x7 x8 x9 (.pv (.str text)) (.pv (.str word)) (.pv (natD b)) x13 x14 x15, rfl, ?_⟩
    have hr1 := range_in (a := eV 12) (ρ := LE x2 x3 x4 x5 x6 x7 x8 x9 (.pv (.str text)) (.pv (.str word)) (.pv (natD b)) x13 x14 x15) (S := S) (n := b) rfl (by omega)
    have hg1 := gather_map (g := gN 13) (e := eCall f__law_distance (aCons (eV 11) (aCons (eSl (eV 10) (oSome (eV 13)) (oSome (eV 12))) (aNil)))) (ρ := LE x2 x3 x4 x5 x6 x7 x8 x9 (.pv (.str text)) (.pv (.str word)) (.pv (natD b)) .no x14 x15) (S := S) natD (fun a => natD (Ef text word b a)) (List.range (b + 1)) (by
      intro a ha
      have hab := List.mem_range.mp ha
      have hd := law_distance_run (one := word) (other := piece text a b) (by rw [piece_len (by omega)]; omega) (by omega)
      rw [piece_len (by omega), piece_dp] at hd
      refine ⟨LE x2 x3 x4 x5 x6 x7 x8 x9 (.pv (.str text)) (.pv (.str word)) (.pv (natD b)) (.pv (natD a)) x14 x15, rfl, ?_⟩
      have hs : eSl (eV 10) (oSome (eV 13)) (oSome (eV 12)) (LE x2 x3 x4 x5 x6 x7 x8 x9 (.pv (.str text)) (.pv (.str word)) (.pv (natD b)) (.pv (natD a)) x14 x15) S = .ok (.str (piece text a b)) S :=
        sl_ok (x := .str text) (S1 := S) (S2 := S) (o := some (a : Int)) (p := some (b : Int)) rfl rfl rfl (by show some (D.str (cut text _ _)) = _; rw [cut_nat (by omega) (by omega)]; rfl)
      exact call_ok (acons_ok (x := .str word) rfl (aone_ok hs)) hd)
    have := eL_ok (lc_ok (vs := [13]) (ρ := LE x2 x3 x4 x5 x6 x7 x8 x9 (.pv (.str text)) (.pv (.str word)) (.pv (natD b)) x13 x14 x15) hr1 hg1)
    rw [this]
    unfold Rf
    rw [List.map_map]
    rfl)
  exact set_ok (eL_ok (lc_ok (vs := [12]) hr hg)) rfl
theorem min_eq {b : Nat} : bMin [Rf text word b] = some (natD (Nf text word b)) := by
  have hne : (List.range (b + 1)).map (Ef text word b) ≠ [] := by rw [List.range_succ, List.map_append]; simp
  obtain ⟨v, h1, _, h2, h3⟩ := bMin_nat hne
  obtain ⟨a0, ha0, rfl⟩ := List.mem_map.mp h1
  obtain ⟨a1, k1, k2⟩ := near_ex (cd text) (cd word) b word.length
  have k3 := near_le (cd text) (cd word) b word.length a0 (by have := List.mem_range.mp ha0; omega)
  have k4 := h3 (Ef text word b a1) (List.mem_map.mpr ⟨a1, List.mem_range.mpr (by omega), rfl⟩)
  have e : Ef text word b a0 = Nf text word b := by
    unfold Ef Nf at *
    omega
  rw [e] at h2
  exact h2
theorem st5 (hn : text.length ≤ 100) (hm : word.length ≤ 5) : sSet (gN 5) (eBi bTuple (aCons (eL (lLc (iOf (eV 4)) (gN 14) (tYes) (eBi bMin (aCons (eV 14) (aNil))) [14])) (aNil)))
    (LE x2 x3 (.pv (rowsD text word)) x5 x6 x7 x8 x9 x10 x11 x12 x13 x14 x15) S = .ok (.nx (LE x2 x3 (.pv (rowsD text word)) (.pv (dueD text word)) x6 x7 x8 x9 x10 x11 x12 x13 x14 x15)) S := by
  have hg := gather_map (g := gN 14) (e := eBi bMin (aCons (eV 14) (aNil))) (ρ := LE x2 x3 (.pv (rowsD text word)) x5 x6 x7 x8 x9 x10 x11 x12 x13 .no x15) (S := S) (Rf text word) (fun b => natD (Nf text word b)) (List.range (text.length + 1)) (by
    intro b hb
    exact ⟨_, rfl, bi_ok (aone_ok rfl) min_eq⟩)
  have h := eL_ok (lc_ok (vs := [14]) (it := iOf (eV 4)) (ρ := LE x2 x3 (.pv (rowsD text word)) x5 x6 x7 x8 x9 x10 x11 x12 x13 x14 x15) (S := S) rfl hg)
  refine set_ok (bi_ok (aone_ok h) (r := dueD text word) ?_) rfl
  unfold dueD
  rw [List.map_map]
  rfl
theorem near_due (hn : text.length ≤ 900) (hm : word.length ≤ 900) : f_near_ends [.str text, .str word] = .ok (dueD text word) .off := by
  rw [near_ends_run hm hn, rowOf_nat]
  rfl
theorem same_due (hn : text.length ≤ 800) : f__law_same 20 [dueD text word, dueD text word] = .ok (.bl true) .off := same_nats _ (by rw [List.length_map, List.length_range]; omega)
theorem sif_false {t : DenT} {a : DenS} {ρ : Env} (h : t ρ S = .ok false S) : sIf t a sNext ρ S = .ok (.nx ρ) S := if_no h
theorem st6 (hn : text.length ≤ 100) (hm : word.length ≤ 5) : sIf (tNot (tTruth (eCall (f__law_same 20) (aCons (eCall f_near_ends (aCons (eV 10) (aCons (eV 11) (aNil)))) (aCons (eV 5) (aNil)))))) (sRet (eC (.bl false))) (sNext)
    (LE x2 x3 x4 (.pv (dueD text word)) x6 x7 x8 x9 (.pv (.str text)) (.pv (.str word)) x12 x13 x14 x15) S = .ok (.nx (LE x2 x3 x4 (.pv (dueD text word)) x6 x7 x8 x9 (.pv (.str text)) (.pv (.str word)) x12 x13 x14 x15)) S :=
  sif_false (tnot_ok (k := true) (ttruth_ok (call_ok (acons_ok (call_ok (acons_ok (x := .str text) rfl (aone_ok (x := .str word) rfl)) (near_due (by omega) (by omega))) (aone_ok (x := dueD text word) rfl)) (same_due (by omega)))))
/-- the law's own nearest -/
theorem best_law (hn : text.length ≤ 100) : ∃ v e a, Best (cd text) (cd word) text.length word.length v e a ∧ bMin [dueD text word] = some (natD v) ∧
    (((List.range (text.length + 1)).filter fun b => decide (Nf text word b = v)).map natD)[0]? = some (natD e) ∧
    bMax [.lst (((List.range (e + 1)).filter fun c => decide (Ef text word e c = v)).map natD)] = some (natD a) := by
  have hne : (List.range (text.length + 1)).map (Nf text word) ≠ [] := by rw [List.range_succ, List.map_append]; simp
  obtain ⟨v, h1, h2, _, h3⟩ := bMin_nat hne
  obtain ⟨b0, hb0, hv⟩ := List.mem_map.mp h1
  have hmem : b0 ∈ (List.range (text.length + 1)).filter fun b => decide (Nf text word b = v) := List.mem_filter.mpr ⟨hb0, decide_eq_true hv⟩
  cases hf : (List.range (text.length + 1)).filter fun b => decide (Nf text word b = v) with
  | nil => rw [hf] at hmem; cases hmem
  | cons e r =>
    have he := congrArg List.head? hf
    rw [List.head?_filter] at he
    have he' : (List.range (text.length + 1)).find? (fun b => decide (Nf text word b = v)) = some e := he
    rw [List.find?_range_eq_some] at he'
    obtain ⟨e1, e2, e3⟩ := he'
    have e1' : Nf text word e = v := of_decide_eq_true e1
    have e2' := List.mem_range.mp e2
    obtain ⟨a1, k1, k2⟩ := near_ex (cd text) (cd word) e word.length
    have k3 := near_le (cd text) (cd word) e word.length a1 k1
    have hm2 : a1 ∈ (List.range (e + 1)).filter fun c => decide (Ef text word e c = v) := List.mem_filter.mpr ⟨List.mem_range.mpr (by omega), decide_eq_true (by
      unfold Ef
      unfold Nf at e1'
      omega)⟩
    obtain ⟨a, m1, _, m2, m3⟩ := bMax_nat (xs := (List.range (e + 1)).filter fun c => decide (Ef text word e c = v)) (fun z => by rw [z] at hm2; cases hm2)
    obtain ⟨n1, n2⟩ := List.mem_filter.mp m1
    refine ⟨v, e, a, ⟨by omega, e1', fun b hb => h3 _ (List.mem_map.mpr ⟨b, List.mem_range.mpr (by omega), rfl⟩), fun b hb z => ?_, by have := List.mem_range.mp n1; omega, of_decide_eq_true n2, fun c c1 c2 z => ?_⟩, h2, by rw [hf]; rfl, m2⟩
    · have := e3 b hb
      rw [decide_eq_true (show Nf text word b = v from z)] at this
      cases this
    · have := m3 c (List.mem_filter.mpr ⟨List.mem_range.mpr (by omega), decide_eq_true z⟩)
      omega
theorem due_get {b : Nat} (h : b ≤ text.length) : (((List.range (text.length + 1)).map (Nf text word)).map natD)[b]? = some (natD (Nf text word b)) := by
  rw [List.getElem?_map, List.getElem?_map, List.getElem?_range (by omega)]
  rfl
theorem dec_int (a b : Nat) : decide ((a : Int) = (b : Int)) = decide (a = b) := by
  by_cases h : a = b
  · rw [decide_eq_true h, decide_eq_true (by omega)]
  · rw [decide_eq_false h, decide_eq_false (by omega)]
theorem st8 {v e : Nat} (hn : text.length ≤ 100) (he : (((List.range (text.length + 1)).filter fun b => decide (Nf text word b = v)).map natD)[0]? = some (natD e)) : sSet (gN 7) (e2 D.ix (eL (lLc (iRange1 (e2 D.add (eBi bLen (aCons (eV 10) (aNil))) (eC (.int 1)))) (gN 12) (tVal (e2 D.eq (e2 D.ix (eV 5) (eV 12)) (eV 6))) (eV 12) [12])) (eC (.int 0)))
    (LE x2 x3 x4 (.pv (dueD text word)) (.pv (natD v)) x7 x8 x9 (.pv (.str text)) x11 x12 x13 x14 x15) S = .ok (.nx (LE x2 x3 x4 (.pv (dueD text word)) (.pv (natD v)) (.pv (natD e)) x8 x9 (.pv (.str text)) x11 x12 x13 x14 x15)) S := by
  have hr := range_in (a := eBi bLen (aCons (eV 10) (aNil))) (ρ := LE x2 x3 x4 (.pv (dueD text word)) (.pv (natD v)) x7 x8 x9 (.pv (.str text)) x11 x12 x13 x14 x15) (S := S) (n := text.length) (bi_ok (aone_ok rfl) rfl) (by omega)
  have hg := gather_mapP (g := gN 12) (c := tVal (e2 D.eq (e2 D.ix (eV 5) (eV 12)) (eV 6))) (e := eV 12) (ρ := LE x2 x3 x4 (.pv (dueD text word)) (.pv (natD v)) x7 x8 x9 (.pv (.str text)) x11 .no x13 x14 x15) (S := S) natD natD (fun b => decide (Nf text word b = v)) (List.range (text.length + 1)) (by
    intro b hb
    have hbn := List.mem_range.mp hb
    refine ⟨_, rfl, ?_, fun _ => rfl⟩
    refine (tval_ok (e2_ok (e2_ok rfl rfl (ix_tup (due_get (by omega)))) rfl (eq_int _ _))).trans ?_
    rw [dec_int])
  exact set_ok (e2_ok (eL_ok (lc_ok (vs := [12]) hr hg)) rfl (ix_lst (i := 0) he)) rfl
theorem st9 {v e a : Nat} (hn : text.length ≤ 100) (hel : e ≤ text.length) (ha : bMax [.lst (((List.range (e + 1)).filter fun c => decide (Ef text word e c = v)).map natD)] = some (natD a)) : sSet (gN 8) (eBi bMax (aCons (eL (lLc (iRange1 (e2 D.add (eV 7) (eC (.int 1)))) (gN 13) (tVal (e2 D.eq (e2 D.ix (e2 D.ix (eV 4) (eV 7)) (eV 13)) (eV 6))) (eV 13) [13])) (aNil)))
    (LE x2 x3 (.pv (rowsD text word)) x5 (.pv (natD v)) (.pv (natD e)) x8 x9 x10 x11 x12 x13 x14 x15) S = .ok (.nx (LE x2 x3 (.pv (rowsD text word)) x5 (.pv (natD v)) (.pv (natD e)) (.pv (natD a)) x9 x10 x11 x12 x13 x14 x15)) S := by
  have hr := range_in (a := eV 7) (ρ := LE x2 x3 (.pv (rowsD text word)) x5 (.pv (natD v)) (.pv (natD e)) x8 x9 x10 x11 x12 x13 x14 x15) (S := S) (n := e) rfl (by omega)
  have hg := gather_mapP (g := gN 13) (c := tVal (e2 D.eq (e2 D.ix (e2 D.ix (eV 4) (eV 7)) (eV 13)) (eV 6))) (e := eV 13) (ρ := LE x2 x3 (.pv (rowsD text word)) x5 (.pv (natD v)) (.pv (natD e)) x8 x9 x10 x11 x12 .no x14 x15) (S := S) natD natD (fun c => decide (Ef text word e c = v)) (List.range (e + 1)) (by
    intro c hc
    have hcn := List.mem_range.mp hc
    have hrow : ((List.range (text.length + 1)).map (Rf text word))[e]? = some (Rf text word e) := by
      rw [List.getElem?_map, List.getElem?_range (by omega)]; rfl
    have hcell : (((List.range (e + 1)).map (Ef text word e)).map natD)[c]? = some (natD (Ef text word e c)) := by
      rw [List.getElem?_map, List.getElem?_map, List.getElem?_range hcn]; rfl
    refine ⟨_, rfl, ?_, fun _ => rfl⟩
    refine (tval_ok (e2_ok (e2_ok (e2_ok rfl rfl (ix_lst hrow)) rfl (ix_lst hcell)) rfl (eq_int _ _))).trans ?_
    rw [dec_int])
  exact set_ok (bi_ok (aone_ok (eL_ok (lc_ok (vs := [13]) hr hg))) ha) rfl
theorem same_best (v a e : Nat) : f__law_same 20 [.tup [natD v, .tup [natD a, natD e]], .tup [natD v, .tup [natD a, natD e]]] = .ok (.bl true) .off :=
  same_tup _ 19 (by show 2 ≤ 900; omega) fun d hd => by
    rcases List.mem_cons.mp hd with rfl | hd
    · exact same_int _ 18
    · rcases List.mem_cons.mp hd with rfl | hd
      · exact same_tup _ 18 (by show 2 ≤ 900; omega) fun d hd => by
          rcases List.mem_cons.mp hd with rfl | hd
          · exact same_int _ 17
          · rcases List.mem_cons.mp hd with rfl | hd
            · exact same_int _ 17
            · cases hd
      · cases hd
theorem st10 {v e a : Nat} (hn : text.length ≤ 100) (hm : word.length ≤ 5) (hb : Best (cd text) (cd word) text.length word.length v e a) : sIf (tOr (tNot (tTruth (eCall (f__law_same 20) (aCons (eCall f_nearest (aCons (eV 10) (aCons (eV 11) (aNil)))) (aCons (eTup (aCons (eV 6) (aCons (eTup (aCons (eV 8) (aCons (eV 7) (aNil)))) (aNil)))) (aNil)))))) (tVal (e2 D.ne (eCall f_distance (aCons (eV 11) (aCons (eSl (eV 10) (oSome (eV 8)) (oSome (eV 7))) (aNil)))) (eV 6)))) (sRet (eC (.bl false))) (sNext)
    (LE x2 x3 x4 x5 (.pv (natD v)) (.pv (natD e)) (.pv (natD a)) x9 (.pv (.str text)) (.pv (.str word)) x12 x13 x14 x15) S = .ok (.nx (LE x2 x3 x4 x5 (.pv (natD v)) (.pv (natD e)) (.pv (natD a)) x9 (.pv (.str text)) (.pv (.str word)) x12 x13 x14 x15)) S := by
  obtain ⟨v', e', a', hb', hrun⟩ := nearest_run (text := text) (word := word) (by omega) (by omega)
  obtain ⟨rfl, rfl, rfl⟩ := hb.uniq hb'
  have hd := distance_run (one := word) (other := piece text a e) (by have := hb.e_le; rw [piece_len hb.e_le]; omega) (by omega)
  rw [piece_len hb.e_le, piece_dp, hb.a_at] at hd
  have hs : eSl (eV 10) (oSome (eV 8)) (oSome (eV 7)) (LE x2 x3 x4 x5 (.pv (natD v)) (.pv (natD e)) (.pv (natD a)) x9 (.pv (.str text)) (.pv (.str word)) x12 x13 x14 x15) S = .ok (.str (piece text a e)) S :=
    sl_ok (x := .str text) (S1 := S) (S2 := S) (o := some (a : Int)) (p := some (e : Int)) rfl rfl rfl (by show some (D.str (cut text _ _)) = _; rw [cut_nat hb.a_le hb.e_le]; rfl)
  have h1 : tNot (tTruth (eCall (f__law_same 20) (aCons (eCall f_nearest (aCons (eV 10) (aCons (eV 11) (aNil)))) (aCons (eTup (aCons (eV 6) (aCons (eTup (aCons (eV 8) (aCons (eV 7) (aNil)))) (aNil)))) (aNil))))) (LE x2 x3 x4 x5 (.pv (natD v)) (.pv (natD e)) (.pv (natD a)) x9 (.pv (.str text)) (.pv (.str word)) x12 x13 x14 x15) S = .ok false S :=
    tnot_ok (k := true) (ttruth_ok (call_ok (acons_ok (call_ok (acons_ok (x := .str text) rfl (aone_ok (x := .str word) rfl)) hrun) (aone_ok (tup_ok (acons_ok (x := natD v) rfl (aone_ok (tup_ok (acons_ok (x := natD a) rfl (aone_ok (x := natD e) rfl)) (lim_le (by show 2 ≤ 1000; omega))))) (lim_le (by show 2 ≤ 1000; omega))))) (same_best v a e)))
  have h2 := tval_ok (e2_ok (call_ok (acons_ok (x := .str word) (a := eV 11) rfl (aone_ok hs)) hd) (b := eV 6) (y := .int (v : Nat)) rfl (ne_int _ _))
  rw [decide_eq_true rfl] at h2
  exact sif_false (tor_ok h1 h2)
end
end K45

set_option linter.all false
set_option maxRecDepth 20000
namespace K45
open DN
section
variable {text word sg : List Nat} {S : BX} {x2 x3 x4 x5 x6 x7 x8 x9 x10 x11 x12 x13 x14 x15 : Slot}
theorem bAll_true {α : Type} (F : List α) : bAll [.lst (F.map fun _ => D.bl true)] = some (.bl true) := by
  have : bsOf (F.map fun _ => D.bl true) = some (F.map fun _ => true) := by
    induction F with
    | nil => rfl
    | cons x r ih =>
      show (bsOf (r.map fun _ => D.bl true)).map _ = _
      rw [ih]
      rfl
  show (bsOf _).map _ = _
  rw [this]
  show some (D.bl (List.all _ id)) = _
  congr 2
  rw [List.all_eq_true]
  intro x hx
  obtain ⟨_, _, rfl⟩ := List.mem_map.mp hx
  rfl
theorem ne_bl (a b : Bool) : D.ne (.bl a) (.bl b) = some (.bl (!(a == b))) := by
  unfold D.ne D.eqv D.depth
  rw [if_pos (by simp)]
theorem st11 {v e a : Nat} (hn : text.length ≤ 100) (hm0 : 1 ≤ word.length) (hm : word.length ≤ 5) (hb : Best (cd text) (cd word) text.length word.length v e a) : sIf (tOr (tNot (tTruth (eBi bAll (aCons (eL (lLc (iOf (eCall f_finds (aCons (eV 10) (aCons (eV 11) (aNil))))) (gN 15) (tYes) (e2 D.eq (e2 D.ix (eV 5) (e2 D.add (eV 15) (eBi bLen (aCons (eV 11) (aNil))))) (eC (.int 0))) [15])) (aNil))))) (tOr (tVal (e2 D.gt (eBi bMax (aCons (eV 5) (aNil))) (eBi bLen (aCons (eV 11) (aNil))))) (tVal (e2 D.ne (e2 D.eq (eV 6) (eC (.int 0))) (e2 D.gt (eBi bLen (aCons (eCall f_finds (aCons (eV 10) (aCons (eV 11) (aNil)))) (aNil))) (eC (.int 0))))))) (sRet (eC (.bl false))) (sNext)
    (LE x2 x3 x4 (.pv (dueD text word)) (.pv (natD v)) x7 x8 x9 (.pv (.str text)) (.pv (.str word)) x12 x13 x14 x15) S = .ok (.nx (LE x2 x3 x4 (.pv (dueD text word)) (.pv (natD v)) x7 x8 x9 (.pv (.str text)) (.pv (.str word)) x12 x13 x14 x15)) S := by
  obtain ⟨F, hrun, hF⟩ := finds_run (text := text) (word := word) (by omega) (by omega) (by omega)
  -- where a place is found the distance is nothing
  have zero : ∀ p, p ∈ F → Nf text word (p + word.length) = 0 := fun p hp => by
    obtain ⟨q1, q2⟩ := (hF p).mp hp
    have h1 := near_le (cd text) (cd word) (p + word.length) word.length p (by omega)
    have e : p + word.length - p = word.length := by omega
    rw [e, dp_same (y := sh (cd text) p) (fun k hk => q2 k hk)] at h1
    exact Nat.le_zero.mp h1
  have hc : eCall f_finds (aCons (eV 10) (aCons (eV 11) (aNil))) (LE x2 x3 x4 (.pv (dueD text word)) (.pv (natD v)) x7 x8 x9 (.pv (.str text)) (.pv (.str word)) x12 x13 x14 x15) S = .ok (.tup (F.map natD)) S := call_ok (acons_ok (x := .str text) rfl (aone_ok (x := .str word) rfl)) hrun
  have hg := gather_map (g := gN 15) (e := e2 D.eq (e2 D.ix (eV 5) (e2 D.add (eV 15) (eBi bLen (aCons (eV 11) (aNil))))) (eC (.int 0))) (ρ := LE x2 x3 x4 (.pv (dueD text word)) (.pv (natD v)) x7 x8 x9 (.pv (.str text)) (.pv (.str word)) x12 x13 x14 .no) (S := S) natD (fun _ => D.bl true) F (by
    intro p hp
    refine ⟨LE x2 x3 x4 (.pv (dueD text word)) (.pv (natD v)) x7 x8 x9 (.pv (.str text)) (.pv (.str word)) x12 x13 x14 (.pv (natD p)), rfl, ?_⟩
    have hadd : e2 D.add (eV 15) (eBi bLen (aCons (eV 11) (aNil))) (LE x2 x3 x4 (.pv (dueD text word)) (.pv (natD v)) x7 x8 x9 (.pv (.str text)) (.pv (.str word)) x12 x13 x14 (.pv (natD p))) S = .ok (.int ((p + word.length : Nat) : Int)) S := e2_ok rfl (bi_ok (aone_ok (x := .str word) rfl) rfl) rfl
    have hix := ix_tup (due_get (text := text) (word := word) (b := p + word.length) ((hF p).mp hp).1)
    rw [zero p hp] at hix
    exact (e2_ok (e2_ok (x := dueD text word) rfl hadd hix) (b := eC (.int 0)) (y := .int 0) rfl (eq_int _ _)).trans (by rfl))
  have h1 : tNot (tTruth (eBi bAll (aCons (eL (lLc (iOf (eCall f_finds (aCons (eV 10) (aCons (eV 11) (aNil))))) (gN 15) (tYes) (e2 D.eq (e2 D.ix (eV 5) (e2 D.add (eV 15) (eBi bLen (aCons (eV 11) (aNil))))) (eC (.int 0))) [15])) (aNil)))) (LE x2 x3 x4 (.pv (dueD text word)) (.pv (natD v)) x7 x8 x9 (.pv (.str text)) (.pv (.str word)) x12 x13 x14 x15) S = .ok false S :=
    tnot_ok (k := true) (ttruth_ok (bi_ok (aone_ok (eL_ok (lc_ok (vs := [15]) (of_ok hc rfl) hg))) (bAll_true F)))
  have hne : (List.range (text.length + 1)).map (Nf text word) ≠ [] := by rw [List.range_succ, List.map_append]; simp
  obtain ⟨M, m1, m2, _, _⟩ := bMax_nat hne
  obtain ⟨b0, hb0, hM⟩ := List.mem_map.mp m1
  have hMle : M ≤ word.length := by rw [← hM]; exact near_top _ _ _ _
  have h2 : tVal (e2 D.gt (eBi bMax (aCons (eV 5) (aNil))) (eBi bLen (aCons (eV 11) (aNil)))) (LE x2 x3 x4 (.pv (dueD text word)) (.pv (natD v)) x7 x8 x9 (.pv (.str text)) (.pv (.str word)) x12 x13 x14 x15) S = .ok false S := by
    refine (tval_ok (k := decide ((word.length : Int) < (M : Int))) (e2_ok (bi_ok (aone_ok (x := dueD text word) rfl) m2) (bi_ok (aone_ok (x := .str word) rfl) rfl) rfl)).trans ?_
    rw [decide_eq_false (by omega)]
  have hiff : decide ((v : Int) = 0) = decide ((0 : Int) < ((F.map natD).length : Nat)) := by
    rw [List.length_map]
    by_cases hv : v = 0
    · subst hv
      obtain ⟨a1, k1, k2⟩ := near_ex (cd text) (cd word) e word.length
      rw [hb.e_at] at k2
      obtain ⟨z1, z2⟩ := dp_zero (Nat.le_zero.mp k2)
      have hmem : a1 ∈ F := (hF a1).mpr ⟨by have := hb.e_le; omega, fun i hi => z2 i hi⟩
      have := List.length_pos_of_mem hmem
      rw [decide_eq_true (by omega), decide_eq_true (by omega)]
    · have hF0 : F.length = 0 := by
        cases hFF : F with
        | nil => rfl
        | cons p r =>
          have hp : p ∈ F := by rw [hFF]; exact List.mem_cons_self
          have h1 := hb.least (p + word.length) ((hF p).mp hp).1
          have h2 := zero p hp
          unfold Nf at h2
          omega
      rw [decide_eq_false (by omega), decide_eq_false (by omega)]
  have h3 : tVal (e2 D.ne (e2 D.eq (eV 6) (eC (.int 0))) (e2 D.gt (eBi bLen (aCons (eCall f_finds (aCons (eV 10) (aCons (eV 11) (aNil)))) (aNil))) (eC (.int 0)))) (LE x2 x3 x4 (.pv (dueD text word)) (.pv (natD v)) x7 x8 x9 (.pv (.str text)) (.pv (.str word)) x12 x13 x14 x15) S = .ok false S := by
    refine (tval_ok (e2_ok (e2_ok (x := .int (v : Nat)) (y := .int 0) rfl rfl (eq_int _ _)) (e2_ok (bi_ok (aone_ok hc) rfl) (b := eC (.int 0)) (y := .int 0) rfl rfl) (ne_bl _ _))).trans ?_
    rw [hiff]
    simp
  exact sif_false (tor_ok h1 (tor_ok h2 h3))
theorem st12 (hn : text.length ≤ 100) (h2 : 2 ≤ sg.length) (h3 : sg.length ≤ 3) (hS : Good S) : ∃ c S', sSet (gN 9) (e2 D.add (eV 10) (e2 D.ix (eV 3) (eCallB f__law_draw 1 (aCons (eBi bLen (aCons (eV 3) (aNil))) (aNil)))))
    (LE x2 (.pv (.str sg)) x4 x5 x6 x7 x8 x9 (.pv (.str text)) x11 x12 x13 x14 x15) S = .ok (.nx (LE x2 (.pv (.str sg)) x4 x5 x6 x7 x8 (.pv (.str (text ++ [c]))) (.pv (.str text)) x11 x12 x13 x14 x15)) S' ∧ Good S' := by
  obtain ⟨d, S1, a1, b1, c1⟩ := draw_nat (many := sg.length) hS (by omega) (by omega)
  refine ⟨sg.getD d 0, S1, ?_, b1⟩
  have hd : eCallB f__law_draw 1 (aCons (eBi bLen (aCons (eV 3) (aNil))) (aNil)) (LE x2 (.pv (.str sg)) x4 x5 x6 x7 x8 x9 (.pv (.str text)) x11 x12 x13 x14 x15) S = .ok (.int (d : Nat)) S1 := callB_ok rfl (aone_ok (bi_ok (aone_ok (x := .str sg) rfl) rfl)) a1
  exact set_ok (e2_ok (x := .str text) rfl (e2_ok (x := .str sg) rfl hd (ix_str (by omega))) (add_str (by show text.length + 1 ≤ 900; omega))) rfl
theorem due_more (c : Nat) : D.sl (dueD (text ++ [c]) word) none (some (-1)) = some (dueD text word) := by
  show some (D.tup (cut _ none (some (-1)))) = some (D.tup _)
  congr 2
  have hl : (((List.range ((text ++ [c]).length + 1)).map (Nf (text ++ [c]) word)).map natD).length = text.length + 2 := by
    rw [List.length_map, List.length_map, List.length_range, List.length_append]
    rfl
  unfold cut
  rw [hl]
  have e1 : sIx (text.length + 2) 0 none = 0 := rfl
  have e2 : sIx (text.length + 2) (text.length + 2) (some (-1)) = text.length + 1 := by
    show (if (-1 : Int) < 0 then ((-1 : Int) + ((text.length + 2 : Nat) : Int)).toNat else min (-1 : Int).toNat (text.length + 2)) = _
    rw [if_pos (by decide)]
    omega
  rw [e1, e2, List.drop_zero, Nat.sub_zero]
  have e3 : (text ++ [c]).length + 1 = (text.length + 1) + 1 := by rw [List.length_append]; rfl
  rw [e3, List.range_succ, List.map_append, List.map_append, List.take_append_of_le_length (by rw [List.length_map, List.length_map, List.length_range]; omega), List.take_of_length_le (by rw [List.length_map, List.length_map, List.length_range]; omega)]
  congr 1
  apply List.map_congr_left
  intro b hb
  have hbn := List.mem_range.mp hb
  unfold Nf
  refine dp_congr (fun k hk => ?_) fun _ _ => rfl
  rw [cd_app, if_pos (by omega)]
theorem st13 {c : Nat} (hn : text.length ≤ 100) (hm : word.length ≤ 5) : sIf (tNot (tTruth (eCall (f__law_same 20) (aCons (eSl (eCall f_near_ends (aCons (eV 9) (aCons (eV 11) (aNil)))) (oNo) (oSome (e1 D.neg (eC (.int 1))))) (aCons (eV 5) (aNil)))))) (sRet (eC (.bl false))) (sNext)
    (LE x2 x3 x4 (.pv (dueD text word)) x6 x7 x8 (.pv (.str (text ++ [c]))) x10 (.pv (.str word)) x12 x13 x14 x15) S = .ok (.nx (LE x2 x3 x4 (.pv (dueD text word)) x6 x7 x8 (.pv (.str (text ++ [c]))) x10 (.pv (.str word)) x12 x13 x14 x15)) S := by
  have hne : eCall f_near_ends (aCons (eV 9) (aCons (eV 11) (aNil))) (LE x2 x3 x4 (.pv (dueD text word)) x6 x7 x8 (.pv (.str (text ++ [c]))) x10 (.pv (.str word)) x12 x13 x14 x15) S = .ok (dueD (text ++ [c]) word) S :=
    call_ok (acons_ok (x := .str (text ++ [c])) rfl (aone_ok (x := .str word) rfl)) (near_due (by rw [List.length_append]; show text.length + 1 ≤ 900; omega) (by omega))
  exact sif_false (tnot_ok (k := true) (ttruth_ok (call_ok (acons_ok (sl_ok hne rfl (o := none) (p := some (-1)) rfl (due_more c)) (aone_ok (x := dueD text word) rfl)) (same_due (by omega)))))
end
def r_law : DenS :=
  (sSeq (sSet (gN 4) (eL (lLc (iRange1 (e2 D.add (eBi bLen (aCons (eV 10) (aNil))) (eC (.int 1)))) (gN 12) (tYes) (eL (lLc (iRange1 (e2 D.add (eV 12) (eC (.int 1)))) (gN 13) (tYes) (eCall f__law_distance (aCons (eV 11) (aCons (eSl (eV 10) (oSome (eV 13)) (oSome (eV 12))) (aNil)))) [13])) [12])))
  (sSeq (sSet (gN 5) (eBi bTuple (aCons (eL (lLc (iOf (eV 4)) (gN 14) (tYes) (eBi bMin (aCons (eV 14) (aNil))) [14])) (aNil))))
  (sSeq (sIf (tNot (tTruth (eCall (f__law_same 20) (aCons (eCall f_near_ends (aCons (eV 10) (aCons (eV 11) (aNil)))) (aCons (eV 5) (aNil)))))) (sRet (eC (.bl false))) (sNext))
  (sSeq (sSet (gN 6) (eBi bMin (aCons (eV 5) (aNil))))
  (sSeq (sSet (gN 7) (e2 D.ix (eL (lLc (iRange1 (e2 D.add (eBi bLen (aCons (eV 10) (aNil))) (eC (.int 1)))) (gN 12) (tVal (e2 D.eq (e2 D.ix (eV 5) (eV 12)) (eV 6))) (eV 12) [12])) (eC (.int 0))))
  (sSeq (sSet (gN 8) (eBi bMax (aCons (eL (lLc (iRange1 (e2 D.add (eV 7) (eC (.int 1)))) (gN 13) (tVal (e2 D.eq (e2 D.ix (e2 D.ix (eV 4) (eV 7)) (eV 13)) (eV 6))) (eV 13) [13])) (aNil))))
  (sSeq (sIf (tOr (tNot (tTruth (eCall (f__law_same 20) (aCons (eCall f_nearest (aCons (eV 10) (aCons (eV 11) (aNil)))) (aCons (eTup (aCons (eV 6) (aCons (eTup (aCons (eV 8) (aCons (eV 7) (aNil)))) (aNil)))) (aNil)))))) (tVal (e2 D.ne (eCall f_distance (aCons (eV 11) (aCons (eSl (eV 10) (oSome (eV 8)) (oSome (eV 7))) (aNil)))) (eV 6)))) (sRet (eC (.bl false))) (sNext))
  (sSeq (sIf (tOr (tNot (tTruth (eBi bAll (aCons (eL (lLc (iOf (eCall f_finds (aCons (eV 10) (aCons (eV 11) (aNil))))) (gN 15) (tYes) (e2 D.eq (e2 D.ix (eV 5) (e2 D.add (eV 15) (eBi bLen (aCons (eV 11) (aNil))))) (eC (.int 0))) [15])) (aNil))))) (tOr (tVal (e2 D.gt (eBi bMax (aCons (eV 5) (aNil))) (eBi bLen (aCons (eV 11) (aNil))))) (tVal (e2 D.ne (e2 D.eq (eV 6) (eC (.int 0))) (e2 D.gt (eBi bLen (aCons (eCall f_finds (aCons (eV 10) (aCons (eV 11) (aNil)))) (aNil))) (eC (.int 0))))))) (sRet (eC (.bl false))) (sNext))
  (sSeq (sSet (gN 9) (e2 D.add (eV 10) (e2 D.ix (eV 3) (eCallB f__law_draw 1 (aCons (eBi bLen (aCons (eV 3) (aNil))) (aNil))))))
  (sIf (tNot (tTruth (eCall (f__law_same 20) (aCons (eSl (eCall f_near_ends (aCons (eV 9) (aCons (eV 11) (aNil)))) (oNo) (oSome (e1 D.neg (eC (.int 1))))) (aCons (eV 5) (aNil)))))) (sRet (eC (.bl false))) (sNext)))))))))))
section
variable {text word : List Nat} {S : BX} {x2 x3 x4 x5 x6 x7 x8 x9 x10 x11 x12 x13 x14 x15 : Slot}
def Any (ρ : Env) (S : BX) : Prop := (∃ x2 x3 x4 x5 x6 x7 x8 x9 x10 x11 x12 x13 x14 x15, ρ = LE x2 x3 x4 x5 x6 x7 x8 x9 x10 x11 x12 x13 x14 x15) ∧ Good S
theorem any_of (h : Good S) : Any (LE x2 x3 x4 x5 x6 x7 x8 x9 x10 x11 x12 x13 x14 x15) S := ⟨⟨_, _, _, _, _, _, _, _, _, _, _, _, _, _, rfl⟩, h⟩
theorem nx_end {a : DenS} {ρ ρ' : Env} {S S' : BX} {P : Env → BX → Prop} (h : a ρ S = .ok (.nx ρ') S') (k : P ρ' S') : Nx (a ρ S) P := by rw [h]; exact k
theorem law_rest {P : Env → BX → Prop} (hP : ∀ x2 x3 x4 x5 x6 x7 x8 x9 x10 x11 x12 x13 x14 x15 S, Good S → P (LE x2 x3 x4 x5 x6 x7 x8 x9 x10 x11 x12 x13 x14 x15) S) (sg text word : List Nat) (S : BX) (v e a : Nat) (hS : Good S) (s2 : 2 ≤ sg.length) (s3 : sg.length ≤ 3) (m0 : 1 ≤ word.length) (m5 : word.length ≤ 5) (n100 : text.length ≤ 100) (hb : Best (cd text) (cd word) text.length word.length v e a) (hv : bMin [dueD text word] = some (natD v))
    (he : (((List.range (text.length + 1)).filter fun b => decide (Nf text word b = v)).map natD)[0]? = some (natD e)) (ha : bMax [.lst (((List.range (e + 1)).filter fun c => decide (Ef text word e c = v)).map natD)] = some (natD a)) :
    Nx (r_law (LE x2 (.pv (.str sg)) x4 x5 x6 x7 x8 x9 (.pv (.str text)) (.pv (.str word)) x12 x13 x14 x15) S) P := by
  unfold r_law
  rw [seq_nx (st4 n100 m5)]
  rw [seq_nx (st5 n100 m5)]
  rw [seq_nx (st6 n100 m5)]
  refine nx_seq (set_ok (g := gN 6) (ρ' := LE x2 (.pv (.str sg)) (.pv (rowsD text word)) (.pv (dueD text word)) (.pv (natD v)) x7 x8 x9 (.pv (.str text)) (.pv (.str word)) x12 x13 x14 x15) (bi_ok (aone_ok (x := dueD text word) rfl) hv) rfl) ?_
  rw [seq_nx (st8 n100 he)]
  rw [seq_nx (st9 n100 hb.e_le ha)]
  rw [seq_nx (st10 n100 m5 hb)]
  rw [seq_nx (st11 n100 m0 m5 hb)]
  have hst := st12 (sg := sg) (text := text) (S := S) (x2 := x2) (x4 := .pv (rowsD text word)) (x5 := .pv (dueD text word)) (x6 := .pv (natD v)) (x7 := .pv (natD e)) (x8 := .pv (natD a)) (x9 := x9) (x11 := .pv (.str word)) (x12 := x12) (x13 := x13) (x14 := x14) (x15 := x15) n100 s2 s3 hS
  clear he ha hv
  obtain ⟨c, S2, k1, k2⟩ := hst
  rw [seq_nx k1]
  rw [st13 n100 m5]
  exact (hP _ _ _ _ _ _ _ _ _ _ _ _ _ _ _ k2)
theorem best_cps (n100 : text.length ≤ 100) (G : Prop) (g : ∀ v e a, Best (cd text) (cd word) text.length word.length v e a → bMin [dueD text word] = some (natD v) → (((List.range (text.length + 1)).filter fun b => decide (Nf text word b = v)).map natD)[0]? = some (natD e) → bMax [.lst (((List.range (e + 1)).filter fun c => decide (Ef text word e c = v)).map natD)] = some (natD a) → G) : G := by
  obtain ⟨v, e, a, hb, hv, he, ha⟩ := best_law (text := text) (word := word) n100
  exact g v e a hb hv he ha
theorem b_eq : b_law_1 = h_law r_law := rfl
theorem turn_aux {P : Env → BX → Prop} {rest : DenS} (h : Good S) (hr : ∀ sg text word S1 v e a, Good S1 → 2 ≤ sg.length → sg.length ≤ 3 → 1 ≤ word.length → word.length ≤ 5 → text.length ≤ 100 → Best (cd text) (cd word) text.length word.length v e a → bMin [dueD text word] = some (natD v) →
    (((List.range (text.length + 1)).filter fun b => decide (Nf text word b = v)).map natD)[0]? = some (natD e) → bMax [.lst (((List.range (e + 1)).filter fun c => decide (Ef text word e c = v)).map natD)] = some (natD a) →
    Nx (rest (LE x2 (.pv (.str sg)) x4 x5 x6 x7 x8 x9 (.pv (.str text)) (.pv (.str word)) x12 x13 x14 x15) S1) P) : Nx (h_law rest (LE x2 x3 x4 x5 x6 x7 x8 x9 x10 x11 x12 x13 x14 x15) S) P :=
  law_head h fun sg text word S1 h1 s2 s3 m0 m5 n100 => best_cps n100 _ fun v e a hb hv he ha => hr sg text word S1 v e a h1 s2 s3 m0 m5 n100 hb hv he ha
/-- one turn -/
theorem law_turn {P : Env → BX → Prop} (hP : ∀ x2 x3 x4 x5 x6 x7 x8 x9 x10 x11 x12 x13 x14 x15 S, Good S → P (LE x2 x3 x4 x5 x6 x7 x8 x9 x10 x11 x12 x13 x14 x15) S) (h : Good S) : Nx (b_law_1 (LE x2 x3 x4 x5 x6 x7 x8 x9 x10 x11 x12 x13 x14 x15) S) P := by
  rw [b_eq]
  have hr := @law_rest x2 x4 x5 x6 x7 x8 x9 x12 x13 x14 x15 P hP
  have ht := fun hh => @turn_aux S x2 x3 x4 x5 x6 x7 x8 x9 x10 x11 x12 x13 x14 x15 P r_law h hh
  revert ht hr
  generalize r_law = R
  intro hr ht
  exact ht hr
end
theorem law_true (ns : List Int) (h : ns.length ≤ 63) : ∃ S, d_law env_law (.on ns [0, 4711 + (ns.length : Int)]) = .ok (.rt (.bl true)) S := by
  have g0 : Good (.on ns [0, 4711 + (ns.length : Int)]) := by
    show decide (_ ∧ _) = true
    exact decide_eq_true ⟨by omega, by omega⟩
  obtain ⟨ρ', S', h1, _⟩ := for_nx (it := iRange1 (eC (.int 4))) (g := gN 2) (b := b_law_1) (ρ := env_law) (S := .on ns [0, 4711 + (ns.length : Int)]) (S1 := .on ns [0, 4711 + (ns.length : Int)]) (ds := intsFrom 0 4)
    (fun _ => Any) (range1_ok (n := 4) rfl (lim_le (by omega))) (any_of g0) (by
    rintro i d ρ S hd ⟨⟨x2, x3, x4, x5, x6, x7, x8, x9, x10, x11, x12, x13, x14, x15, rfl⟩, hS⟩
    exact ⟨_, rfl, law_turn (x2 := .pv d) (fun _ _ _ _ _ _ _ _ _ _ _ _ _ _ _ h => any_of h) hS⟩)
  refine ⟨S', ?_⟩
  unfold d_law
  rw [seq_nx h1]
  rfl
end K45

set_option Elab.async false
set_option linter.all false
set_option maxRecDepth 100000
set_option maxHeartbeats 0
namespace K45
open DN PySem L2
def topS (i : Nat) : PySem.Stmt := PySem.Challenge.pw_saidanddone_k45_whole_words_that_stand_n.main.body.getD i (.Pass ⟨0, 0, 0, 0⟩)
abbrev N__law_box : List Str := ["script"]
theorem sc__law_box : FnScope N__law_box ["script"] (defScope (topS 11)) := ⟨rfl, rfl, rfl, by decide +kernel, rfl, by decide +kernel, by decide +kernel⟩
abbrev N__law_load : List Str := ["box", "cells", "first", "second", "cell", "size"]
theorem sc__law_load : FnScope N__law_load ["box"] (defScope (topS 12)) := ⟨rfl, rfl, rfl, by decide +kernel, rfl, by decide +kernel, by decide +kernel⟩
abbrev N__law_draw : List Str := ["box", "many", "digit"]
theorem sc__law_draw : FnScope N__law_draw ["box", "many"] (defScope (topS 13)) := ⟨rfl, rfl, rfl, by decide +kernel, rfl, by decide +kernel, by decide +kernel⟩
abbrev N_distance_table : List Str := ["one", "other", "rows", "i", "sign", "row", "j", "mate", "best"]
theorem sc_distance_table : FnScope N_distance_table ["one", "other"] (defScope (topS 1)) := ⟨rfl, rfl, rfl, by decide +kernel, rfl, by decide +kernel, by decide +kernel⟩
abbrev N_distance : List Str := ["one", "other"]
theorem sc_distance : FnScope N_distance ["one", "other"] (defScope (topS 2)) := ⟨rfl, rfl, rfl, by decide +kernel, rfl, by decide +kernel, by decide +kernel⟩
abbrev N_near_rows : List Str := ["text", "word", "rows", "sign", "row", "j", "mate", "best"]
theorem sc_near_rows : FnScope N_near_rows ["text", "word"] (defScope (topS 3)) := ⟨rfl, rfl, rfl, by decide +kernel, rfl, by decide +kernel, by decide +kernel⟩
abbrev N_near_ends : List Str := ["text", "word", "row"]
theorem sc_near_ends : FnScope N_near_ends ["text", "word"] (defScope (topS 4)) := ⟨rfl, rfl, rfl, by decide +kernel, rfl, by decide +kernel, by decide +kernel⟩
abbrev N_nearest : List Str := ["text", "word", "ends", "best", "end", "begin"]
theorem sc_nearest : FnScope N_nearest ["text", "word"] (defScope (topS 5)) := ⟨rfl, rfl, rfl, by decide +kernel, rfl, by decide +kernel, by decide +kernel⟩
abbrev N_shift_table : List Str := ["word", "k", "found", "back"]
theorem sc_shift_table : FnScope N_shift_table ["word"] (defScope (topS 7)) := ⟨rfl, rfl, rfl, by decide +kernel, rfl, by decide +kernel, by decide +kernel⟩
abbrev N_beginnings_met : List Str := ["text", "word", "sign", "table", "found", "here"]
theorem sc_beginnings_met : FnScope N_beginnings_met ["text", "word"] (defScope (topS 8)) := ⟨rfl, rfl, rfl, by decide +kernel, rfl, by decide +kernel, by decide +kernel⟩
abbrev N_finds : List Str := ["text", "word", "met", "place"]
theorem sc_finds : FnScope N_finds ["text", "word"] (defScope (topS 9)) := ⟨rfl, rfl, rfl, by decide +kernel, rfl, by decide +kernel, by decide +kernel⟩
abbrev N__law_same : List Str := ["a", "b", "k"]
theorem sc__law_same : FnScope N__law_same ["a", "b"] (defScope (topS 14)) := ⟨rfl, rfl, rfl, by decide +kernel, rfl, by decide +kernel, by decide +kernel⟩
abbrev N__law_text : List Str := ["box", "most", "signs", "step"]
theorem sc__law_text : FnScope N__law_text ["box", "most", "signs"] (defScope (topS 15)) := ⟨rfl, rfl, rfl, by decide +kernel, rfl, by decide +kernel, by decide +kernel⟩
abbrev N__law_distance : List Str := ["one", "other", "row", "i", "after", "j"]
theorem sc__law_distance : FnScope N__law_distance ["one", "other"] (defScope (topS 16)) := ⟨rfl, rfl, rfl, by decide +kernel, rfl, by decide +kernel, by decide +kernel⟩
abbrev N_law : List Str := ["script", "box", "turn", "signs", "rows", "due", "best", "end", "begin", "more", "text", "word", "b", "a", "row", "place"]
theorem sc_law : FnScope N_law ["script"] (defScope (topS 17)) := ⟨rfl, rfl, rfl, by decide +kernel, rfl, by decide +kernel, by decide +kernel⟩
structure Facts (K : PySem.W.Frag) (mg : Str → Option Value) where
  n_all : mg "all" = none
  n_bool : mg "bool" = none
  n_enumerate : mg "enumerate" = none
  n_int : mg "int" = none
  n_isinstance : mg "isinstance" = none
  n_len : mg "len" = none
  n_list : mg "list" = none
  n_max : mg "max" = none
  n_min : mg "min" = none
  n_range : mg "range" = none
  n_str : mg "str" = none
  n_tuple : mg "tuple" = none
  a__law_box : Addr
  d__law_box : FuncData
  g__law_box : mg "_law_box" = some (.ref a__law_box)
  F__law_box : Fun K "_law_box" "_law_box" (topS 11) a__law_box d__law_box
  b__law_box : Binds K d__law_box ["script"] []
  a__law_load : Addr
  d__law_load : FuncData
  g__law_load : mg "_law_load" = some (.ref a__law_load)
  F__law_load : Fun K "_law_load" "_law_load" (topS 12) a__law_load d__law_load
  b__law_load : Binds K d__law_load ["box"] []
  a__law_draw : Addr
  d__law_draw : FuncData
  g__law_draw : mg "_law_draw" = some (.ref a__law_draw)
  F__law_draw : Fun K "_law_draw" "_law_draw" (topS 13) a__law_draw d__law_draw
  b__law_draw : Binds K d__law_draw ["box", "many"] []
  a_distance_table : Addr
  d_distance_table : FuncData
  g_distance_table : mg "distance_table" = some (.ref a_distance_table)
  F_distance_table : Fun K "distance_table" "distance_table" (topS 1) a_distance_table d_distance_table
  b_distance_table : Binds K d_distance_table ["one", "other"] []
  a_distance : Addr
  d_distance : FuncData
  g_distance : mg "distance" = some (.ref a_distance)
  F_distance : Fun K "distance" "distance" (topS 2) a_distance d_distance
  b_distance : Binds K d_distance ["one", "other"] []
  a_near_rows : Addr
  d_near_rows : FuncData
  g_near_rows : mg "near_rows" = some (.ref a_near_rows)
  F_near_rows : Fun K "near_rows" "near_rows" (topS 3) a_near_rows d_near_rows
  b_near_rows : Binds K d_near_rows ["text", "word"] []
  a_near_ends : Addr
  d_near_ends : FuncData
  g_near_ends : mg "near_ends" = some (.ref a_near_ends)
  F_near_ends : Fun K "near_ends" "near_ends" (topS 4) a_near_ends d_near_ends
  b_near_ends : Binds K d_near_ends ["text", "word"] []
  a_nearest : Addr
  d_nearest : FuncData
  g_nearest : mg "nearest" = some (.ref a_nearest)
  F_nearest : Fun K "nearest" "nearest" (topS 5) a_nearest d_nearest
  b_nearest : Binds K d_nearest ["text", "word"] []
  a_shift_table : Addr
  d_shift_table : FuncData
  g_shift_table : mg "shift_table" = some (.ref a_shift_table)
  F_shift_table : Fun K "shift_table" "shift_table" (topS 7) a_shift_table d_shift_table
  b_shift_table : Binds K d_shift_table ["word"] []
  a_beginnings_met : Addr
  d_beginnings_met : FuncData
  g_beginnings_met : mg "beginnings_met" = some (.ref a_beginnings_met)
  F_beginnings_met : Fun K "beginnings_met" "beginnings_met" (topS 8) a_beginnings_met d_beginnings_met
  b_beginnings_met : Binds K d_beginnings_met ["text", "word"] []
  a_finds : Addr
  d_finds : FuncData
  g_finds : mg "finds" = some (.ref a_finds)
  F_finds : Fun K "finds" "finds" (topS 9) a_finds d_finds
  b_finds : Binds K d_finds ["text", "word"] []
  a__law_same : Addr
  d__law_same : FuncData
  g__law_same : mg "_law_same" = some (.ref a__law_same)
  F__law_same : Fun K "_law_same" "_law_same" (topS 14) a__law_same d__law_same
  b__law_same : Binds K d__law_same ["a", "b"] []
  a__law_text : Addr
  d__law_text : FuncData
  g__law_text : mg "_law_text" = some (.ref a__law_text)
  F__law_text : Fun K "_law_text" "_law_text" (topS 15) a__law_text d__law_text
  b__law_text : Binds K d__law_text ["box", "most", "signs"] []
  a__law_distance : Addr
  d__law_distance : FuncData
  g__law_distance : mg "_law_distance" = some (.ref a__law_distance)
  F__law_distance : Fun K "_law_distance" "_law_distance" (topS 16) a__law_distance d__law_distance
  b__law_distance : Binds K d__law_distance ["one", "other"] []
  a_law : Addr
  d_law : FuncData
  g_law : mg "law" = some (.ref a_law)
  F_law : Fun K "law" "law" (topS 17) a_law d_law
  b_law : Binds K d_law ["script"] []
section
variable {P : Program} {w : World} {K : PySem.W.Frag} {mg : Str → Option Value} {base : Heap}

theorem ok__law_load (T : Facts K mg) : FnOk P w K mg base CX0 1 T.a__law_load T.d__law_load ["box"] (spB K f_load) :=
  ok_load T.F__law_load sc__law_load rfl rfl (fun cdv A outer s H E hr => pss_cons (ps_set (i := 1) sc__law_load.nd rfl (by first | exact Or.inl rfl | exact Or.inr rfl) ((pe_ix ix_list (pv 0) pe_int (fun _ _ => rfl))))
      (pss_cons (ps_if (pt_cmpR op_gt (pe_callB call_len (by rfl) T.n_len (by decide +kernel) (pa_cons (pv 1) pa_nil)) pe_int (nomark _)) (pss_cons (ps_set (i := 4) sc__law_load.nd rfl (by first | exact Or.inl rfl | exact Or.inr rfl) (pe_callTy call_int1 (by rfl) T.n_int (by decide +kernel) (pa_cons (pe_bm PySem.F.plainAttrs_list PySem.F.slot_list_pop PySem.F.type_list_pop mt_popAt (pv 1) (pa_cons pe_int pa_nil)) pa_nil)))
      (pss_cons (ps_set (i := 5) sc__law_load.nd rfl (by first | exact Or.inl rfl | exact Or.inr rfl) (pe_ifExp (pt_cmpR op_ge (pv 4) pe_int (nomark _)) (pe_op op_mul pe_int (pv 4)) (pe_op op_sub (pe_op op_mul (pe_un un_neg pe_int) (pv 4)) pe_int)))
      (pss_cons (ps_if (pt_cmpR op_ge (pv 5) pe_int (nomark _)) (pss_one (ps_ret (pv 5))) pss_nil)
      (pss_one (ps_asg (pe_op op_mod (pe_callTy call_int1 (by rfl) T.n_int (by decide +kernel) (pa_cons ((pe_op op_add ((pe_op op_add ((pe_op op_mul ((pe_ix ix_list (pv 0) pe_int (fun _ _ => rfl))) pe_int)) ((pe_op op_mul (pv 5) pe_int)))) (pe_int))) pa_nil)) pe_int) (pg_sub (pv 0) pe_int set_list)))))) pss_nil)
      (pss_cons (ps_set (i := 2) sc__law_load.nd rfl (by first | exact Or.inl rfl | exact Or.inr rfl) (pe_op op_mod (pe_callTy call_int1 (by rfl) T.n_int (by decide +kernel) (pa_cons ((pe_op op_add ((pe_op op_mul ((pe_ix ix_list (pv 0) pe_int (fun _ _ => rfl))) pe_int)) (pe_int))) pa_nil)) pe_int))
      (pss_cons (ps_set (i := 3) sc__law_load.nd rfl (by first | exact Or.inl rfl | exact Or.inr rfl) (pe_op op_mod (pe_callTy call_int1 (by rfl) T.n_int (by decide +kernel) (pa_cons ((pe_op op_add ((pe_op op_mul (pv 2) pe_int)) (pe_int))) pa_nil)) pe_int))
      (pss_cons (ps_asg (pe_op op_mod (pe_callTy call_int1 (by rfl) T.n_int (by decide +kernel) (pa_cons ((pe_op op_add ((pe_op op_mul (pv 3) pe_int)) (pe_int))) pa_nil)) pe_int) (pg_sub (pv 0) pe_int set_list))
      (pss_one (ps_ret (pe_op op_add ((pe_op op_add ((pe_op op_mul (pv 2) pe_int)) ((pe_op op_mul (pv 3) pe_int)))) ((pe_ix ix_list (pv 0) pe_int (fun _ _ => rfl)))))))))))
theorem ok__law_draw (T : Facts K mg) : FnOk P w K mg base CX0 2 T.a__law_draw T.d__law_draw ["box", "many"] (spB K f__law_draw) :=
  ok_draw T.F__law_draw sc__law_draw rfl rfl (fun cdv A outer s H E hr => pss_cons (ps_if (pt_cmpR op_lt (pe_ix ix_list (pv 0) pe_int (fun _ _ => rfl)) (pv 1) (nomark _)) (pss_one (ps_asg (pe_call ((ok__law_load T).mono (by decide)) hr (by rfl) T.g__law_load T.F__law_load.kp T.b__law_load .nil pass0 (pa_cons (pv 0) pa_nil)) (pg_sub (pv 0) pe_int set_list))) pss_nil)
      (pss_cons (ps_set (i := 2) sc__law_draw.nd rfl (by first | exact Or.inl rfl | exact Or.inr rfl) (pe_op op_mod (pe_callTy call_int1 (by rfl) T.n_int (by decide +kernel) (pa_cons ((pe_ix ix_list (pv 0) pe_int (fun _ _ => rfl))) pa_nil)) (pv 1)))
      (pss_cons (ps_asg (pe_op op_fdiv (pe_ix ix_list (pv 0) pe_int (fun _ _ => rfl)) (pv 1)) (pg_sub (pv 0) pe_int set_list))
      (pss_one (ps_ret (pv 2))))))
theorem ok__law_box (T : Facts K mg) : FnOk P w K mg base CX0 1 T.a__law_box T.d__law_box ["script"] (spBox K) :=
  ok_box T.F__law_box sc__law_box rfl rfl (fun cdv A outer s H E hr => pss_one (ps_ret (pe_lst (pa_cons (pe_callTy call_list_of (by rfl) T.n_list (by decide +kernel) (pa_cons (pe_slice sl_list (pv 0) po_none (po_some pe_int)) pa_nil)) (pa_cons pe_int (pa_cons (pe_op op_add pe_int (pe_callB call_len (by rfl) T.n_len (by decide +kernel) (pa_cons (pv 0) pa_nil))) pa_nil))))))
theorem ok_distance_table (T : Facts K mg) : FnOk P w K mg base CX0 1 T.a_distance_table T.d_distance_table ["one", "other"] (spN K f_distance_table) :=
  ok_fn (n := 2) (more := 7) T.F_distance_table sc_distance_table rfl rfl (fun cdv A outer s H E hr => ⟨_, qss_cons (qs_own 2 sc_distance_table.nd rfl (by first | exact Or.inl rfl | exact Or.inr rfl) (q_lstL (qa_cons (QL.toE (q_listRange1 (by rfl) T.n_list (by rfl) T.n_range (q_op o_add (QE.toB (q_bi c_len (by rfl) T.n_len (by decide +kernel) (qab_cons (QE.toB (qv 1)) (qab_nil)))) (QE.toB (q_int))))) (qa_nil))))
      (qss_cons (qs_for PassesOwn.never rfl (qi_enum (by rfl) T.n_enumerate (qv 0)) (qg_tup rfl (qgs_cons (qg_name 3 sc_distance_table.nd rfl (by first | exact Or.inl rfl | exact Or.inr rfl)) (qgs_cons (qg_name 4 sc_distance_table.nd rfl (by first | exact Or.inl rfl | exact Or.inr rfl)) (qgs_nil)))) (qss_cons (qs_own 5 sc_distance_table.nd rfl (by first | exact Or.inl rfl | exact Or.inr rfl) (q_lstL (qa_cons (q_op o_add (QE.toB (qv 3)) (QE.toB (q_int))) (qa_nil))))
      (qss_cons (qs_for PassesOwn.never rfl (qi_enum (by rfl) T.n_enumerate (qv 1)) (qg_tup rfl (qgs_cons (qg_name 6 sc_distance_table.nd rfl (by first | exact Or.inl rfl | exact Or.inr rfl)) (qgs_cons (qg_name 7 sc_distance_table.nd rfl (by first | exact Or.inl rfl | exact Or.inr rfl)) (qgs_nil)))) (qss_cons (qs_set 8 sc_distance_table.nd rfl (by first | exact Or.inl rfl | exact Or.inr rfl) (q_op o_add (QE.toB (q_bi (c_min2 rfl) (by rfl) T.n_min (by decide +kernel) (qab_cons (QE.toB (q_ix (QE.toB (q_ix (qb 2) (QE.toB (qv 3)) (fun _ _ => rfl))) (QE.toB (q_op o_add (QE.toB (qv 6)) (QE.toB (q_int)))) (fun _ _ => rfl))) (qab_cons (QE.toB (q_ix (qb 5) (QE.toB (qv 6)) (fun _ _ => rfl))) (qab_nil))))) (QE.toB (q_int))))
      (qss_one (qs_append 5 rfl (by first | exact Or.inl rfl | exact Or.inr (Or.inl rfl)) (q_bi (c_min2 rfl) (by rfl) T.n_min (by decide +kernel) (qab_cons (QE.toB (qv 8)) (qab_cons (QE.toB (q_op o_add (QE.toB (q_ix (QE.toB (q_ix (qb 2) (QE.toB (qv 3)) (fun _ _ => rfl))) (QE.toB (qv 6)) (fun _ _ => rfl))) (QE.toB (q_if (q_tcmp (o_eq (hu70 hr)) (QE.toB (qv 4)) (QE.toB (qv 7)) (by first | exact nomark _ | rfl)) (q_int) (q_int))))) (qab_nil))))))))
      (qss_one (qs_frz 5 (qs_append 2 rfl (by first | exact Or.inl rfl | exact Or.inr (Or.inl rfl)) (qv 5)))))))
      (qss_one (qs_ret (q_ty c_tuple (by rfl) T.n_tuple (by decide +kernel) (qab_cons (QE.toB (QL.toE (q_lc (own := [("row", 5)]) rfl sc_distance_table.nd (qic_any (qb 2)) (blkOk_by (N := N_distance_table) (sc := defScope (topS 1)) (by decide +kernel)) (fun _ _ _ _ _ => qg_name 5 sc_distance_table.nd rfl (by first | exact Or.inl rfl | exact Or.inr rfl)) (by decide) (fun _ _ _ _ _ => qts_nil) (fun _ _ _ _ _ => q_ty c_tuple (by rfl) T.n_tuple (by decide +kernel) (qab_cons (QE.toB (qv 5)) (qab_nil)))))) (qab_nil))))))⟩)
theorem ok_distance (T : Facts K mg) : FnOk P w K mg base CX0 2 T.a_distance T.d_distance ["one", "other"] (spN K f_distance) :=
  ok_fn (n := 2) (more := 0) T.F_distance sc_distance rfl rfl (fun cdv A outer s H E hr => ⟨_, qss_one (qs_ret (q_ix (QE.toB (q_ix (QE.toB (q_call ((ok_distance_table T).mono (by decide)) hr (by rfl) T.g_distance_table T.F_distance_table.kp T.b_distance_table pass0 (qa_cons (qv 0) (qa_cons (qv 1) (qa_nil))))) (QE.toB (q_un o_neg (QE.toB (q_int)))) (fun _ _ => rfl))) (QE.toB (q_un o_neg (QE.toB (q_int)))) (fun _ _ => rfl)))⟩)
theorem ok_near_rows (T : Facts K mg) : FnOk P w K mg base CX0 1 T.a_near_rows T.d_near_rows ["text", "word"] (spN K f_near_rows) :=
  ok_fn (n := 2) (more := 6) T.F_near_rows sc_near_rows rfl rfl (fun cdv A outer s H E hr => ⟨_, qss_cons (qs_own 2 sc_near_rows.nd rfl (by first | exact Or.inl rfl | exact Or.inr rfl) (q_lstL (qa_cons (QL.toE (q_listRange1 (by rfl) T.n_list (by rfl) T.n_range (q_op o_add (QE.toB (q_bi c_len (by rfl) T.n_len (by decide +kernel) (qab_cons (QE.toB (qv 1)) (qab_nil)))) (QE.toB (q_int))))) (qa_nil))))
      (qss_cons (qs_for PassesOwn.never rfl (qi_any (qv 0)) (qg_name 3 sc_near_rows.nd rfl (by first | exact Or.inl rfl | exact Or.inr rfl)) (qss_cons (qs_own 4 sc_near_rows.nd rfl (by first | exact Or.inl rfl | exact Or.inr rfl) (q_lstL (qa_cons (q_int) (qa_nil))))
      (qss_cons (qs_for PassesOwn.never rfl (qi_enum (by rfl) T.n_enumerate (qv 1)) (qg_tup rfl (qgs_cons (qg_name 5 sc_near_rows.nd rfl (by first | exact Or.inl rfl | exact Or.inr rfl)) (qgs_cons (qg_name 6 sc_near_rows.nd rfl (by first | exact Or.inl rfl | exact Or.inr rfl)) (qgs_nil)))) (qss_cons (qs_set 7 sc_near_rows.nd rfl (by first | exact Or.inl rfl | exact Or.inr rfl) (q_op o_add (QE.toB (q_bi (c_min2 rfl) (by rfl) T.n_min (by decide +kernel) (qab_cons (QE.toB (q_ix (QE.toB (q_ix (qb 2) (QE.toB (q_un o_neg (QE.toB (q_int)))) (fun _ _ => rfl))) (QE.toB (q_op o_add (QE.toB (qv 5)) (QE.toB (q_int)))) (fun _ _ => rfl))) (qab_cons (QE.toB (q_ix (qb 4) (QE.toB (qv 5)) (fun _ _ => rfl))) (qab_nil))))) (QE.toB (q_int))))
      (qss_one (qs_append 4 rfl (by first | exact Or.inl rfl | exact Or.inr (Or.inl rfl)) (q_bi (c_min2 rfl) (by rfl) T.n_min (by decide +kernel) (qab_cons (QE.toB (qv 7)) (qab_cons (QE.toB (q_op o_add (QE.toB (q_ix (QE.toB (q_ix (qb 2) (QE.toB (q_un o_neg (QE.toB (q_int)))) (fun _ _ => rfl))) (QE.toB (qv 5)) (fun _ _ => rfl))) (QE.toB (q_if (q_tcmp (o_eq (hu70 hr)) (QE.toB (qv 3)) (QE.toB (qv 6)) (by first | exact nomark _ | rfl)) (q_int) (q_int))))) (qab_nil))))))))
      (qss_one (qs_frz 4 (qs_append 2 rfl (by first | exact Or.inl rfl | exact Or.inr (Or.inl rfl)) (qv 4)))))))
      (qss_one (qs_frz 2 (qs_ret (qv 2)))))⟩)
theorem ok_near_ends_p (T : Facts K mg) : FnOk P w K mg base CX0 2 T.a_near_ends T.d_near_ends ["text", "word"] (spP K f_near_ends) :=
  ok_fnP (n := 2) (more := 1) T.F_near_ends sc_near_ends rfl rfl (fun cdv A outer s H E hr =>
    let q : QL K (cxOf CX0 P w K mg base N_near_ends "near_ends" (defScope (topS 4)) T.a_near_ends cdv A outer s H E).nox EXn _ _ _ := q_lc (own := [("row", 2)]) rfl sc_near_ends.nd (qic_any (QE.toB (q_call ((ok_near_rows T).mono (by decide)) hr (by rfl) T.g_near_rows T.F_near_rows.kp T.b_near_rows pass0 (qa_cons (qv 0) (qa_cons (qv 1) (qa_nil)))))) (blkOk_by (N := N_near_ends) (sc := defScope (topS 4)) (by decide +kernel)) (fun _ _ _ _ _ => qg_name 2 sc_near_ends.nd rfl (by first | exact Or.inl rfl | exact Or.inr rfl)) (by decide) (fun _ _ _ _ _ => qts_nil) (fun _ _ _ _ _ => q_ix (QE.toB (qv 2)) (QE.toB (q_un o_neg (QE.toB (q_int)))) (fun _ _ => rfl))
    ⟨_, pss_one (ps_ret (pe_callTy call_tupleP (by rfl) T.n_tuple (by decide +kernel) (pa_cons q.pe pa_nil))), q.toE.sn⟩)
theorem ok_near_ends (T : Facts K mg) : FnOk P w K mg base CX0 2 T.a_near_ends T.d_near_ends ["text", "word"] (spN K f_near_ends) := FnOk.weak (ok_near_ends_p T) sp_weak
theorem ok_nearest (T : Facts K mg) : FnOk P w K mg base CX0 3 T.a_nearest T.d_nearest ["text", "word"] (spN K f_nearest) :=
  ok_fn (n := 2) (more := 4) T.F_nearest sc_nearest rfl rfl (fun cdv A outer s H E hr => ⟨_, qss_index3 2 3 4 sc_nearest.nd rfl rfl rfl (by decide) (by first | exact Or.inl rfl | exact Or.inr rfl) (by first | exact Or.inl rfl | exact Or.inr rfl) (by first | exact Or.inl rfl | exact Or.inr rfl) (by first | exact Or.inl rfl | exact Or.inr (Or.inl rfl)) (by first | exact Or.inl rfl | exact Or.inr (Or.inl rfl)) ((ok_near_ends_p T).mono (by decide)) hr (by rfl) T.g_near_ends T.F_near_ends.kp T.b_near_ends pass0 (qa_cons (qv 0) (qa_cons (qv 1) (qa_nil))) (q_bi (c_min rfl) (by rfl) T.n_min (by decide +kernel) (qab_cons (QE.toB (qv 2)) (qab_nil))) (hu70 hr)
      (qss_cons (qs_set 5 sc_nearest.nd rfl (by first | exact Or.inl rfl | exact Or.inr rfl) (qv 4))
      (qss_cons (qs_while PassesOwn.never (q_tcmp (o_ne (hu70 hr)) (QE.toB (q_call ((ok_distance T).mono (by decide)) hr (by rfl) T.g_distance T.F_distance.kp T.b_distance pass0 (qa_cons (qv 1) (qa_cons (q_sl (QE.toB (qv 0)) (qo_some (qv 5)) (qo_some (qv 4))) (qa_nil))))) (QE.toB (qv 3)) (by first | exact nomark _ | rfl)) (qss_one (qs_aug 5 sc_nearest.nd rfl (by first | exact Or.inl rfl | exact Or.inr rfl) ip_dsub (q_int))))
      (qss_one (qs_ret (q_tup (qa_cons (qv 3) (qa_cons (q_tup (qa_cons (qv 5) (qa_cons (qv 4) (qa_nil)))) (qa_nil))))))))⟩)
theorem ok_shift_table (T : Facts K mg) : FnOk P w K mg base CX0 1 T.a_shift_table T.d_shift_table ["word"] (spN K f_shift_table) :=
  ok_fn (n := 1) (more := 3) T.F_shift_table sc_shift_table rfl rfl (fun cdv A outer s H E hr => ⟨_, qss_cons (qs_par2 2 3 rfl sc_shift_table.nd rfl rfl (by decide) rfl rfl (QL.toX (q_lstL (qa_cons (q_int) (qa_cons (q_int) (qa_nil))))) (QE.toX (q_int)) (by rfl))
      (qss_cons (qs_for PassesOwn.never rfl (qi_range2 (by rfl) T.n_range (q_int) (q_bi c_len (by rfl) T.n_len (by decide +kernel) (qab_cons (QE.toB (qv 0)) (qab_nil)))) (qg_name 1 sc_shift_table.nd rfl (by first | exact Or.inl rfl | exact Or.inr rfl)) (qss_cons (qs_while PassesOwn.never (QW.pt (qw_and (q_tcmp (o_gt) (QE.toB (qv 3)) (QE.toB (q_int)) (by first | exact nomark _ | rfl)) (qw_and1 (q_tcmp (o_ne (hu70 hr)) (QE.toB (q_ix (QE.toB (qv 0)) (QE.toB (qv 3)) (fun _ _ => rfl))) (QE.toB (q_ix (QE.toB (qv 0)) (QE.toB (qv 1)) (fun _ _ => rfl))) (by first | exact nomark _ | rfl))))) (qss_one (qs_set 3 sc_shift_table.nd rfl (by first | exact Or.inl rfl | exact Or.inr rfl) (q_ix (qb 2) (QE.toB (qv 3)) (fun _ _ => rfl)))))
      (qss_cons (qs_if (q_tcmp (o_eq (hu70 hr)) (QE.toB (q_ix (QE.toB (qv 0)) (QE.toB (qv 3)) (fun _ _ => rfl))) (QE.toB (q_ix (QE.toB (qv 0)) (QE.toB (qv 1)) (fun _ _ => rfl))) (by first | exact nomark _ | rfl)) (qss_one (qs_aug 3 sc_shift_table.nd rfl (by first | exact Or.inl rfl | exact Or.inr rfl) ip_dadd (q_int))) (qss_nil))
      (qss_one (qs_append 2 rfl (by first | exact Or.inl rfl | exact Or.inr (Or.inl rfl)) (qv 3))))))
      (qss_one (qs_ret (q_ty c_tuple (by rfl) T.n_tuple (by decide +kernel) (qab_cons (qb 2) (qab_nil))))))⟩)
theorem ok_beginnings_met (T : Facts K mg) : FnOk P w K mg base CX0 2 T.a_beginnings_met T.d_beginnings_met ["text", "word"] (spN K f_beginnings_met) :=
  ok_fn (n := 2) (more := 4) T.F_beginnings_met sc_beginnings_met rfl rfl (fun cdv A outer s H E hr => ⟨_, qss_cons (qs_par3 3 4 5 rfl sc_beginnings_met.nd rfl rfl rfl (by decide) (by decide) (by decide) rfl rfl rfl (QE.toX (q_call ((ok_shift_table T).mono (by decide)) hr (by rfl) T.g_shift_table T.F_shift_table.kp T.b_shift_table pass0 (qa_cons (qv 1) (qa_nil)))) (QL.toX (q_lstL (qa_cons (q_int) (qa_nil)))) (QE.toX (q_int)) (by rfl))
      (qss_cons (qs_for PassesOwn.never rfl (qi_any (qv 0)) (qg_name 2 sc_beginnings_met.nd rfl (by first | exact Or.inl rfl | exact Or.inr rfl)) (qss_cons (qs_while PassesOwn.never (QW.pt (qw_and (q_tcmp (o_gt) (QE.toB (qv 5)) (QE.toB (q_int)) (by first | exact nomark _ | rfl)) (qw_and1 (QW.pt (qw_or (q_tcmp (o_eq (hu70 hr)) (QE.toB (qv 5)) (QE.toB (q_bi c_len (by rfl) T.n_len (by decide +kernel) (qab_cons (QE.toB (qv 1)) (qab_nil)))) (by first | exact nomark _ | rfl)) (qw_or1 (q_tcmp (o_ne (hu70 hr)) (QE.toB (q_ix (QE.toB (qv 1)) (QE.toB (qv 5)) (fun _ _ => rfl))) (QE.toB (qv 2)) (by first | exact nomark _ | rfl)))))))) (qss_one (qs_set 5 sc_beginnings_met.nd rfl (by first | exact Or.inl rfl | exact Or.inr rfl) (q_ix (QE.toB (qv 3)) (QE.toB (qv 5)) (fun _ _ => rfl)))))
      (qss_cons (qs_if (q_tcmp (o_eq (hu70 hr)) (QE.toB (q_ix (QE.toB (qv 1)) (QE.toB (qv 5)) (fun _ _ => rfl))) (QE.toB (qv 2)) (by first | exact nomark _ | rfl)) (qss_one (qs_aug 5 sc_beginnings_met.nd rfl (by first | exact Or.inl rfl | exact Or.inr rfl) ip_dadd (q_int))) (qss_nil))
      (qss_one (qs_append 4 rfl (by first | exact Or.inl rfl | exact Or.inr (Or.inl rfl)) (qv 5))))))
      (qss_one (qs_ret (q_ty c_tuple (by rfl) T.n_tuple (by decide +kernel) (qab_cons (qb 4) (qab_nil))))))⟩)
theorem ok_finds (T : Facts K mg) : FnOk P w K mg base CX0 3 T.a_finds T.d_finds ["text", "word"] (spN K f_finds) :=
  ok_fn (n := 2) (more := 2) T.F_finds sc_finds rfl rfl (fun cdv A outer s H E hr => ⟨_, qss_cons (qs_set 2 sc_finds.nd rfl (by first | exact Or.inl rfl | exact Or.inr rfl) (q_call ((ok_beginnings_met T).mono (by decide)) hr (by rfl) T.g_beginnings_met T.F_beginnings_met.kp T.b_beginnings_met pass0 (qa_cons (qv 0) (qa_cons (qv 1) (qa_nil)))))
      (qss_one (qs_ret (q_ty c_tuple (by rfl) T.n_tuple (by decide +kernel) (qab_cons (QE.toB (QL.toE (q_lc (own := [("place", 3)]) rfl sc_finds.nd (QI.toC (qi_range1 (by rfl) T.n_range (q_bi c_len (by rfl) T.n_len (by decide +kernel) (qab_cons (QE.toB (qv 2)) (qab_nil))))) (blkOk_by (N := N_finds) (sc := defScope (topS 9)) (by decide +kernel)) (fun _ _ _ _ _ => qg_name 3 sc_finds.nd rfl (by first | exact Or.inl rfl | exact Or.inr rfl)) (by decide) (fun _ _ _ _ _ => qts_one (q_tcmp (o_eq (hu70 hr)) (QE.toB (q_ix (QE.toB (qv 2)) (QE.toB (qv 3)) (fun _ _ => rfl))) (QE.toB (q_bi c_len (by rfl) T.n_len (by decide +kernel) (qab_cons (QE.toB (qv 1)) (qab_nil)))) (by first | exact nomark _ | rfl))) (fun _ _ _ _ _ => q_op o_sub (QE.toB (qv 3)) (QE.toB (q_bi c_len (by rfl) T.n_len (by decide +kernel) (qab_cons (QE.toB (qv 1)) (qab_nil)))))))) (qab_nil)))))⟩)
theorem ok__law_same (T : Facts K mg) : ∀ n : Nat, FnOk P w K mg base CX0 (0 + n) T.a__law_same T.d__law_same ["a", "b"] (spN K (f__law_same n))
  | 0 => fn_none
  | n + 1 => by
    have G := ok__law_same T n
    exact ok_fn (n := 2) (more := 1) (k := 0 + n) T.F__law_same sc__law_same rfl rfl (fun cdv A outer s H E hr => ⟨_, qss_cons (qs_if (QW.pt (qw_or (QW.pt (qw_and (q_ttruth (QE.toB (q_isi kit_tuple (by rfl) T.n_isinstance (QE.toB (qv 0)) (by rfl) T.n_tuple (by decide +kernel)))) (qw_and1 (q_ttruth (QE.toB (q_isi kit_tuple (by rfl) T.n_isinstance (QE.toB (qv 1)) (by rfl) T.n_tuple (by decide +kernel))))))) (qw_or1 (QW.pt (qw_and (q_ttruth (QE.toB (q_isi kit_list (by rfl) T.n_isinstance (QE.toB (qv 0)) (by rfl) T.n_list (by decide +kernel)))) (qw_and1 (q_ttruth (QE.toB (q_isi kit_list (by rfl) T.n_isinstance (QE.toB (qv 1)) (by rfl) T.n_list (by decide +kernel)))))))))) (qss_one (qs_ret (q_and (q_cmp (o_eq (hu70 hr)) (QE.toB (q_bi c_len (by rfl) T.n_len (by decide +kernel) (qab_cons (QE.toB (qv 0)) (qab_nil)))) (QE.toB (q_bi c_len (by rfl) T.n_len (by decide +kernel) (qab_cons (QE.toB (qv 1)) (qab_nil)))) (by first | exact nomark _ | rfl)) (q_one (q_bi (c_all rfl) (by rfl) T.n_all (by decide +kernel) (qab_cons (QE.toB (QL.toE (q_lc (own := [("k", 2)]) rfl sc__law_same.nd (QI.toC (qi_range1 (by rfl) T.n_range (q_bi c_len (by rfl) T.n_len (by decide +kernel) (qab_cons (QE.toB (qv 0)) (qab_nil))))) (blkOk_by (N := N__law_same) (sc := defScope (topS 14)) (by decide +kernel)) (fun _ _ _ _ _ => qg_name 2 sc__law_same.nd rfl (by first | exact Or.inl rfl | exact Or.inr rfl)) (by decide) (fun _ _ _ _ _ => qts_nil) (fun _ _ _ _ _ => q_call G hr (by rfl) T.g__law_same T.F__law_same.kp T.b__law_same pass0 (qa_cons (q_ix (QE.toB (qv 0)) (QE.toB (qv 2)) (fun _ _ => rfl)) (qa_cons (q_ix (QE.toB (qv 1)) (QE.toB (qv 2)) (fun _ _ => rfl)) (qa_nil))))))) (qab_nil))))))) (qss_nil))
      (qss_cons (qs_if (QW.pt (qw_or (q_ttruth (QE.toB (q_isi kit_bool (by rfl) T.n_isinstance (QE.toB (qv 0)) (by rfl) T.n_bool (by decide +kernel)))) (qw_or1 (q_ttruth (QE.toB (q_isi kit_bool (by rfl) T.n_isinstance (QE.toB (qv 1)) (by rfl) T.n_bool (by decide +kernel))))))) (qss_one (qs_ret (q_and (q_isi kit_bool (by rfl) T.n_isinstance (QE.toB (qv 0)) (by rfl) T.n_bool (by decide +kernel)) (q_and (q_isi kit_bool (by rfl) T.n_isinstance (QE.toB (qv 1)) (by rfl) T.n_bool (by decide +kernel)) (q_one (q_cmp (o_eq (hu70 hr)) (QE.toB (qv 0)) (QE.toB (qv 1)) (by first | exact nomark _ | rfl))))))) (qss_nil))
      (qss_cons (qs_if (QW.pt (qw_or (QW.pt (qw_and (q_ttruth (QE.toB (q_isi kit_int (by rfl) T.n_isinstance (QE.toB (qv 0)) (by rfl) T.n_int (by decide +kernel)))) (qw_and1 (q_ttruth (QE.toB (q_isi kit_int (by rfl) T.n_isinstance (QE.toB (qv 1)) (by rfl) T.n_int (by decide +kernel))))))) (qw_or1 (QW.pt (qw_and (q_ttruth (QE.toB (q_isi kit_str (by rfl) T.n_isinstance (QE.toB (qv 0)) (by rfl) T.n_str (by decide +kernel)))) (qw_and1 (q_ttruth (QE.toB (q_isi kit_str (by rfl) T.n_isinstance (QE.toB (qv 1)) (by rfl) T.n_str (by decide +kernel)))))))))) (qss_one (qs_ret (q_cmp (o_eq (hu70 hr)) (QE.toB (qv 0)) (QE.toB (qv 1)) (by first | exact nomark _ | rfl)))) (qss_nil))
      (qss_one (qs_ret (q_and (q_cmp (o_is) (QE.toB (qv 0)) (QE.toB (q_non)) (by first | exact nomark _ | rfl)) (q_one (q_cmp (o_is) (QE.toB (qv 1)) (QE.toB (q_non)) (by first | exact nomark _ | rfl))))))))⟩)
theorem ok__law_text (T : Facts K mg) : FnOk P w K mg base CX0 3 T.a__law_text T.d__law_text ["box", "most", "signs"] (spB K f__law_text) :=
  ok_fnB (n := 2) (more := 1) T.F__law_text sc__law_text rfl rfl (fun cdv A outer s H E hr => ⟨_, qss_one (qs_ret (q_m1 PySem.F.slot_str_join PySem.F.type_str_join m_join (q_str []) (QE.toB (QL.toE (q_lc (own := [("step", 3)]) rfl sc__law_text.nd (QI.toC (qi_range1 (by rfl) T.n_range (q_callB ((ok__law_draw T).mono (by decide)) hr (by rfl) T.g__law_draw T.F__law_draw.kp T.b__law_draw pass0 (pv 0) (qa_cons (q_op o_add (QE.toB (qv 1)) (QE.toB (q_int))) (qa_nil))))) (blkOk_by (N := N__law_text) (sc := defScope (topS 15)) (by decide +kernel)) (fun _ _ _ _ _ => qg_name 3 sc__law_text.nd rfl (by first | exact Or.inl rfl | exact Or.inr rfl)) (by decide) (fun _ _ _ _ _ => qts_nil) (fun _ _ _ _ _ => q_ix (QE.toB (qv 2)) (QE.toB (q_callB ((ok__law_draw T).mono (by decide)) hr (by rfl) T.g__law_draw T.F__law_draw.kp T.b__law_draw pass0 (pv 0) (qa_cons (q_bi c_len (by rfl) T.n_len (by decide +kernel) (qab_cons (QE.toB (qv 2)) (qab_nil))) (qa_nil)))) (fun _ _ => rfl)))))))⟩)
theorem ok__law_distance (T : Facts K mg) : FnOk P w K mg base CX0 1 T.a__law_distance T.d__law_distance ["one", "other"] (spN K f__law_distance) :=
  ok_fn (n := 2) (more := 4) T.F__law_distance sc__law_distance rfl rfl (fun cdv A outer s H E hr => ⟨_, qss_cons (qs_set 2 sc__law_distance.nd rfl (by first | exact Or.inl rfl | exact Or.inr rfl) (QL.toE (q_listRange1 (by rfl) T.n_list (by rfl) T.n_range (q_op o_add (QE.toB (q_bi c_len (by rfl) T.n_len (by decide +kernel) (qab_cons (QE.toB (qv 1)) (qab_nil)))) (QE.toB (q_int))))))
      (qss_cons (qs_for PassesOwn.never rfl (qi_range1 (by rfl) T.n_range (q_bi c_len (by rfl) T.n_len (by decide +kernel) (qab_cons (QE.toB (qv 0)) (qab_nil)))) (qg_name 3 sc__law_distance.nd rfl (by first | exact Or.inl rfl | exact Or.inr rfl)) (qss_cons (qs_own 4 sc__law_distance.nd rfl (by first | exact Or.inl rfl | exact Or.inr rfl) (q_lstL (qa_cons (q_op o_add (QE.toB (qv 3)) (QE.toB (q_int))) (qa_nil))))
      (qss_cons (qs_for PassesOwn.never rfl (qi_range1 (by rfl) T.n_range (q_bi c_len (by rfl) T.n_len (by decide +kernel) (qab_cons (QE.toB (qv 1)) (qab_nil)))) (qg_name 5 sc__law_distance.nd rfl (by first | exact Or.inl rfl | exact Or.inr rfl)) (qss_one (qs_append 4 rfl (by first | exact Or.inl rfl | exact Or.inr (Or.inl rfl)) (q_bi (c_min3 rfl) (by rfl) T.n_min (by decide +kernel) (qab_cons (QE.toB (q_op o_add (QE.toB (q_ix (QE.toB (qv 2)) (QE.toB (q_op o_add (QE.toB (qv 5)) (QE.toB (q_int)))) (fun _ _ => rfl))) (QE.toB (q_int)))) (qab_cons (QE.toB (q_op o_add (QE.toB (q_ix (qb 4) (QE.toB (qv 5)) (fun _ _ => rfl))) (QE.toB (q_int)))) (qab_cons (QE.toB (q_op o_add (QE.toB (q_ix (QE.toB (qv 2)) (QE.toB (qv 5)) (fun _ _ => rfl))) (QE.toB (q_if (q_tcmp (o_eq (hu70 hr)) (QE.toB (q_ix (QE.toB (qv 0)) (QE.toB (qv 3)) (fun _ _ => rfl))) (QE.toB (q_ix (QE.toB (qv 1)) (QE.toB (qv 5)) (fun _ _ => rfl))) (by first | exact nomark _ | rfl)) (q_int) (q_int))))) (qab_nil))))))))
      (qss_one (qs_frz 4 (qs_set 2 sc__law_distance.nd rfl (by first | exact Or.inl rfl | exact Or.inr rfl) (qv 4)))))))
      (qss_one (qs_ret (q_ix (QE.toB (qv 2)) (QE.toB (q_un o_neg (QE.toB (q_int)))) (fun _ _ => rfl)))))⟩)
theorem qs_law (T : Facts K mg) {cdv : Value} {A : Around} {outer : List PySem.Env} {s : Shared} {H : Hp} {E : XK} (hr : Room 20 (A.deeper (PyProof.Rows.envOfC "law" (defScope (topS 17)) s.heap.objs.size T.a_law cdv))) : ∃ t, QSs K (cxOf CX0 P w K mg base N_law "law" (defScope (topS 17)) T.a_law cdv A outer s H E).nox EXn ((defBody (topS 17)).drop 1) t d_law :=
  ⟨_, qss_cons (qs_for PassesOwn.never rfl (qi_range1 (by rfl) T.n_range (q_int)) (qg_name 2 sc_law.nd rfl (by first | exact Or.inl rfl | exact Or.inr rfl)) (qss_cons (qs_set 3 sc_law.nd rfl (by first | exact Or.inl rfl | exact Or.inr rfl) (q_ix (QE.toB (q_lst (qa_cons (q_str [97, 98]) (qa_cons (q_str [97, 98, 99]) (qa_cons (q_str [97, 98, 10]) (qa_nil)))))) (QE.toB (q_callB ((ok__law_draw T).mono (by decide)) hr (by rfl) T.g__law_draw T.F__law_draw.kp T.b__law_draw pass0 (pv 1) (qa_cons (q_int) (qa_nil)))) (fun _ _ => rfl)))
      (qss_cons (qs_asg (q_tup (qa_cons (q_callB ((ok__law_text T).mono (by decide)) hr (by rfl) T.g__law_text T.F__law_text.kp T.b__law_text pass0 (pv 1) (qa_cons (q_int) (qa_cons (qv 3) (qa_nil)))) (qa_cons (q_op o_add (QE.toB (q_ix (QE.toB (qv 3)) (QE.toB (q_callB ((ok__law_draw T).mono (by decide)) hr (by rfl) T.g__law_draw T.F__law_draw.kp T.b__law_draw pass0 (pv 1) (qa_cons (q_int) (qa_nil)))) (fun _ _ => rfl))) (QE.toB (q_callB ((ok__law_text T).mono (by decide)) hr (by rfl) T.g__law_text T.F__law_text.kp T.b__law_text pass0 (pv 1) (qa_cons (q_int) (qa_cons (qv 3) (qa_nil)))))) (qa_nil)))) (qg_tup rfl (qgs_cons (qg_name 10 sc_law.nd rfl (by first | exact Or.inl rfl | exact Or.inr rfl)) (qgs_cons (qg_name 11 sc_law.nd rfl (by first | exact Or.inl rfl | exact Or.inr rfl)) (qgs_nil)))))
      (qss_cons (qs_if (q_tcmp (o_eq (hu70 hr)) (QE.toB (q_callB ((ok__law_draw T).mono (by decide)) hr (by rfl) T.g__law_draw T.F__law_draw.kp T.b__law_draw pass0 (pv 1) (qa_cons (q_int) (qa_nil)))) (QE.toB (q_int)) (by first | exact nomark _ | rfl)) (qss_one (qs_set 10 sc_law.nd rfl (by first | exact Or.inl rfl | exact Or.inr rfl) (q_op o_add (QE.toB (q_op o_add (QE.toB (q_op o_add (QE.toB (q_op o_add (QE.toB (q_sl (QE.toB (qv 10)) (qo_no) (qo_some (q_int)))) (QE.toB (q_sl (QE.toB (qv 11)) (qo_no) (qo_some (q_int)))))) (QE.toB (q_callB ((ok__law_text T).mono (by decide)) hr (by rfl) T.g__law_text T.F__law_text.kp T.b__law_text pass0 (pv 1) (qa_cons (q_int) (qa_cons (qv 3) (qa_nil))))))) (QE.toB (q_sl (QE.toB (qv 11)) (qo_some (q_int)) (qo_no))))) (QE.toB (q_sl (QE.toB (qv 10)) (qo_some (q_int)) (qo_some (q_int))))))) (qss_nil))
      (qss_cons (qs_set 4 sc_law.nd rfl (by first | exact Or.inl rfl | exact Or.inr rfl) (QL.toE (q_lc (own := [("b", 12)]) rfl sc_law.nd (QI.toC (qi_range1 (by rfl) T.n_range (q_op o_add (QE.toB (q_bi c_len (by rfl) T.n_len (by decide +kernel) (qab_cons (QE.toB (qv 10)) (qab_nil)))) (QE.toB (q_int))))) (blkOk_by (N := N_law) (sc := defScope (topS 17)) (by decide +kernel)) (fun _ _ _ _ _ => qg_name 12 sc_law.nd rfl (by first | exact Or.inl rfl | exact Or.inr rfl)) (by decide) (fun _ _ _ _ _ => qts_nil) (fun _ _ _ _ _ => QL.toE (q_lc (own := [("a", 13)]) rfl sc_law.nd (QI.toC (qi_range1 (by rfl) T.n_range (q_op o_add (QE.toB (qv 12)) (QE.toB (q_int))))) (blk_by (by with_unfolding_all rfl)) (fun _ _ _ _ _ => qg_name 13 sc_law.nd rfl (by first | exact Or.inl rfl | exact Or.inr rfl)) (by decide) (fun _ _ _ _ _ => qts_nil) (fun _ _ _ _ _ => q_call ((ok__law_distance T).mono (by decide)) hr (by rfl) T.g__law_distance T.F__law_distance.kp T.b__law_distance pass0 (qa_cons (qv 11) (qa_cons (q_sl (QE.toB (qv 10)) (qo_some (qv 13)) (qo_some (qv 12))) (qa_nil)))))))))
      (qss_cons (qs_set 5 sc_law.nd rfl (by first | exact Or.inl rfl | exact Or.inr rfl) (q_ty c_tuple (by rfl) T.n_tuple (by decide +kernel) (qab_cons (QE.toB (QL.toE (q_lc (own := [("row", 14)]) rfl sc_law.nd (qic_any (QE.toB (qv 4))) (blkOk_by (N := N_law) (sc := defScope (topS 17)) (by decide +kernel)) (fun _ _ _ _ _ => qg_name 14 sc_law.nd rfl (by first | exact Or.inl rfl | exact Or.inr rfl)) (by decide) (fun _ _ _ _ _ => qts_nil) (fun _ _ _ _ _ => q_bi (c_min rfl) (by rfl) T.n_min (by decide +kernel) (qab_cons (QE.toB (qv 14)) (qab_nil)))))) (qab_nil))))
      (qss_cons (qs_if (q_tnot (q_ttruth (QE.toB (q_call ((ok__law_same T 20).mono (by decide)) hr (by rfl) T.g__law_same T.F__law_same.kp T.b__law_same pass0 (qa_cons (q_call ((ok_near_ends T).mono (by decide)) hr (by rfl) T.g_near_ends T.F_near_ends.kp T.b_near_ends pass0 (qa_cons (qv 10) (qa_cons (qv 11) (qa_nil)))) (qa_cons (qv 5) (qa_nil))))))) (qss_one (qs_ret (q_bl))) (qss_nil))
      (qss_cons (qs_set 6 sc_law.nd rfl (by first | exact Or.inl rfl | exact Or.inr rfl) (q_bi (c_min rfl) (by rfl) T.n_min (by decide +kernel) (qab_cons (QE.toB (qv 5)) (qab_nil))))
      (qss_cons (qs_set 7 sc_law.nd rfl (by first | exact Or.inl rfl | exact Or.inr rfl) (q_ix (QE.toB (QL.toE (q_lc (own := [("b", 12)]) rfl sc_law.nd (QI.toC (qi_range1 (by rfl) T.n_range (q_op o_add (QE.toB (q_bi c_len (by rfl) T.n_len (by decide +kernel) (qab_cons (QE.toB (qv 10)) (qab_nil)))) (QE.toB (q_int))))) (blkOk_by (N := N_law) (sc := defScope (topS 17)) (by decide +kernel)) (fun _ _ _ _ _ => qg_name 12 sc_law.nd rfl (by first | exact Or.inl rfl | exact Or.inr rfl)) (by decide) (fun _ _ _ _ _ => qts_one (q_tcmp (o_eq (hu70 hr)) (QE.toB (q_ix (QE.toB (qv 5)) (QE.toB (qv 12)) (fun _ _ => rfl))) (QE.toB (qv 6)) (by first | exact nomark _ | rfl))) (fun _ _ _ _ _ => qv 12)))) (QE.toB (q_int)) (fun _ _ => rfl)))
      (qss_cons (qs_set 8 sc_law.nd rfl (by first | exact Or.inl rfl | exact Or.inr rfl) (q_bi (c_max rfl) (by rfl) T.n_max (by decide +kernel) (qab_cons (QE.toB (QL.toE (q_lc (own := [("a", 13)]) rfl sc_law.nd (QI.toC (qi_range1 (by rfl) T.n_range (q_op o_add (QE.toB (qv 7)) (QE.toB (q_int))))) (blkOk_by (N := N_law) (sc := defScope (topS 17)) (by decide +kernel)) (fun _ _ _ _ _ => qg_name 13 sc_law.nd rfl (by first | exact Or.inl rfl | exact Or.inr rfl)) (by decide) (fun _ _ _ _ _ => qts_one (q_tcmp (o_eq (hu70 hr)) (QE.toB (q_ix (QE.toB (q_ix (QE.toB (qv 4)) (QE.toB (qv 7)) (fun _ _ => rfl))) (QE.toB (qv 13)) (fun _ _ => rfl))) (QE.toB (qv 6)) (by first | exact nomark _ | rfl))) (fun _ _ _ _ _ => qv 13)))) (qab_nil))))
      (qss_cons (qs_if (QW.pt (qw_or (q_tnot (q_ttruth (QE.toB (q_call ((ok__law_same T 20).mono (by decide)) hr (by rfl) T.g__law_same T.F__law_same.kp T.b__law_same pass0 (qa_cons (q_call ((ok_nearest T).mono (by decide)) hr (by rfl) T.g_nearest T.F_nearest.kp T.b_nearest pass0 (qa_cons (qv 10) (qa_cons (qv 11) (qa_nil)))) (qa_cons (q_tup (qa_cons (qv 6) (qa_cons (q_tup (qa_cons (qv 8) (qa_cons (qv 7) (qa_nil)))) (qa_nil)))) (qa_nil))))))) (qw_or1 (q_tcmp (o_ne (hu70 hr)) (QE.toB (q_call ((ok_distance T).mono (by decide)) hr (by rfl) T.g_distance T.F_distance.kp T.b_distance pass0 (qa_cons (qv 11) (qa_cons (q_sl (QE.toB (qv 10)) (qo_some (qv 8)) (qo_some (qv 7))) (qa_nil))))) (QE.toB (qv 6)) (by first | exact nomark _ | rfl))))) (qss_one (qs_ret (q_bl))) (qss_nil))
      (qss_cons (qs_if (QW.pt (qw_or (q_tnot (q_ttruth (QE.toB (q_bi (c_all rfl) (by rfl) T.n_all (by decide +kernel) (qab_cons (QE.toB (QL.toE (q_lc (own := [("place", 15)]) rfl sc_law.nd (qic_any (QE.toB (q_call ((ok_finds T).mono (by decide)) hr (by rfl) T.g_finds T.F_finds.kp T.b_finds pass0 (qa_cons (qv 10) (qa_cons (qv 11) (qa_nil)))))) (blkOk_by (N := N_law) (sc := defScope (topS 17)) (by decide +kernel)) (fun _ _ _ _ _ => qg_name 15 sc_law.nd rfl (by first | exact Or.inl rfl | exact Or.inr rfl)) (by decide) (fun _ _ _ _ _ => qts_nil) (fun _ _ _ _ _ => q_cmp (o_eq (hu70 hr)) (QE.toB (q_ix (QE.toB (qv 5)) (QE.toB (q_op o_add (QE.toB (qv 15)) (QE.toB (q_bi c_len (by rfl) T.n_len (by decide +kernel) (qab_cons (QE.toB (qv 11)) (qab_nil)))))) (fun _ _ => rfl))) (QE.toB (q_int)) (by first | exact nomark _ | rfl))))) (qab_nil)))))) (qw_or (q_tcmp (o_gt) (QE.toB (q_bi (c_max rfl) (by rfl) T.n_max (by decide +kernel) (qab_cons (QE.toB (qv 5)) (qab_nil)))) (QE.toB (q_bi c_len (by rfl) T.n_len (by decide +kernel) (qab_cons (QE.toB (qv 11)) (qab_nil)))) (by first | exact nomark _ | rfl)) (qw_or1 (q_tcmp (o_ne (hu70 hr)) (QE.toB (q_cmp (o_eq (hu70 hr)) (QE.toB (qv 6)) (QE.toB (q_int)) (by first | exact nomark _ | rfl))) (QE.toB (q_cmp (o_gt) (QE.toB (q_bi c_len (by rfl) T.n_len (by decide +kernel) (qab_cons (QE.toB (q_call ((ok_finds T).mono (by decide)) hr (by rfl) T.g_finds T.F_finds.kp T.b_finds pass0 (qa_cons (qv 10) (qa_cons (qv 11) (qa_nil))))) (qab_nil)))) (QE.toB (q_int)) (by first | exact nomark _ | rfl))) (by first | exact nomark _ | rfl)))))) (qss_one (qs_ret (q_bl))) (qss_nil))
      (qss_cons (qs_set 9 sc_law.nd rfl (by first | exact Or.inl rfl | exact Or.inr rfl) (q_op o_add (QE.toB (qv 10)) (QE.toB (q_ix (QE.toB (qv 3)) (QE.toB (q_callB ((ok__law_draw T).mono (by decide)) hr (by rfl) T.g__law_draw T.F__law_draw.kp T.b__law_draw pass0 (pv 1) (qa_cons (q_bi c_len (by rfl) T.n_len (by decide +kernel) (qab_cons (QE.toB (qv 3)) (qab_nil))) (qa_nil)))) (fun _ _ => rfl)))))
      (qss_one (qs_if (q_tnot (q_ttruth (QE.toB (q_call ((ok__law_same T 20).mono (by decide)) hr (by rfl) T.g__law_same T.F__law_same.kp T.b__law_same pass0 (qa_cons (q_sl (QE.toB (q_call ((ok_near_ends T).mono (by decide)) hr (by rfl) T.g_near_ends T.F_near_ends.kp T.b_near_ends pass0 (qa_cons (qv 9) (qa_cons (qv 11) (qa_nil))))) (qo_no) (qo_some (q_un o_neg (QE.toB (q_int))))) (qa_cons (qv 5) (qa_nil))))))) (qss_one (qs_ret (q_bl))) (qss_nil))))))))))))))))
      (qss_one (qs_ret (q_bl)))⟩
theorem ok_law (T : Facts K mg) (hm : ∀ ns : List Int, ns.length ≤ 63 → ∃ S, d_law env_law (.on ns [0, 4711 + (ns.length : Int)]) = .ok (.rt (.bl true)) S) : FnOk P w K mg base CX0 21 T.a_law T.d_law ["script"] (spLaw K) :=
  law_fin (j := 1) T.F_law sc_law rfl rfl (by decide) hm (fun cdv A outer s H E hr =>
    let ⟨t, q⟩ := qs_law T hr
    ⟨t, pss_cons (ps_set (i := 1) sc_law.nd rfl (by first | exact Or.inl rfl | exact Or.inr rfl) (pe_call ((ok__law_box T).mono (by decide)) hr (by rfl) T.g__law_box T.F__law_box.kp T.b__law_box .nil pass0 (pa_cons (pv 0) pa_nil))) q.ps, q.sn⟩)
end
end K45

set_option Elab.async false
set_option linter.all false
set_option maxRecDepth 100000
set_option maxHeartbeats 0
namespace K45
open DN PySem L2
theorem all_mk {l : PySem.W.OpenLaw} {w : World} {K : PySem.W.Frag} {h : Heap} {mg : Str → Option Value} {fa f1 f2 f3 f4 f5 f6 f7 f8 f9 f10 f11 f12 f13 f14 f15 : Addr} (X : K.In h) (G : h.Ns mainGlobals mg) (hfa : mg "law" = some (.ref fa))
    {od1 an1 od2 an2 od3 an3 od4 an4 od5 an5 od6 an6 od7 an7 od8 an8 od9 an9 od10 an10 od11 an11 od12 an12 od13 an13 od14 an14 od15 an15 : Option Addr} {sl1 sl2 sl3 sl4 sl5 sl6 sl7 sl8 sl9 sl10 sl11 sl12 sl13 sl14 sl15 : Array (Option Value)} {oc1 kV1 dc1 pm1 cd1 ct1 oc2 kV2 dc2 pm2 cd2 ct2 oc3 kV3 dc3 pm3 cd3 ct3 oc4 kV4 dc4 pm4 cd4 ct4 oc5 kV5 dc5 pm5 cd5 ct5 oc6 kV6 dc6 pm6 cd6 ct6 oc7 kV7 dc7 pm7 cd7 ct7 oc8 kV8 dc8 pm8 cd8 ct8 oc9 kV9 dc9 pm9 cd9 ct9 oc10 kV10 dc10 pm10 cd10 ct10 oc11 kV11 dc11 pm11 cd11 ct11 oc12 kV12 dc12 pm12 cd12 ct12 oc13 kV13 dc13 pm13 cd13 ct13 oc14 kV14 dc14 pm14 cd14 ct14 oc15 kV15 dc15 pm15 cd15 ct15 : Value}
    (a1 : PySem.W.nsIn K mainGlobals "_law_box" = some (some (.ref f1))) (l1 : K.lookup f1 = some ⟨oc1, od1, .func (PySem.W.fnOf "_law_box" "_law_box" (defArgs (topS 11)) (defBody (topS 11)) (defScope (topS 11)) .none kV1 dc1 pm1 an1 cd1 ct1), sl1⟩) (c1 : PySem.W.codeIn K cd1 "_law_box" = true) (k1 : PySem.W.keepIn K (.ref f1) = true)
    (a2 : PySem.W.nsIn K mainGlobals "_law_load" = some (some (.ref f2))) (l2 : K.lookup f2 = some ⟨oc2, od2, .func (PySem.W.fnOf "_law_load" "_law_load" (defArgs (topS 12)) (defBody (topS 12)) (defScope (topS 12)) .none kV2 dc2 pm2 an2 cd2 ct2), sl2⟩) (c2 : PySem.W.codeIn K cd2 "_law_load" = true) (k2 : PySem.W.keepIn K (.ref f2) = true)
    (a3 : PySem.W.nsIn K mainGlobals "_law_draw" = some (some (.ref f3))) (l3 : K.lookup f3 = some ⟨oc3, od3, .func (PySem.W.fnOf "_law_draw" "_law_draw" (defArgs (topS 13)) (defBody (topS 13)) (defScope (topS 13)) .none kV3 dc3 pm3 an3 cd3 ct3), sl3⟩) (c3 : PySem.W.codeIn K cd3 "_law_draw" = true) (k3 : PySem.W.keepIn K (.ref f3) = true)
    (a4 : PySem.W.nsIn K mainGlobals "distance_table" = some (some (.ref f4))) (l4 : K.lookup f4 = some ⟨oc4, od4, .func (PySem.W.fnOf "distance_table" "distance_table" (defArgs (topS 1)) (defBody (topS 1)) (defScope (topS 1)) .none kV4 dc4 pm4 an4 cd4 ct4), sl4⟩) (c4 : PySem.W.codeIn K cd4 "distance_table" = true) (k4 : PySem.W.keepIn K (.ref f4) = true)
    (a5 : PySem.W.nsIn K mainGlobals "distance" = some (some (.ref f5))) (l5 : K.lookup f5 = some ⟨oc5, od5, .func (PySem.W.fnOf "distance" "distance" (defArgs (topS 2)) (defBody (topS 2)) (defScope (topS 2)) .none kV5 dc5 pm5 an5 cd5 ct5), sl5⟩) (c5 : PySem.W.codeIn K cd5 "distance" = true) (k5 : PySem.W.keepIn K (.ref f5) = true)
    (a6 : PySem.W.nsIn K mainGlobals "near_rows" = some (some (.ref f6))) (l6 : K.lookup f6 = some ⟨oc6, od6, .func (PySem.W.fnOf "near_rows" "near_rows" (defArgs (topS 3)) (defBody (topS 3)) (defScope (topS 3)) .none kV6 dc6 pm6 an6 cd6 ct6), sl6⟩) (c6 : PySem.W.codeIn K cd6 "near_rows" = true) (k6 : PySem.W.keepIn K (.ref f6) = true)
    (a7 : PySem.W.nsIn K mainGlobals "near_ends" = some (some (.ref f7))) (l7 : K.lookup f7 = some ⟨oc7, od7, .func (PySem.W.fnOf "near_ends" "near_ends" (defArgs (topS 4)) (defBody (topS 4)) (defScope (topS 4)) .none kV7 dc7 pm7 an7 cd7 ct7), sl7⟩) (c7 : PySem.W.codeIn K cd7 "near_ends" = true) (k7 : PySem.W.keepIn K (.ref f7) = true)
    (a8 : PySem.W.nsIn K mainGlobals "nearest" = some (some (.ref f8))) (l8 : K.lookup f8 = some ⟨oc8, od8, .func (PySem.W.fnOf "nearest" "nearest" (defArgs (topS 5)) (defBody (topS 5)) (defScope (topS 5)) .none kV8 dc8 pm8 an8 cd8 ct8), sl8⟩) (c8 : PySem.W.codeIn K cd8 "nearest" = true) (k8 : PySem.W.keepIn K (.ref f8) = true)
    (a9 : PySem.W.nsIn K mainGlobals "shift_table" = some (some (.ref f9))) (l9 : K.lookup f9 = some ⟨oc9, od9, .func (PySem.W.fnOf "shift_table" "shift_table" (defArgs (topS 7)) (defBody (topS 7)) (defScope (topS 7)) .none kV9 dc9 pm9 an9 cd9 ct9), sl9⟩) (c9 : PySem.W.codeIn K cd9 "shift_table" = true) (k9 : PySem.W.keepIn K (.ref f9) = true)
    (a10 : PySem.W.nsIn K mainGlobals "beginnings_met" = some (some (.ref f10))) (l10 : K.lookup f10 = some ⟨oc10, od10, .func (PySem.W.fnOf "beginnings_met" "beginnings_met" (defArgs (topS 8)) (defBody (topS 8)) (defScope (topS 8)) .none kV10 dc10 pm10 an10 cd10 ct10), sl10⟩) (c10 : PySem.W.codeIn K cd10 "beginnings_met" = true) (k10 : PySem.W.keepIn K (.ref f10) = true)
    (a11 : PySem.W.nsIn K mainGlobals "finds" = some (some (.ref f11))) (l11 : K.lookup f11 = some ⟨oc11, od11, .func (PySem.W.fnOf "finds" "finds" (defArgs (topS 9)) (defBody (topS 9)) (defScope (topS 9)) .none kV11 dc11 pm11 an11 cd11 ct11), sl11⟩) (c11 : PySem.W.codeIn K cd11 "finds" = true) (k11 : PySem.W.keepIn K (.ref f11) = true)
    (a12 : PySem.W.nsIn K mainGlobals "_law_same" = some (some (.ref f12))) (l12 : K.lookup f12 = some ⟨oc12, od12, .func (PySem.W.fnOf "_law_same" "_law_same" (defArgs (topS 14)) (defBody (topS 14)) (defScope (topS 14)) .none kV12 dc12 pm12 an12 cd12 ct12), sl12⟩) (c12 : PySem.W.codeIn K cd12 "_law_same" = true) (k12 : PySem.W.keepIn K (.ref f12) = true)
    (a13 : PySem.W.nsIn K mainGlobals "_law_text" = some (some (.ref f13))) (l13 : K.lookup f13 = some ⟨oc13, od13, .func (PySem.W.fnOf "_law_text" "_law_text" (defArgs (topS 15)) (defBody (topS 15)) (defScope (topS 15)) .none kV13 dc13 pm13 an13 cd13 ct13), sl13⟩) (c13 : PySem.W.codeIn K cd13 "_law_text" = true) (k13 : PySem.W.keepIn K (.ref f13) = true)
    (a14 : PySem.W.nsIn K mainGlobals "_law_distance" = some (some (.ref f14))) (l14 : K.lookup f14 = some ⟨oc14, od14, .func (PySem.W.fnOf "_law_distance" "_law_distance" (defArgs (topS 16)) (defBody (topS 16)) (defScope (topS 16)) .none kV14 dc14 pm14 an14 cd14 ct14), sl14⟩) (c14 : PySem.W.codeIn K cd14 "_law_distance" = true) (k14 : PySem.W.keepIn K (.ref f14) = true)
    (a15 : PySem.W.nsIn K mainGlobals "law" = some (some (.ref f15))) (l15 : K.lookup f15 = some ⟨oc15, od15, .func (PySem.W.fnOf "law" "law" (defArgs (topS 17)) (defBody (topS 17)) (defScope (topS 17)) .none kV15 dc15 pm15 an15 cd15 ct15), sl15⟩) (c15 : PySem.W.codeIn K cd15 "law" = true) (k15 : PySem.W.keepIn K (.ref f15) = true)
    (z_all : PySem.W.nsIn K mainGlobals "all" = some none)
    (z_bool : PySem.W.nsIn K mainGlobals "bool" = some none)
    (z_enumerate : PySem.W.nsIn K mainGlobals "enumerate" = some none)
    (z_int : PySem.W.nsIn K mainGlobals "int" = some none)
    (z_isinstance : PySem.W.nsIn K mainGlobals "isinstance" = some none)
    (z_len : PySem.W.nsIn K mainGlobals "len" = some none)
    (z_list : PySem.W.nsIn K mainGlobals "list" = some none)
    (z_max : PySem.W.nsIn K mainGlobals "max" = some none)
    (z_min : PySem.W.nsIn K mainGlobals "min" = some none)
    (z_range : PySem.W.nsIn K mainGlobals "range" = some none)
    (z_str : PySem.W.nsIn K mainGlobals "str" = some none)
    (z_tuple : PySem.W.nsIn K mainGlobals "tuple" = some none)
    : ∃ fd : FuncData, (∀ (s : Shared) (v : Value), BindsTo s fd ⟨[v], []⟩ [("script", v)]) ∧ ∀ base : Heap, K.In base → base.Ns mainGlobals mg → FnOk l.prog w K mg base CX0 21 fa fd ["script"] (spLaw K) := by
  have e := hfa.symm.trans (PySem.W.mg_of X G a15)
  cases e
  have F1 := fun_mk (st := topS 11) l1 c1 k1
  have b1 := F1.binds (ps := ["script"]) fun _ _ _ _ _ _ us hl => match us, hl with | [_], _ => rfl
  have F2 := fun_mk (st := topS 12) l2 c2 k2
  have b2 := F2.binds (ps := ["box"]) fun _ _ _ _ _ _ us hl => match us, hl with | [_], _ => rfl
  have F3 := fun_mk (st := topS 13) l3 c3 k3
  have b3 := F3.binds (ps := ["box", "many"]) fun _ _ _ _ _ _ us hl => match us, hl with | [_, _], _ => rfl
  have F4 := fun_mk (st := topS 1) l4 c4 k4
  have b4 := F4.binds (ps := ["one", "other"]) fun _ _ _ _ _ _ us hl => match us, hl with | [_, _], _ => rfl
  have F5 := fun_mk (st := topS 2) l5 c5 k5
  have b5 := F5.binds (ps := ["one", "other"]) fun _ _ _ _ _ _ us hl => match us, hl with | [_, _], _ => rfl
  have F6 := fun_mk (st := topS 3) l6 c6 k6
  have b6 := F6.binds (ps := ["text", "word"]) fun _ _ _ _ _ _ us hl => match us, hl with | [_, _], _ => rfl
  have F7 := fun_mk (st := topS 4) l7 c7 k7
  have b7 := F7.binds (ps := ["text", "word"]) fun _ _ _ _ _ _ us hl => match us, hl with | [_, _], _ => rfl
  have F8 := fun_mk (st := topS 5) l8 c8 k8
  have b8 := F8.binds (ps := ["text", "word"]) fun _ _ _ _ _ _ us hl => match us, hl with | [_, _], _ => rfl
  have F9 := fun_mk (st := topS 7) l9 c9 k9
  have b9 := F9.binds (ps := ["word"]) fun _ _ _ _ _ _ us hl => match us, hl with | [_], _ => rfl
  have F10 := fun_mk (st := topS 8) l10 c10 k10
  have b10 := F10.binds (ps := ["text", "word"]) fun _ _ _ _ _ _ us hl => match us, hl with | [_, _], _ => rfl
  have F11 := fun_mk (st := topS 9) l11 c11 k11
  have b11 := F11.binds (ps := ["text", "word"]) fun _ _ _ _ _ _ us hl => match us, hl with | [_, _], _ => rfl
  have F12 := fun_mk (st := topS 14) l12 c12 k12
  have b12 := F12.binds (ps := ["a", "b"]) fun _ _ _ _ _ _ us hl => match us, hl with | [_, _], _ => rfl
  have F13 := fun_mk (st := topS 15) l13 c13 k13
  have b13 := F13.binds (ps := ["box", "most", "signs"]) fun _ _ _ _ _ _ us hl => match us, hl with | [_, _, _], _ => rfl
  have F14 := fun_mk (st := topS 16) l14 c14 k14
  have b14 := F14.binds (ps := ["one", "other"]) fun _ _ _ _ _ _ us hl => match us, hl with | [_, _], _ => rfl
  have F15 := fun_mk (st := topS 17) l15 c15 k15
  have b15 := F15.binds (ps := ["script"]) fun _ _ _ _ _ _ us hl => match us, hl with | [_], _ => rfl
  exact ⟨_, fun s v => .of_eq rfl, fun base _ _ => ok_law (P := l.prog) (w := w) (base := base) (mg := mg) (K := K) { n_all := PySem.W.mg_none_of X G z_all, n_bool := PySem.W.mg_none_of X G z_bool, n_enumerate := PySem.W.mg_none_of X G z_enumerate, n_int := PySem.W.mg_none_of X G z_int, n_isinstance := PySem.W.mg_none_of X G z_isinstance, n_len := PySem.W.mg_none_of X G z_len, n_list := PySem.W.mg_none_of X G z_list, n_max := PySem.W.mg_none_of X G z_max, n_min := PySem.W.mg_none_of X G z_min, n_range := PySem.W.mg_none_of X G z_range, n_str := PySem.W.mg_none_of X G z_str, n_tuple := PySem.W.mg_none_of X G z_tuple, a__law_box := _, d__law_box := _, g__law_box := PySem.W.mg_of X G a1, F__law_box := F1, b__law_box := b1, a__law_load := _, d__law_load := _, g__law_load := PySem.W.mg_of X G a2, F__law_load := F2, b__law_load := b2, a__law_draw := _, d__law_draw := _, g__law_draw := PySem.W.mg_of X G a3, F__law_draw := F3, b__law_draw := b3, a_distance_table := _, d_distance_table := _, g_distance_table := PySem.W.mg_of X G a4, F_distance_table := F4, b_distance_table := b4, a_distance := _, d_distance := _, g_distance := PySem.W.mg_of X G a5, F_distance := F5, b_distance := b5, a_near_rows := _, d_near_rows := _, g_near_rows := PySem.W.mg_of X G a6, F_near_rows := F6, b_near_rows := b6, a_near_ends := _, d_near_ends := _, g_near_ends := PySem.W.mg_of X G a7, F_near_ends := F7, b_near_ends := b7, a_nearest := _, d_nearest := _, g_nearest := PySem.W.mg_of X G a8, F_nearest := F8, b_nearest := b8, a_shift_table := _, d_shift_table := _, g_shift_table := PySem.W.mg_of X G a9, F_shift_table := F9, b_shift_table := b9, a_beginnings_met := _, d_beginnings_met := _, g_beginnings_met := PySem.W.mg_of X G a10, F_beginnings_met := F10, b_beginnings_met := b10, a_finds := _, d_finds := _, g_finds := PySem.W.mg_of X G a11, F_finds := F11, b_finds := b11, a__law_same := _, d__law_same := _, g__law_same := PySem.W.mg_of X G a12, F__law_same := F12, b__law_same := b12, a__law_text := _, d__law_text := _, g__law_text := PySem.W.mg_of X G a13, F__law_text := F13, b__law_text := b13, a__law_distance := _, d__law_distance := _, g__law_distance := PySem.W.mg_of X G a14, F__law_distance := F14, b__law_distance := b14, a_law := _, d_law := _, g_law := PySem.W.mg_of X G a15, F_law := F15, b_law := b15 } law_true⟩
theorem walk {l : PySem.W.OpenLaw} {q : Program} {loose : List Str} {XP : (Str → Option Value) → Heap → Prop} {YP : World → Heap → Prop} {d : DefRec} {K : Params → PySem.W.Frag} (hn : l.most = some 63) (hdf : d.params.defaults = [])
    (hY : ∀ (w : World) (h : Heap), YP w h → (K w.params).In h)
    (F : ∀ (w : World) (mg : Str → Option Value) (fa : Addr) (h : Heap), (K w.params).In h → h.Ns mainGlobals mg → mg d.name = some (.ref fa) →
      ∃ fd : FuncData, (∀ (s : Shared) (u : Value), BindsTo s fd ⟨[u], []⟩ [("script", u)]) ∧ ∀ base : Heap, (K w.params).In base → base.Ns mainGlobals mg → FnOk l.prog w (K w.params) mg base CX0 21 fa fd ["script"] (spLaw (K w.params))) :
    PySem.W.WalkO q loose XP YP l.row.toRowW d [] (fun f vs => PySem.call f vs) :=
  L2.walk_of (n := 63) (k := 21) (x := "script") (CX := fun _ => CX0) (sp := fun w => spLaw (K w.params)) hn (by decide) hdf ⟨rfl, by decide, by decide⟩ hY F (fun _ _ a ns hl _ hS => ⟨a, ns, rfl, hS, hl, fun _ => rfl⟩) fun _ _ _ _ _ z => z
end K45
open PySem PySem.W PyProof.Rows
set_option maxRecDepth 100000 in
set_option maxHeartbeats 0 in
theorem PySem.Challenge.cw_saidanddone_k45_whole_words_that_stand_n_holds : PySem.Challenge.rw_saidanddone_k45_whole_words_that_stand_n.Holds := by
  w_on; o_law; k_head; (case hw => w_witness2)
  k_fill
  refine K45.walk (l := PySem.Challenge.rw_saidanddone_k45_whole_words_that_stand_n) rfl rfl (fun w h Y => PySem.W.kIn_of Y) ?F
  case F =>
    intro w mg fa h KX G hmg
    refine' K45.all_mk KX G hmg ?a1 ?l1 ?c1 ?k1 ?a2 ?l2 ?c2 ?k2 ?a3 ?l3 ?c3 ?k3 ?a4 ?l4 ?c4 ?k4 ?a5 ?l5 ?c5 ?k5 ?a6 ?l6 ?c6 ?k6 ?a7 ?l7 ?c7 ?k7 ?a8 ?l8 ?c8 ?k8 ?a9 ?l9 ?c9 ?k9 ?a10 ?l10 ?c10 ?k10 ?a11 ?l11 ?c11 ?k11 ?a12 ?l12 ?c12 ?k12 ?a13 ?l13 ?c13 ?k13 ?a14 ?l14 ?c14 ?k14 ?a15 ?l15 ?c15 ?k15 ?z_all ?z_bool ?z_enumerate ?z_int ?z_isinstance ?z_len ?z_list ?z_max ?z_min ?z_range ?z_str ?z_tuple
    (case a1 => k_is)
    (case l1 => k_is)
    (case c1 => k_is)
    (case k1 => k_is)
    (case a2 => k_is)
    (case l2 => k_is)
    (case c2 => k_is)
    (case k2 => k_is)
    (case a3 => k_is)
    (case l3 => k_is)
    (case c3 => k_is)
    (case k3 => k_is)
    (case a4 => k_is)
    (case l4 => k_is)
    (case c4 => k_is)
    (case k4 => k_is)
    (case a5 => k_is)
    (case l5 => k_is)
    (case c5 => k_is)
    (case k5 => k_is)
    (case a6 => k_is)
    (case l6 => k_is)
    (case c6 => k_is)
    (case k6 => k_is)
    (case a7 => k_is)
    (case l7 => k_is)
    (case c7 => k_is)
    (case k7 => k_is)
    (case a8 => k_is)
    (case l8 => k_is)
    (case c8 => k_is)
    (case k8 => k_is)
    (case a9 => k_is)
    (case l9 => k_is)
    (case c9 => k_is)
    (case k9 => k_is)
    (case a10 => k_is)
    (case l10 => k_is)
    (case c10 => k_is)
    (case k10 => k_is)
    (case a11 => k_is)
    (case l11 => k_is)
    (case c11 => k_is)
    (case k11 => k_is)
    (case a12 => k_is)
    (case l12 => k_is)
    (case c12 => k_is)
    (case k12 => k_is)
    (case a13 => k_is)
    (case l13 => k_is)
    (case c13 => k_is)
    (case k13 => k_is)
    (case a14 => k_is)
    (case l14 => k_is)
    (case c14 => k_is)
    (case k14 => k_is)
    (case a15 => k_is)
    (case l15 => k_is)
    (case c15 => k_is)
    (case k15 => k_is)
    (case z_all => k_is)
    (case z_bool => k_is)
    (case z_enumerate => k_is)
    (case z_int => k_is)
    (case z_isinstance => k_is)
    (case z_len => k_is)
    (case z_list => k_is)
    (case z_max => k_is)
    (case z_min => k_is)
    (case z_range => k_is)
    (case z_str => k_is)
    (case z_tuple => k_is)
#print axioms PySem.Challenge.cw_saidanddone_k45_whole_words_that_stand_n_holds

