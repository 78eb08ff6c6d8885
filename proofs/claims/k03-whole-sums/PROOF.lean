import PyProof.Rows.All
import Wide.All
import OpenK.AllK
import Wide.FinOn
import HandS.ForMost
import HandS.Zip
import HandS.TupAny
import HandS.TupMul
import HandS.Style
import HandS.IsInst
import HandS.Defaults
import HandS.Conv
import HandS.SortInts
import KE.KTupSum
import KE.GoesEnum
import HandS.NoneIn
import HandS.Head0
import HandS.Head1
import HandS.Head2
import HandS.HeadEnd
import HandS.HeadHook1
import HandS.HeadHook2
import HandS.MakeKwOnly
import PySem.Challenge.RW_evenrows_k03_whole_sums
set_option Elab.async false
set_option linter.all false
set_option maxRecDepth 100000
set_option maxHeartbeats 4000000
namespace Ev
open PySem

/-! ### plain data -/
inductive D where
  | non | bl (b : Bool) | int (i : Int) | str (s : Str)
  | tup (ds : List D) | lst (ds : List D)
  | scr | mref (n : Nat)
  deriving Inhabited

def D.sc : D → Bool
  | .non | .bl _ | .int _ | .str _ => true
  | _ => false
def D.isL : D → Bool
  | .lst _ => true
  | _ => false
/-- scalars alone, or a list of scalars -/
def D.flat : D → Bool
  | .lst ds => ds.all D.sc
  | d => d.sc

mutual
def deq : D → D → Bool
  | .non, .non => true
  | .bl a, .bl b => a == b
  | .bl a, .int j => (if a then 1 else 0) == j
  | .int i, .bl b => i == (if b then 1 else 0)
  | .int i, .int j => i == j
  | .str x, .str y => x == y
  | .lst xs, .lst ys => deqs xs ys
  | .tup xs, .tup ys => deqs xs ys
  | _, _ => false
def deqs : List D → List D → Bool
  | [], [] => true
  | x :: xs, y :: ys => deq x y && deqs xs ys
  | _, _ => false
end
/-- comparable data: no script, no object; at most n deep; texts within the line -/
def sh : Nat → D → Bool
  | _, .non => true
  | _, .bl _ => true
  | _, .int _ => true
  | _, .str x => PySem.PyData.strOk x
  | n + 1, .lst ds => ds.all (sh n)
  | n + 1, .tup ds => ds.all (sh n)
  | _, _ => false

/-! ### the store and the monad -/
inductive MO where
  | lst (ds : List D)
  deriving Inhabited
abbrev Mu := List MO
inductive R (α : Type) where
  | ok (a : α) (μ : Mu)
  | ex (c : Nat) (μ : Mu)
  | bad
def M (α : Type) := Mu → R α
namespace M
variable {α β : Type}
def ret (a : α) : M α := fun μ => .ok a μ
def bnd (x : M α) (f : α → M β) : M β := fun μ => match x μ with
  | .ok a μ' => f a μ'
  | .ex c μ' => .ex c μ'
  | .bad => .bad
def no : M α := fun _ => .bad
def err (c : Nat) : M α := fun μ => .ex c μ
def opt : Option α → M α
  | some a => ret a
  | none => no
end M
instance : Monad M where
  pure := M.ret
  bind := M.bnd
instance : LawfulMonad M := LawfulMonad.mk' M
  (id_map := fun x => by
    funext μ
    show M.bnd x (fun a => M.ret a) μ = x μ
    unfold M.bnd
    cases x μ <;> rfl)
  (pure_bind := fun a f => rfl)
  (bind_assoc := fun x f g => by
    funext μ
    show M.bnd (M.bnd x f) g μ = M.bnd x (fun a => M.bnd (f a) g) μ
    unfold M.bnd
    cases x μ <;> rfl)
  (bind_pure_comp := fun f x => rfl)
theorem bind_ok {α β : Type} {x : M α} {f : α → M β} {μ μ' : Mu} {b : β} (h : (x >>= f) μ = .ok b μ') : ∃ a μ1, x μ = .ok a μ1 ∧ f a μ1 = .ok b μ' := by
  have h : M.bnd x f μ = .ok b μ' := h
  unfold M.bnd at h
  cases e : x μ with
  | ok a μ1 => rw [e] at h; exact ⟨a, μ1, rfl, h⟩
  | ex c μ1 => rw [e] at h; cases h
  | bad => rw [e] at h; cases h
theorem pure_ok {α : Type} {a b : α} {μ μ' : Mu} (h : (pure a : M α) μ = .ok b μ') : a = b ∧ μ = μ' := by
  have h : (R.ok a μ : R α) = .ok b μ' := h
  cases h
  exact ⟨rfl, rfl⟩
theorem opt_ok {α : Type} {o : Option α} {b : α} {μ μ' : Mu} (h : M.opt o μ = .ok b μ') : o = some b ∧ μ = μ' := by
  cases o with
  | none => cases h
  | some a => cases h; exact ⟨rfl, rfl⟩

/-! ### the language -/
inductive BOp where
  | add | sub | mul | fdiv | mod | pow
  deriving DecidableEq
inductive COp where
  | eq | ne | lt | le | gt | ge
  deriving DecidableEq
inductive B1 where
  | len | sum | abs | list | tuple | int | all | sorted | min | max
  deriving DecidableEq
inductive Ty where
  | int | bool | str | tuple | list
  deriving DecidableEq
inductive IsC where
  | non | tru | fls
  deriving DecidableEq
inductive Tg where
  | one (i : Nat)
  | many (is : List Nat)
  deriving DecidableEq
mutual
inductive IE where
  | non | bl (b : Bool) | int (i : Int) | str (s : Str)
  | var (i : Nat)
  | glob (x : Str) (d : D)
  | bin (o : BOp) (a b : IE)
  | neg (a : IE) | not (a : IE)
  | cmp (o : COp) (a b : IE)
  | chain (o o' : COp) (a b c : IE)
  | isC (n : Bool) (c : IsC) (a : IE)
  | andL (es : IEs) | orL (es : IEs)
  | ite (c a b : IE)
  | tup (es : IEs) | lst (es : IEs)
  | idx (a i : IE)
  | slice (a : IE) (lo hi : IO)
  | rev (a : IE)
  | call (f : Nat) (es : IEs)
  | callD (f : Nat) (es : IEs) (d : D)
  | callK (f : Nat) (es : IEs) (k : Str) (e : IE)
  | b1 (o : B1) (a : IE)
  | mm (mx : Bool) (a b : IE)
  | isi (t : Ty) (a : IE)
  | lrange (a : IE)
  | dget (kvs : IEs) (k d : IE)
  | didx (kvs : IEs) (k : IE)
  | comp (vs : List Nat) (tg : Tg) (it : IT) (cond : IO) (elt : IE)
  | comp2 (vs vs1 : List Nat) (tg : Tg) (it : IT) (tg1 : Tg) (it1 : IT) (elt : IE)
inductive IEs where
  | nil
  | cons (e : IE) (es : IEs)
inductive IO where
  | none
  | some (e : IE)
inductive IT where
  | seq (a : IE)
  | rng1 (a : IE)
  | rng2 (a b : IE)
  | zip (a b : IE)
  | enum (a : IE)
end
mutual
inductive IS where
  | assign (i : Nat) (e : IE)
  | newRef (i : Nat)
  | unpack (is : List Nat) (e : IE)
  | par (i j : Nat) (a b : IE)
  | setIdx (x : Nat) (k e : IE)
  | swap2 (x : Nat) (k1 k2 e1 e2 : IE)
  | aug (i : Nat) (e : IE)
  | augIdx (x : Nat) (k e : IE)
  | append (x : Nat) (e : IE)
  | extend (x : Nat) (e : IE)
  | appPop (x y : Nat) (e : IE)
  | expr (e : IE)
  | ite (c : IE) (a b : ISs)
  | for_ (tg : Tg) (it : IT) (body : ISs)
  | while_ (n : Nat) (c : IE) (body : ISs)
  | ret (e : IE)
  | raise (c : Nat)
  | cont
inductive ISs where
  | nil
  | cons (s : IS) (ss : ISs)
end
structure Fn where
  params : Nat
  slots : Nat
  body : ISs

/-! ### operations on data -/
def binD : BOp → D → D → Option D
  | .add, .int i, .int j => some (.int (i + j))
  | .add, .tup xs, .tup ys => if xs.length + ys.length ≤ 1000000 then some (.tup (xs ++ ys)) else none
  | .add, .lst xs, .lst ys => if xs.length + ys.length ≤ 1000000 then some (.lst (xs ++ ys)) else none
  | .sub, .int i, .int j => some (.int (i - j))
  | .mul, .int i, .int j => if (-(2 ^ 64) < i ∧ i < 2 ^ 64) ∨ (-(2 ^ 64) < j ∧ j < 2 ^ 64) then some (.int (i * j)) else none
  | .mul, .lst xs, .int k => if 0 ≤ k ∧ k ≤ 1000 ∧ xs.length ≤ 1000 then some (.lst (List.replicate k.toNat xs).flatten) else none
  | .mul, .tup xs, .int k => if xs ≠ [] ∧ 1 ≤ k ∧ k ≤ 1000 ∧ xs.length ≤ 1000 then some (.tup (List.replicate k.toNat xs).flatten) else none
  | .fdiv, .int i, .int j => if 0 < j ∧ j < 1073741824 then some (.int (i / j)) else none
  | .mod, .int i, .int j => if 0 < j then some (.int (i % j)) else none
  | .pow, .int i, .int j => if 0 ≤ j ∧ j ≤ 1000000 ∧ i.natAbs < 2 ^ 64 then some (.int (i ^ j.toNat)) else none
  | _, _, _ => none
def negD : D → Option D
  | .int i => some (.int (-i))
  | _ => none
def ordI : COp → Int → Int → Bool
  | .lt, i, j => decide (i < j)
  | .le, i, j => decide (i ≤ j)
  | .gt, i, j => decide (j < i)
  | .ge, i, j => decide (j ≤ i)
  | .eq, i, j => decide (i = j)
  | .ne, i, j => !decide (i = j)
/-- comparisons; the script alone with a list that is written empty -/
def cmpD (S : List Int) : COp → D → D → Option D
  | .eq, .scr, .lst [] => some (.bl S.isEmpty)
  | .eq, a, b => if sh 8 a && sh 8 b then some (.bl (deq a b)) else none
  | .ne, a, b => if sh 8 a && sh 8 b then some (.bl (!deq a b)) else none
  | o, .int i, .int j => some (.bl (ordI o i j))
  | _, _, _ => none
def isD : Bool → IsC → D → Option D
  | n, .non, .scr => some (.bl n)
  | n, .non, d => some (.bl (match d with | .non => !n | _ => n))
  | n, .tru, .bl b => some (.bl (if n then !b else b))
  | n, .fls, .bl b => some (.bl (if n then b else !b))
  | _, _, _ => none
def truth : D → Option Bool
  | .bl b => some b
  | _ => none
def items : D → Option (List D)
  | .lst xs => some xs
  | .tup xs => some xs
  | _ => none
def intsOf : List D → Option (List Int)
  | [] => some []
  | .int i :: ds => (intsOf ds).map (i :: ·)
  | _ :: _ => none
def blsOf : List D → Option (List Bool)
  | [] => some []
  | .bl i :: ds => (blsOf ds).map (i :: ·)
  | _ :: _ => none
/-! the order of tuples -/
mutual
def dlt : D → D → Option Bool
  | .int i, .int j => some (decide (i < j))
  | .tup xs, .tup ys => dlts xs ys
  | _, _ => none
def dlts : List D → List D → Option Bool
  | [], [] => some false
  | [], _ :: _ => some true
  | _ :: _, [] => some false
  | x :: xs, y :: ys => if deq x y then dlts xs ys else dlt x y
end
def minI : List Int → Option Int
  | [] => none
  | [x] => some x
  | x :: y :: r => (minI (y :: r)).map fun m => if m < x then m else x
def maxI : List Int → Option Int
  | [] => none
  | [x] => some x
  | x :: y :: r => (maxI (y :: r)).map fun m => if x < m then m else x
def insI (x : Int) : List Int → List Int
  | [] => [x]
  | y :: r => if x ≤ y then x :: y :: r else y :: insI x r
def sortI : List Int → List Int
  | [] => []
  | x :: r => insI x (sortI r)
def muLst (μ : Mu) (n : Nat) : Option (List D) := match μ[n]? with
  | some (.lst ds) => some ds
  | _ => none
def lenM (S : List Int) : D → M D
  | .lst ds => pure (.int ds.length)
  | .tup ds => pure (.int ds.length)
  | .scr => pure (.int S.length)
  | .mref n => fun μ => match muLst μ n with
    | some ds => .ok (.int ds.length) μ
    | none => .bad
  | _ => M.no
def b1M (S : List Int) : B1 → D → M D
  | .len, d => lenM S d
  | .sum, d => M.opt ((items d).bind fun xs => (intsOf xs).map fun is => .int is.sum)
  | .abs, .int i => pure (.int (if i < 0 then -i else i))
  | .list, d => M.opt ((items d).map .lst)
  | .tuple, d => M.opt ((items d).map .tup)
  | .int, .int i => pure (.int i)
  | .int, .bl b => pure (.int (if b then 1 else 0))
  | .all, .lst xs => M.opt ((blsOf xs).map fun bs => .bl (bs.all id))
  | .sorted, d => M.opt ((items d).bind fun xs => (intsOf xs).bind fun is => if is.length < 64 then some (.lst ((sortI is).map .int)) else none)
  | .min, .lst xs => M.opt ((intsOf xs).bind fun is => (minI is).map .int)
  | .max, .lst xs => M.opt ((intsOf xs).bind fun is => (maxI is).map .int)
  | _, _ => M.no
def idxD (S : List Int) : D → D → Option D
  | .lst xs, .int i => L2.atI xs i
  | .tup xs, .int i => L2.atI xs i
  | .scr, .int i => (L2.atI S i).map .int
  | .str z, .int i => if z.length ≤ 1000000 then (L2.atI z.cps.toList i).map fun c => .str ⟨#[c]⟩ else none
  | _, _ => none
def cutD (xs : List D) (lo hi : Option Int) : List D := (xs.drop (HT.sIx xs.length 0 lo)).take (HT.sIx xs.length xs.length hi - HT.sIx xs.length 0 lo)
def sliceD (d : D) (lo hi : Option Int) : Option D := match d with
  | .lst xs => some (.lst (cutD xs lo hi))
  | .tup xs => some (.tup (cutD xs lo hi))
  | _ => none
def revD : D → Option D
  | .lst xs => some (.lst xs.reverse)
  | .tup xs => some (.tup xs.reverse)
  | _ => none
def tyD : D → Ty → Option Bool
  | .non, _ => some false
  | .bl _, .bool => some true
  | .bl _, .int => some true
  | .bl _, _ => some false
  | .int _, .int => some true
  | .int _, _ => some false
  | .str _, .str => some true
  | .str _, _ => some false
  | .tup _, .tuple => some true
  | .tup _, _ => some false
  | .lst _, .list => some true
  | .lst _, _ => some false
  | _, _ => none
def keyD : D → Option L2.Key
  | .int i => some (.inl i)
  | _ => none
def rngD (lo hi : Int) : List D := (List.range (hi - lo).toNat).map fun k => .int (lo + (k : Nat))
def small62 (i : Int) : Bool := decide (-(2 ^ 62) ≤ i ∧ i < 2 ^ 62)
/-- the pairs of a display of scalars by int keys: a later one wins -/
def dlook (kvs : List (Int × D)) (k : Int) : Option D := kvs.foldl (fun acc kv => if k = kv.1 then some kv.2 else acc) none
def dgetD (kvs : List (Int × D)) : D → D → Option D
  | .int k, d => some ((dlook kvs k).getD d)
  | _, _ => none
def didxD (kvs : List (Int × D)) : D → Option D
  | .int k => dlook kvs k
  | _ => none
def pairD : D → D → Option (Int × D)
  | .int k, d => if d.sc then some (k, d) else none
  | _, _ => none

/-! ### environments -/
abbrev Env := List (Option (Bool × D))
def look (ρ : Env) (i : Nat) : Option D := match ρ[i]? with
  | some (some (_, d)) => some d
  | _ => none
def put (ρ : Env) (i : Nat) (d : D) : Env := ρ.set i (some (false, d))
def puts (ρ : Env) : List Nat → List D → Option Env
  | [], [] => some ρ
  | i :: is, d :: ds => puts (put ρ i d) is ds
  | _, _ => none
def tgPut (ρ : Env) : Tg → D → Option Env
  | .one i, d => some (put ρ i d)
  | .many is, .tup ds => puts ρ is ds
  | .many is, .lst ds => puts ρ is ds
  | .many _, _ => none
def wipeE (ρ : Env) : List Nat → Env
  | [] => ρ
  | v :: vs => (wipeE ρ vs).set v none
/-- a slot is no longer owned -/
def thaw (ρ : Env) : List Nat → Env
  | [] => ρ
  | i :: is => thaw (match ρ[i]? with
    | some (some (_, d)) => ρ.set i (some (false, d))
    | _ => ρ) is
def ownL (ρ : Env) (i : Nat) : Option (List D) := match ρ[i]? with
  | some (some (true, .lst ds)) => some ds
  | _ => none

/-! ### which slots may be reached from a value, and which values are new lists -/
mutual
def lk : IE → List Nat
  | .var i => [i]
  | .bin _ a b => lk a ++ lk b
  | .andL es => lks es
  | .orL es => lks es
  | .ite _ a b => lk a ++ lk b
  | .tup es => lks es
  | .lst es => lks es
  | .idx a _ => lk a
  | .slice a _ _ => lk a
  | .rev a => lk a
  | .call _ es => lks es
  | .callD _ es _ => lks es
  | .callK _ es _ e => lks es ++ lk e
  | .b1 _ a => lk a
  | .dget _ _ d => lk d
  | .comp _ _ it _ elt => lkT it ++ lk elt
  | .comp2 _ _ _ it _ it1 elt => lkT it ++ (lkT it1 ++ lk elt)
  | _ => []
def lks : IEs → List Nat
  | .nil => []
  | .cons e es => lk e ++ lks es
def lkT : IT → List Nat
  | .seq a => lk a
  | .zip a b => lk a ++ lk b
  | .enum a => lk a
  | _ => []
end
def newL : IE → Bool
  | .lst _ => true
  | .comp _ _ _ _ _ => true
  | .comp2 _ _ _ _ _ _ _ => true
  | .b1 .list _ => true
  | .b1 .sorted _ => true
  | .slice _ _ _ => true
  | .rev _ => true
  | .bin _ _ _ => true
  | .lrange _ => true
  | _ => false
def lost (e : IE) (d : D) : List Nat := if d.sc || (newL e && d.flat) then [] else lk e
def lostT (it : IT) (ds : List D) : List Nat := match it with
  | .seq a => if newL a && ds.all D.sc then [] else lk a
  | it => lkT it
def bindTo (ρ : Env) (i : Nat) (e : IE) (d : D) : Env := (thaw ρ (lost e d)).set i (some (newL e && d.isL, d))

/-! ### the evaluator -/
inductive Fl where
  | next
  | ret (d : D)
  | cont
def compM (f : D → M (Option D)) : List D → M (List D)
  | [] => pure []
  | x :: xs => do
    let r ← f x
    let rs ← compM f xs
    pure (match r with | some d => d :: rs | none => rs)
def compM2 (f : D → M (List D)) : List D → M (List D)
  | [] => pure []
  | x :: xs => do
    let r ← f x
    let rs ← compM2 f xs
    pure (r ++ rs)
def optI : Option D → Option (Option Int)
  | none => some none
  | some (.int i) => some (some i)
  | _ => none
section
variable (S : List Int) (call : Nat → List D → M D)
mutual
def evE : IE → Env → M D
  | .non, _ => pure .non
  | .bl b, _ => pure (.bl b)
  | .int i, _ => pure (.int i)
  | .str s, _ => pure (.str s)
  | .var i, ρ => M.opt (look ρ i)
  | .glob _ d, _ => pure d
  | .bin o a b, ρ => evE a ρ >>= fun x => evE b ρ >>= fun y => M.opt (binD o x y)
  | .neg a, ρ => evE a ρ >>= fun x => M.opt (negD x)
  | .not a, ρ => evE a ρ >>= fun x => M.opt (truth x) >>= fun b => pure (.bl (!b))
  | .cmp o a b, ρ => evE a ρ >>= fun x => evE b ρ >>= fun y => M.opt (cmpD S o x y)
  | .chain o o' a b c, ρ => evE a ρ >>= fun x => evE b ρ >>= fun y => M.opt (cmpD S o x y) >>= fun t => M.opt (truth t) >>= fun k =>
      if k = true then evE c ρ >>= fun z => M.opt (cmpD S o' y z) else pure (.bl false)
  | .isC n c a, ρ => evE a ρ >>= fun x => M.opt (isD n c x)
  | .andL es, ρ => evAnd es ρ
  | .orL es, ρ => evOr es ρ
  | .ite c a b, ρ => evE c ρ >>= fun x => M.opt (truth x) >>= fun k => if k = true then evE a ρ else evE b ρ
  | .tup es, ρ => evEs es ρ >>= fun ds => if ds.length ≤ 1000 then pure (.tup ds) else M.no
  | .lst es, ρ => evEs es ρ >>= fun ds => if ds.length ≤ 1000 then pure (.lst ds) else M.no
  | .idx a i, ρ => evE a ρ >>= fun x => evE i ρ >>= fun y => M.opt (idxD S x y)
  | .slice a lo hi, ρ => evE a ρ >>= fun x => evO lo ρ >>= fun l => M.opt (optI l) >>= fun l => evO hi ρ >>= fun h => M.opt (optI h) >>= fun h => M.opt (sliceD x l h)
  | .rev a, ρ => evE a ρ >>= fun x => M.opt (revD x)
  | .call f es, ρ => evEs es ρ >>= fun ds => call f ds
  | .callD f es d, ρ => evEs es ρ >>= fun ds => call f (ds ++ [d])
  | .callK f es _ e, ρ => evEs es ρ >>= fun ds => evE e ρ >>= fun d => call f (ds ++ [d])
  | .b1 o a, ρ => evE a ρ >>= fun x => b1M S o x
  | .mm mx a b, ρ => evE a ρ >>= fun x => evE b ρ >>= fun y => M.opt (match x, y with
      | .int i, .int j => some (.int (if mx then (if j > i then j else i) else (if j < i then j else i)))
      | _, _ => none)
  | .isi t a, ρ => evE a ρ >>= fun x => M.opt ((tyD x t).map .bl)
  | .lrange a, ρ => evE a ρ >>= fun x => M.opt (match x with
      | .int i => if 0 ≤ i ∧ i ≤ 1000 then some (.lst (rngD 0 i)) else none
      | _ => none)
  | .dget kvs k d, ρ => evPs kvs ρ >>= fun kvs => evE k ρ >>= fun x => evE d ρ >>= fun y => M.opt (dgetD kvs x y)
  | .didx kvs k, ρ => evPs kvs ρ >>= fun kvs => evE k ρ >>= fun x => M.opt (didxD kvs x)
  | .comp vs tg it cond elt, ρ => evT it ρ >>= fun ds => compM (fun d => M.opt (tgPut (thaw (wipeE ρ vs) (lkT it)) tg d) >>= fun ρ1 =>
      evC cond ρ1 >>= fun k => if k = true then evE elt ρ1 >>= fun x => pure (some x) else pure none) ds >>= fun rs => if rs.length ≤ 1000000 then pure (.lst rs) else M.no
  | .comp2 vs vs1 tg it tg1 it1 elt, ρ => evT it ρ >>= fun ds => compM2 (fun d => M.opt (tgPut (thaw (wipeE ρ vs) (lkT it)) tg d) >>= fun ρ1 =>
      evT it1 ρ1 >>= fun es => compM (fun e => M.opt (tgPut (thaw (wipeE ρ1 vs1) (lkT it1)) tg1 e) >>= fun ρ2 => evE elt ρ2 >>= fun x => pure (some x)) es) ds >>= fun rs => if rs.length ≤ 1000000 then pure (.lst rs) else M.no
def evEs : IEs → Env → M (List D)
  | .nil, _ => pure []
  | .cons e es, ρ => evE e ρ >>= fun d => evEs es ρ >>= fun ds => pure (d :: ds)
def evPs : IEs → Env → M (List (Int × D))
  | .nil, _ => pure []
  | .cons k (.cons v r), ρ => evE k ρ >>= fun x => evE v ρ >>= fun y => M.opt (pairD x y) >>= fun p => evPs r ρ >>= fun ps => pure (p :: ps)
  | .cons _ .nil, _ => M.no
def evAnd : IEs → Env → M D
  | .nil, _ => M.no
  | .cons e .nil, ρ => evE e ρ
  | .cons e es, ρ => evE e ρ >>= fun x => M.opt (truth x) >>= fun k => if k = true then evAnd es ρ else pure (.bl false)
def evOr : IEs → Env → M D
  | .nil, _ => M.no
  | .cons e .nil, ρ => evE e ρ
  | .cons e es, ρ => evE e ρ >>= fun x => M.opt (truth x) >>= fun k => if k = true then pure (.bl true) else evOr es ρ
def evO : IO → Env → M (Option D)
  | .none, _ => pure none
  | .some e, ρ => evE e ρ >>= fun d => pure (some d)
def evC : IO → Env → M Bool
  | .none, _ => pure true
  | .some e, ρ => evE e ρ >>= fun x => M.opt (truth x)
def evT : IT → Env → M (List D)
  | .seq a, ρ => evE a ρ >>= fun x => M.opt (items x)
  | .rng1 a, ρ => evE a ρ >>= fun x => M.opt (match x with | .int i => if small62 i then some (rngD 0 i) else none | _ => none)
  | .rng2 a b, ρ => evE a ρ >>= fun x => evE b ρ >>= fun y => M.opt (match x, y with | .int i, .int j => if small62 i && small62 j then some (rngD i j) else none | _, _ => none)
  | .zip a b, ρ => evE a ρ >>= fun x => evE b ρ >>= fun y => M.opt ((items x).bind fun xs => (items y).map fun ys => (xs.zip ys).map fun p => .tup [p.1, p.2])
  | .enum a, ρ => evE a ρ >>= fun x => M.opt (match x with | .lst xs => some (xs.mapIdx fun k d => .tup [.int (k : Nat), d]) | _ => none)
end
def forM (step : D → Env → M (Fl × Env)) : List D → Env → M (Fl × Env)
  | [], ρ => pure (.next, ρ)
  | x :: xs, ρ => step x ρ >>= fun p => match p.1 with
    | .next => forM step xs p.2
    | .cont => forM step xs p.2
    | .ret d => pure (.ret d, p.2)
def whileM (test : Env → M Bool) (step : Env → M (Fl × Env)) : Nat → Env → M (Fl × Env)
  | 0, _ => M.no
  | n + 1, ρ => test ρ >>= fun k => if k = true then step ρ >>= fun p => match p.1 with
      | .next => whileM test step n p.2
      | .cont => whileM test step n p.2
      | .ret d => pure (.ret d, p.2)
    else pure (.next, ρ)
def setD (ds : List D) (k : D) (v : D) : Option (List D) := match k with
  | .int i => (L2.ixN ds.length i).map fun j => ds.set j v
  | _ => none
def muSet (n : Nat) (f : List D → Option (List D)) : M Unit := fun μ => match muLst μ n with
  | some ds => (match f ds with
    | some es => .ok () (μ.set n (.lst es))
    | none => .bad)
  | none => .bad
/-- x.append(d) -/
def appTo (ρ : Env) (x : Nat) (e : IE) (d : D) : M Env := match ρ[x]? with
  | some (some (true, .lst ds)) => if x ∉ lost e d ∧ ds.length < 1000000 then pure ((thaw ρ (lost e d)).set x (some (true, .lst (ds ++ [d])))) else M.no
  | some (some (_, .mref n)) => if d.sc then (fun μ => match muLst μ n with
      | some ds => if ds.length < 1000000 then .ok ρ (μ.set n (.lst (ds ++ [d]))) else .bad
      | none => .bad) else M.no
  | _ => M.no
mutual
def evS : IS → Env → M (Fl × Env)
  | .assign i e, ρ => evE S call e ρ >>= fun d => pure (.next, bindTo ρ i e d)
  | .newRef i, ρ => fun μ => .ok (.next, ρ.set i (some (false, .mref μ.length))) (μ ++ [.lst []])
  | .unpack is e, ρ => evE S call e ρ >>= fun d => M.opt (tgPut (thaw ρ (lost e d)) (.many is) d) >>= fun ρ1 => pure (.next, ρ1)
  | .par i j a b, ρ => evE S call a ρ >>= fun x => evE S call b ρ >>= fun y => pure (.next, bindTo (bindTo ρ j b y) i a x)
  | .setIdx x k e, ρ => evE S call e ρ >>= fun d => evE S call k ρ >>= fun j => M.opt (ownL ρ x) >>= fun ds => M.opt (setD ds j d) >>= fun es =>
      if x ∉ lost e d then pure (.next, (thaw ρ (lost e d)).set x (some (true, .lst es))) else M.no
  | .swap2 x k1 k2 e1 e2, ρ => evE S call e1 ρ >>= fun d1 => evE S call e2 ρ >>= fun d2 => evE S call k1 ρ >>= fun j1 => M.opt (ownL ρ x) >>= fun ds => M.opt (setD ds j1 d1) >>= fun es =>
      evE S call k2 (ρ.set x (some (true, .lst es))) >>= fun j2 => M.opt (setD es j2 d2) >>= fun fs => if d1.sc && d2.sc then pure (.next, ρ.set x (some (true, .lst fs))) else M.no
  | .aug i e, ρ => M.opt (look ρ i) >>= fun x => evE S call e ρ >>= fun y => M.opt (match x, y with
      | .int a, .int b => some (Fl.next, ρ.set i (some (false, .int (a + b))))
      | _, _ => none)
  | .augIdx x k e, ρ => evE S call k ρ >>= fun j => M.opt (ownL ρ x) >>= fun ds => M.opt (idxD S (.lst ds) j) >>= fun a => evE S call e ρ >>= fun b => M.opt (match a, b with
      | .int a, .int b => (setD ds j (.int (a + b))).map fun es => (Fl.next, ρ.set x (some (true, .lst es)))
      | _, _ => none)
  | .append x e, ρ => evE S call e ρ >>= fun d => appTo ρ x e d >>= fun ρ1 => pure (.next, ρ1)
  | .extend x e, ρ => evE S call e ρ >>= fun d => M.opt (ownL ρ x) >>= fun ds => (match d with
      | .lst es => if newL e && !(x ∈ lost e d) && decide (ds.length + es.length ≤ 1000000) then pure (Fl.next, (thaw ρ (lost e d)).set x (some (true, .lst (ds ++ es)))) else M.no
      | _ => M.no)
  | .appPop x y e, ρ => evE S call e ρ >>= fun j => M.opt (ownL ρ y) >>= fun ds => M.opt (ownL ρ x) >>= fun xs => M.opt (idxD S (.lst ds) j) >>= fun d => (match j with
      | .int k => (match L2.ixN ds.length k with
        | some n => if d.sc && x != y && decide (xs.length < 1000000) && decide (ds.length ≤ 1000000) then pure (Fl.next, (ρ.set y (some (true, .lst (ds.eraseIdx n)))).set x (some (true, .lst (xs ++ [d])))) else M.no
        | none => M.no)
      | _ => M.no)
  | .expr e, ρ => evE S call e ρ >>= fun _ => pure (.next, ρ)
  | .ite c a b, ρ => evE S call c ρ >>= fun x => M.opt (truth x) >>= fun k => if k = true then evSs a ρ else evSs b ρ
  | .for_ tg it body, ρ => evT S call it ρ >>= fun ds => forM (fun d ρ => M.opt (tgPut ρ tg d) >>= fun ρ1 => evSs body ρ1) ds (thaw ρ (lostT it ds))
  | .while_ n c body, ρ => whileM (fun ρ => evE S call c ρ >>= fun x => M.opt (truth x)) (fun ρ => evSs body ρ) n ρ
  | .ret e, ρ => evE S call e ρ >>= fun d => pure (.ret d, ρ)
  | .raise c, _ => M.err c
  | .cont, ρ => pure (.cont, ρ)
def evSs : ISs → Env → M (Fl × Env)
  | .nil, ρ => pure (.next, ρ)
  | .cons s ss, ρ => evS s ρ >>= fun p => match p.1 with
    | .next => evSs ss p.2
    | .cont => pure p
    | .ret _ => pure p
end
end
end Ev

set_option Elab.async false
set_option linter.all false
set_option maxRecDepth 100000
set_option maxHeartbeats 4000000
namespace Ev
open PySem L2

/-! ### how data lies in the abstract heap -/
/-- fixed through a def's run: the fragment, the script and where it lies, what must not be reached (the callers' own lists), heap and objects at the entry -/
structure Fx where
  K : PySem.W.Frag
  S : List Int
  sa : Addr
  B : Addr → Prop
  H0 : Hp
  ph0 : List Addr
  held : List (V × D)

mutual
/-- v is d: no list at an address of A, nor an object's -/
inductive Rep (sa : Addr) (ph : List Addr) (A : Addr → Prop) (H : Hp) : V → D → Prop
  | non : Rep sa ph A H .non .non
  | bl (b : Bool) : Rep sa ph A H (.bl b) (.bl b)
  | int (i : Int) : Rep sa ph A H (.int i) (.int i)
  | str (x : Str) : Rep sa ph A H (.str x) (.str x)
  | tup {a : Addr} {vs : List V} {ds : List D} : H a = some (.tup vs) → Reps sa ph A H vs ds → Rep sa ph A H (.ref a) (.tup ds)
  | lst {a : Addr} {vs : List V} {ds : List D} : H a = some (.lst vs) → ¬ A a → a ∉ ph → Reps sa ph A H vs ds → Rep sa ph A H (.ref a) (.lst ds)
  | scr : Rep sa ph A H (.ref sa) .scr
  | mref {n : Nat} {a : Addr} : ph[n]? = some a → Rep sa ph A H (.ref a) (.mref n)
inductive Reps (sa : Addr) (ph : List Addr) (A : Addr → Prop) (H : Hp) : List V → List D → Prop
  | nil : Reps sa ph A H [] []
  | cons {v : V} {vs : List V} {d : D} {ds : List D} : Rep sa ph A H v d → Reps sa ph A H vs ds → Reps sa ph A H (v :: vs) (d :: ds)
end

section
variable {sa : Addr} {ph ph' : List Addr} {A A' : Addr → Prop} {H H' : Hp}
mutual
theorem Rep.mono (hT : ∀ a vs, H a = some (.tup vs) → H' a = some (.tup vs)) (hL : ∀ a vs, H a = some (.lst vs) → ¬ A a → a ∉ ph → H' a = some (.lst vs) ∧ ¬ A' a ∧ a ∉ ph') (hp : ∀ (n : Nat) (a : Addr), ph[n]? = some a → ph'[n]? = some a) :
    ∀ (d : D) (v : V), Rep sa ph A H v d → Rep sa ph' A' H' v d
  | .non, _, h => by cases h; exact .non
  | .bl b, _, h => by cases h; exact .bl b
  | .int i, _, h => by cases h; exact .int i
  | .str x, _, h => by cases h; exact .str x
  | .tup ds, _, h => by
    cases h with
    | tup e r => exact .tup (hT _ _ e) (Reps.mono hT hL hp ds _ r)
  | .lst ds, _, h => by
    cases h with
    | lst e n1 n2 r =>
      obtain ⟨x, y, z⟩ := hL _ _ e n1 n2
      exact .lst x y z (Reps.mono hT hL hp ds _ r)
  | .scr, _, h => by cases h; exact .scr
  | .mref n, _, h => by
    cases h with
    | mref e => exact .mref (hp _ _ e)
theorem Reps.mono (hT : ∀ a vs, H a = some (.tup vs) → H' a = some (.tup vs)) (hL : ∀ a vs, H a = some (.lst vs) → ¬ A a → a ∉ ph → H' a = some (.lst vs) ∧ ¬ A' a ∧ a ∉ ph') (hp : ∀ (n : Nat) (a : Addr), ph[n]? = some a → ph'[n]? = some a) :
    ∀ (ds : List D) (vs : List V), Reps sa ph A H vs ds → Reps sa ph' A' H' vs ds
  | [], _, h => by cases h; exact .nil
  | d :: ds, _, h => by
    cases h with
    | cons a b => exact .cons (Rep.mono hT hL hp d _ a) (Reps.mono hT hL hp ds _ b)
end
theorem Rep.weaken (h : ∀ a, A' a → A a) {v : V} {d : D} (r : Rep sa ph A H v d) : Rep sa ph A' H v d :=
  Rep.mono (fun _ _ e => e) (fun a _ e n m => ⟨e, fun z => n (h a z), m⟩) (fun _ _ e => e) d v r
theorem Reps.weaken (h : ∀ a, A' a → A a) {vs : List V} {ds : List D} (r : Reps sa ph A H vs ds) : Reps sa ph A' H vs ds :=
  Reps.mono (fun _ _ e => e) (fun a _ e n m => ⟨e, fun z => n (h a z), m⟩) (fun _ _ e => e) ds vs r
/-- scalars avoid everything -/
theorem Rep.scal {v : V} {d : D} (hd : d.sc = true) (r : Rep sa ph A H v d) : Rep sa ph' A' H' v d := by
  cases r <;> first | exact .non | exact .bl _ | exact .int _ | exact .str _ | (simp [D.sc] at hd)
theorem Reps.scal : ∀ {vs : List V} {ds : List D}, ds.all D.sc = true → Reps sa ph A H vs ds → Reps sa ph' A' H' vs ds
  | _, _, _, .nil => .nil
  | _, _, h, .cons a b => by
    rw [List.all_cons, Bool.and_eq_true] at h
    exact .cons (a.scal h.1) (Reps.scal h.2 b)
theorem Reps.length : ∀ {vs : List V} {ds : List D}, Reps sa ph A H vs ds → vs.length = ds.length
  | _, _, .nil => rfl
  | _, _, .cons _ b => congrArg Nat.succ b.length
theorem Reps.get : ∀ {vs : List V} {ds : List D} {i : Nat} {d : D}, Reps sa ph A H vs ds → ds[i]? = some d → ∃ v, vs[i]? = some v ∧ Rep sa ph A H v d
  | _, _, _, _, .nil, e => by simp at e
  | _, _, 0, _, .cons a _, e => by simp at e; subst e; exact ⟨_, rfl, a⟩
  | _, _, i + 1, d, .cons _ b, e => by
    obtain ⟨v, h1, h2⟩ := Reps.get (i := i) (d := d) b (by simpa using e)
    exact ⟨v, by simpa using h1, h2⟩
theorem Reps.getV : ∀ {vs : List V} {ds : List D} {i : Nat} {v : V}, Reps sa ph A H vs ds → vs[i]? = some v → ∃ d, ds[i]? = some d ∧ Rep sa ph A H v d
  | _, _, _, _, .nil, e => by simp at e
  | _, _, 0, _, .cons a _, e => by simp at e; subst e; exact ⟨_, rfl, a⟩
  | _, _, i + 1, d, .cons _ b, e => by
    obtain ⟨v, h1, h2⟩ := Reps.getV (i := i) (v := d) b (by simpa using e)
    exact ⟨v, by simpa using h1, h2⟩
theorem Reps.append : ∀ {xs ys : List V} {ds es : List D}, Reps sa ph A H xs ds → Reps sa ph A H ys es → Reps sa ph A H (xs ++ ys) (ds ++ es)
  | _, _, _, _, .nil, s => s
  | _, _, _, _, .cons r t, s => .cons r (Reps.append t s)
theorem Reps.take : ∀ {xs : List V} {ds : List D} (n : Nat), Reps sa ph A H xs ds → Reps sa ph A H (xs.take n) (ds.take n)
  | _, _, 0, _ => .nil
  | _, _, _ + 1, .nil => .nil
  | _, _, n + 1, .cons r t => .cons r (Reps.take n t)
theorem Reps.drop : ∀ {xs : List V} {ds : List D} (n : Nat), Reps sa ph A H xs ds → Reps sa ph A H (xs.drop n) (ds.drop n)
  | _, _, 0, r => r
  | _, _, _ + 1, .nil => .nil
  | _, _, n + 1, .cons _ t => Reps.drop n t
theorem Reps.reverse : ∀ {xs : List V} {ds : List D}, Reps sa ph A H xs ds → Reps sa ph A H xs.reverse ds.reverse
  | _, _, .nil => .nil
  | _, _, .cons r t => by
    rw [List.reverse_cons, List.reverse_cons]
    exact (Reps.reverse t).append (.cons r .nil)
theorem Reps.rep {xs : List V} {ds : List D} (h : Reps sa ph A H xs ds) : ∀ k : Nat, Reps sa ph A H (List.replicate k xs).flatten (List.replicate k ds).flatten
  | 0 => .nil
  | k + 1 => by
    rw [List.replicate_succ, List.replicate_succ, List.flatten_cons, List.flatten_cons]
    exact h.append (Reps.rep h k)
theorem Reps.set : ∀ {xs : List V} {ds : List D} {v : V} {d : D} (i : Nat), Reps sa ph A H xs ds → Rep sa ph A H v d → Reps sa ph A H (xs.set i v) (ds.set i d)
  | _, _, _, _, _, .nil, _ => .nil
  | _, _, _, _, 0, .cons _ t, r => .cons r t
  | _, _, _, _, i + 1, .cons q t, r => .cons q (Reps.set i t r)
theorem Reps.erase : ∀ {xs : List V} {ds : List D} (i : Nat), Reps sa ph A H xs ds → Reps sa ph A H (xs.eraseIdx i) (ds.eraseIdx i)
  | _, _, _, .nil => .nil
  | _, _, 0, .cons _ t => t
  | _, _, i + 1, .cons q t => .cons q (Reps.erase i t)
theorem Reps.intsV : ∀ {xs : List V} {ds : List D} {is : List Int}, Reps sa ph A H xs ds → intsOf ds = some is → xs = is.map V.int
  | _, _, _, .nil, e => by simp [intsOf] at e; subst e; rfl
  | _, _, is, .cons (d := d) r t, e => by
    cases d <;> simp only [intsOf] at e <;> first
      | (cases e; done)
      | (cases r
         obtain ⟨js, h1, h2⟩ := Option.map_eq_some_iff.mp e
         rw [Reps.intsV t h1, ← h2]
         rfl)
theorem Reps.blsV : ∀ {xs : List V} {ds : List D} {is : List Bool}, Reps sa ph A H xs ds → blsOf ds = some is → xs = is.map V.bl
  | _, _, _, .nil, e => by simp [blsOf] at e; subst e; rfl
  | _, _, is, .cons (d := d) r t, e => by
    cases d <;> simp only [blsOf] at e <;> first
      | (cases e; done)
      | (cases r
         obtain ⟨js, h1, h2⟩ := Option.map_eq_some_iff.mp e
         rw [Reps.blsV t h1, ← h2]
         rfl)
theorem Reps.ofInts : ∀ (is : List Int), Reps sa ph A H (is.map V.int) (is.map D.int)
  | [] => .nil
  | i :: is => .cons (.int i) (Reps.ofInts is)
theorem intsOf_map : ∀ (is : List Int), intsOf (is.map D.int) = some is
  | [] => rfl
  | i :: is => by simp [intsOf, intsOf_map is]
end

/-! ### the state -/
/-- what frozen data must not reach: the callers' own lists, and the own lists of the slots but those in L -/
def Av (F : Fx) (own : Nat → Option Addr) (L : List Nat) (a : Addr) : Prop := F.B a ∨ ∃ i, own i = some a ∧ i ∉ L
/-- an object: its data hold no list -/
def MoR (sa : Addr) (ph : List Addr) (H : Hp) (a : Addr) : MO → Prop
  | .lst ds => ∃ vs, H a = some (.lst vs) ∧ Reps sa ph (fun _ => True) H vs ds
structure MuOk (sa : Addr) (ph : List Addr) (H : Hp) (μ : Mu) : Prop where
  len : ph.length = μ.length
  nd : ph.Nodup
  mo : ∀ (n : Nat) (a : Addr) (mo : MO), ph[n]? = some a → μ[n]? = some mo → MoR sa ph H a mo
def ScrR (K : PySem.W.Frag) (S : List Int) (sa : Addr) (H : Hp) : Prop := (∃ ob, H sa = some (.frz ob (.lst (S.map V.int)))) ∨ ∀ H', SqL K H' sa (S.map V.int)
def SlotR (F : Fx) (own : Nat → Option Addr) (ph : List Addr) (H : Hp) (i : Nat) (v : V) : Bool → D → Prop
  | true, d => ∃ p vs ds, v = .ref p ∧ d = .lst ds ∧ own i = some p ∧ H p = some (.lst vs) ∧ Reps F.sa ph (Av F own []) H vs ds
  | false, d => Rep F.sa ph (Av F own []) H v d
structure Stt (F : Fx) (own : Nat → Option Addr) (ph : List Addr) (ρ : Env) (μ : Mu) (σ : L2.St) (H : Hp) : Prop where
  slots : ∀ (i : Nat) (b : Bool) (d : D), ρ[i]? = some (some (b, d)) → ∃ v, σ[i]? = some (some v) ∧ SlotR F own ph H i v b d
  lenE : ρ.length = σ.length
  mu : MuOk F.sa ph H μ
  fr : ∀ a o, F.H0 a = some o → a ∉ F.ph0 → H a = some o
  old : ∀ a o, F.H0 a = some o → H a ≠ none
  phx : ∃ nw, ph = F.ph0 ++ nw ∧ ∀ a ∈ nw, F.H0 a = none
  onew : ∀ i p, own i = some p → F.H0 p = none
  ophi : ∀ i p, own i = some p → p ∉ ph
  oinj : ∀ i j p, own i = some p → own j = some p → i = j
  oreal : ∀ i p, own i = some p → ∃ vs, H p = some (.lst vs)
  bdom : ∀ a, F.B a → H a ≠ none
  bphi : ∀ a, F.B a → a ∉ ph
  onb : ∀ i p, own i = some p → ¬ F.B p
  scr : ScrR F.K F.S F.sa H
  held : ∀ p ∈ F.held, Rep F.sa ph (Av F own []) H p.1 p.2

/-- the heap has grown: all but the objects is as it was -/
structure Grow (ph : List Addr) (H : Hp) (ph' : List Addr) (H' : Hp) : Prop where
  keep : ∀ a o, H a = some o → a ∉ ph → H' a = some o
  ext : ∃ nw, ph' = ph ++ nw ∧ ∀ a ∈ nw, H a = none
  old : ∀ a o, H a = some o → ∃ o', H' a = some o'
theorem Grow.refl (ph : List Addr) (H : Hp) : Grow ph H ph H := ⟨fun _ _ h _ => h, ⟨[], by simp, by simp⟩, fun _ o h => ⟨o, h⟩⟩
theorem Grow.sub {ph ph' : List Addr} {H H' : Hp} (g : Grow ph H ph' H') {a : Addr} (h : a ∈ ph) : a ∈ ph' := by
  obtain ⟨nw, rfl, _⟩ := g.ext
  exact List.mem_append_left _ h
theorem Grow.notin {ph ph' : List Addr} {H H' : Hp} (g : Grow ph H ph' H') {a : Addr} {o : HO} (e : H a = some o) (h : a ∉ ph) : a ∉ ph' := by
  obtain ⟨nw, rfl, hn⟩ := g.ext
  intro q
  rcases List.mem_append.mp q with q | q
  · exact h q
  · rw [hn a q] at e; cases e
theorem Grow.idx {ph ph' : List Addr} {H H' : Hp} (g : Grow ph H ph' H') {n : Nat} {a : Addr} (e : ph[n]? = some a) : ph'[n]? = some a := by
  obtain ⟨nw, rfl, hn⟩ := g.ext
  rw [List.getElem?_append_left]
  · exact e
  · exact (List.getElem?_eq_some_iff.mp e).1
theorem Grow.trans {ph ph1 ph2 : List Addr} {H H1 H2 : Hp} (g : Grow ph H ph1 H1) (k : Grow ph1 H1 ph2 H2) : Grow ph H ph2 H2 := by
  refine ⟨fun a o e n => k.keep a o (g.keep a o e n) (g.notin e n), ?_, fun a o e => ?_⟩
  · obtain ⟨nw, e1, h1⟩ := g.ext
    obtain ⟨nw', e2, h2⟩ := k.ext
    refine ⟨nw ++ nw', by rw [e2, e1, List.append_assoc], fun a ha => ?_⟩
    rcases List.mem_append.mp ha with q | q
    · exact h1 a q
    · cases e : H a with
      | none => rfl
      | some o =>
        obtain ⟨o', e'⟩ := g.old a o e
        rw [h2 a q] at e'; cases e'
  · obtain ⟨o', e'⟩ := g.old a o e
    exact k.old a o' e'
theorem MuOk.lst {sa : Addr} {ph : List Addr} {H : Hp} {μ : Mu} (M : MuOk sa ph H μ) {a : Addr} (h : a ∈ ph) : ∃ vs, H a = some (.lst vs) := by
  obtain ⟨n, hn, e⟩ := List.mem_iff_getElem.mp h
  have hm : n < μ.length := by rw [← M.len]; exact hn
  have r := M.mo n a μ[n] (by rw [List.getElem?_eq_getElem hn, e]) (List.getElem?_eq_getElem hm)
  cases q : μ[n] with
  | lst ds => rw [q] at r; obtain ⟨vs, e, _⟩ := r; exact ⟨vs, e⟩
theorem MuOk.noT {sa : Addr} {ph : List Addr} {H : Hp} {μ : Mu} (M : MuOk sa ph H μ) : ∀ a ∈ ph, ∀ vs, H a ≠ some (.tup vs) := fun a h vs e => by
  obtain ⟨ws, e'⟩ := M.lst h
  rw [e] at e'; cases e'
theorem Grow.rep {sa : Addr} {A : Addr → Prop} {ph ph' : List Addr} {H H' : Hp} {μ : Mu} {v : V} {d : D} (g : Grow ph H ph' H') (M : MuOk sa ph H μ) (r : Rep sa ph A H v d) : Rep sa ph' A H' v d :=
  Rep.mono (fun a vs e => g.keep a _ e fun q => M.noT a q vs e) (fun a vs e n m => ⟨g.keep a _ e m, n, g.notin e m⟩) (fun _ _ e => g.idx e) d v r
theorem Grow.reps {sa : Addr} {A : Addr → Prop} {ph ph' : List Addr} {H H' : Hp} {μ : Mu} {v : List V} {d : List D} (g : Grow ph H ph' H') (M : MuOk sa ph H μ) (r : Reps sa ph A H v d) : Reps sa ph' A H' v d :=
  Reps.mono (fun a vs e => g.keep a _ e fun q => M.noT a q vs e) (fun a vs e n m => ⟨g.keep a _ e m, n, g.notin e m⟩) (fun _ _ e => g.idx e) d v r
/-- .. and one more address is to be kept clear of -/
theorem Grow.repsN {sa : Addr} {A A' : Addr → Prop} {ph ph' : List Addr} {H H' : Hp} {μ : Mu} {v : List V} {d : List D} (g : Grow ph H ph' H') (M : MuOk sa ph H μ) (hA : ∀ a, A' a → A a ∨ H a = none) (r : Reps sa ph A H v d) : Reps sa ph' A' H' v d :=
  Reps.mono (fun a vs e => g.keep a _ e fun q => M.noT a q vs e) (fun a vs e n m => ⟨g.keep a _ e m, (fun z => (hA a z).elim n fun q => by rw [q] at e; cases e), g.notin e m⟩) (fun _ _ e => g.idx e) d v r
theorem Grow.repN {sa : Addr} {A A' : Addr → Prop} {ph ph' : List Addr} {H H' : Hp} {μ : Mu} {v : V} {d : D} (g : Grow ph H ph' H') (M : MuOk sa ph H μ) (hA : ∀ a, A' a → A a ∨ H a = none) (r : Rep sa ph A H v d) : Rep sa ph' A' H' v d :=
  Rep.mono (fun a vs e => g.keep a _ e fun q => M.noT a q vs e) (fun a vs e n m => ⟨g.keep a _ e m, (fun z => (hA a z).elim n fun q => by rw [q] at e; cases e), g.notin e m⟩) (fun _ _ e => g.idx e) d v r
theorem Grow.new {ph : List Addr} {H : Hp} {p : Addr} {o : HO} (h : H p = none) : Grow ph H ph (upd H p o) :=
  ⟨fun a u e _ => by rw [upd_ne (ne_of_none e h)]; exact e, ⟨[], by simp, by simp⟩, fun a u e => ⟨u, by rw [upd_ne (ne_of_none e h)]; exact e⟩⟩
theorem ScrR.grow {K : PySem.W.Frag} {S : List Int} {sa : Addr} {ph ph' : List Addr} {H H' : Hp} {μ : Mu} (s : ScrR K S sa H) (g : Grow ph H ph' H') (M : MuOk sa ph H μ) : ScrR K S sa H' := by
  rcases s with ⟨ob, e⟩ | s
  · refine .inl ⟨ob, g.keep _ _ e fun q => ?_⟩
    obtain ⟨vs, e'⟩ := M.lst q
    rw [e] at e'; cases e'
  · exact .inr s
theorem ScrR.sq {K : PySem.W.Frag} {S : List Int} {sa : Addr} {H : Hp} (s : ScrR K S sa H) : SqL K H sa (S.map V.int) := by
  rcases s with ⟨ob, e⟩ | s
  · exact .inl (.inr ⟨ob, e⟩)
  · exact s H
section
variable {F : Fx} {own : Nat → Option Addr} {ph ph' : List Addr} {ρ : Env} {μ μ' : Mu} {σ : L2.St} {H H' : Hp}
theorem Stt.dom (I : Stt F own ph ρ μ σ H) {L : List Nat} {a : Addr} (h : Av F own L a) : H a ≠ none := by
  rcases h with h | ⟨i, h, _⟩
  · exact I.bdom a h
  · obtain ⟨vs, e⟩ := I.oreal i a h
    rw [e]; exact fun z => by cases z
theorem Stt.avphi (I : Stt F own ph ρ μ σ H) {L : List Nat} {a : Addr} (h : Av F own L a) : a ∉ ph := by
  rcases h with h | ⟨i, h, _⟩
  · exact I.bphi a h
  · exact I.ophi i a h
/-- behind a step that grows the heap -/
theorem Stt.grow (I : Stt F own ph ρ μ σ H) (g : Grow ph H ph' H') (M : MuOk F.sa ph' H' μ') : Stt F own ph' ρ μ' σ H' := by
  refine ⟨fun i b d e => ?_, I.lenE, M, fun a o e n => ?_, fun a o e => ?_, ?_, I.onew, fun i p e => ?_, I.oinj, fun i p e => ?_, fun a ha => ?_, fun a ha => ?_, I.onb, I.scr.grow g I.mu, fun p hp => g.rep I.mu (I.held p hp)⟩
  · obtain ⟨v, e1, r⟩ := I.slots i b d e
    refine ⟨v, e1, ?_⟩
    cases b with
    | false => exact g.rep I.mu r
    | true =>
      obtain ⟨q, vs, ds, h1, h2, h3, h4, h5⟩ := r
      exact ⟨q, vs, ds, h1, h2, h3, g.keep _ _ h4 (I.ophi i q h3), g.reps I.mu h5⟩
  · refine g.keep a o (I.fr a o e n) fun q => ?_
    obtain ⟨nw, e2, hn⟩ := I.phx
    rw [e2] at q
    rcases List.mem_append.mp q with q | q
    · exact n q
    · rw [hn a q] at e; cases e
  · cases q : H a with
    | none => exact absurd q (I.old a o e)
    | some u =>
      obtain ⟨u', e'⟩ := g.old a u q
      rw [e']; exact fun z => by cases z
  · obtain ⟨nw, e1, h1⟩ := I.phx
    obtain ⟨nw', e2, h2⟩ := g.ext
    refine ⟨nw ++ nw', by rw [e2, e1, List.append_assoc], fun a ha => ?_⟩
    rcases List.mem_append.mp ha with q | q
    · exact h1 a q
    · cases e : F.H0 a with
      | none => rfl
      | some o => exact absurd (h2 a q) (I.old a o e)
  · obtain ⟨vs, e1⟩ := I.oreal i p e
    exact g.notin e1 (I.ophi i p e)
  · obtain ⟨vs, e1⟩ := I.oreal i p e
    exact ⟨vs, g.keep _ _ e1 (I.ophi i p e)⟩
  · cases q : H a with
    | none => exact absurd q (I.bdom a ha)
    | some u =>
      obtain ⟨u', e'⟩ := g.old a u q
      rw [e']; exact fun z => by cases z
  · cases q : H a with
    | none => exact absurd q (I.bdom a ha)
    | some u => exact g.notin q (I.bphi a ha)
theorem MuOk.grow0 {sa : Addr} (M : MuOk sa ph H μ) {p : Addr} {o : HO} (h : H p = none) : MuOk sa ph (upd H p o) μ := by
  refine ⟨M.len, M.nd, fun n a mo e1 e2 => ?_⟩
  have r := M.mo n a mo e1 e2
  cases mo with
  | lst ds =>
    obtain ⟨vs, e, r⟩ := r
    exact ⟨vs, by rw [upd_ne (ne_of_none e h)]; exact e, (Grow.new h).reps M r⟩
/-- a new thing is laid: all stands -/
theorem Stt.laid {p : Addr} {o : HO} (I : Stt F own ph ρ μ σ H) (h : H p = none) : Stt F own ph ρ μ σ (upd H p o) := I.grow (Grow.new h) (I.mu.grow0 h)
/-- slots forgotten or put by data -/
theorem Stt.slot {ρ' : Env} {σ' : L2.St} (I : Stt F own ph ρ μ σ H) (hl : ρ'.length = σ'.length) (h : ∀ (i : Nat) (b : Bool) (d : D), ρ'[i]? = some (some (b, d)) → ∃ v, σ'[i]? = some (some v) ∧ SlotR F own ph H i v b d) : Stt F own ph ρ' μ σ' H :=
  ⟨h, hl, I.mu, I.fr, I.old, I.phx, I.onew, I.ophi, I.oinj, I.oreal, I.bdom, I.bphi, I.onb, I.scr, I.held⟩
theorem wipeE_len (ρ : Env) : ∀ vs : List Nat, (wipeE ρ vs).length = ρ.length
  | [] => rfl
  | v :: vs => by unfold wipeE; rw [List.length_set, wipeE_len ρ vs]
theorem wipeE_some {ρ : Env} {i : Nat} {x : Bool × D} : ∀ {vs : List Nat}, (wipeE ρ vs)[i]? = some (some x) → ρ[i]? = some (some x) ∧ i ∉ vs
  | [], h => ⟨h, by simp⟩
  | v :: vs, h => by
    unfold wipeE at h
    by_cases hi : v = i
    · subst hi
      by_cases hv : v < (wipeE ρ vs).length
      · rw [List.getElem?_set_self hv] at h; cases h
      · rw [List.getElem?_set, if_pos rfl, if_neg hv] at h; cases h
    · rw [List.getElem?_set_ne hi] at h
      obtain ⟨h1, h2⟩ := wipeE_some h
      exact ⟨h1, by simp only [List.mem_cons, not_or]; exact ⟨fun e => hi e.symm, h2⟩⟩
theorem Stt.wipe (I : Stt F own ph ρ μ σ H) (vs : List Nat) : Stt F own ph (wipeE ρ vs) μ (L2.wipe σ vs) H := by
  refine I.slot (by rw [wipeE_len, wipe_length]; exact I.lenE) fun i b d e => ?_
  obtain ⟨e1, e2⟩ := wipeE_some e
  obtain ⟨v, h1, h2⟩ := I.slots i b d e1
  exact ⟨v, by rw [wipe_out e2]; exact h1, h2⟩
theorem Stt.put (I : Stt F own ph ρ μ σ H) {i : Nat} {v : V} {d : D} (r : Rep F.sa ph (Av F own []) H v d) : Stt F own ph (put ρ i d) μ (σ.set i (some v)) H := by
  refine I.slot (by unfold Ev.put; rw [List.length_set, List.length_set]; exact I.lenE) fun j b e h => ?_
  unfold Ev.put at h
  by_cases hj : i = j
  · subst hj
    by_cases hl : i < ρ.length
    · rw [List.getElem?_set_self hl] at h
      cases h
      exact ⟨v, List.getElem?_set_self (by rw [← I.lenE]; exact hl), r⟩
    · rw [List.getElem?_set, if_pos rfl, if_neg hl] at h; cases h
  · rw [List.getElem?_set_ne hj] at h
    obtain ⟨w, h1, h2⟩ := I.slots j b e h
    exact ⟨w, by rw [List.getElem?_set_ne hj]; exact h1, h2⟩
theorem thaw_len : ∀ (L : List Nat) (ρ : Env), (thaw ρ L).length = ρ.length
  | [], _ => rfl
  | i :: is, ρ => by
    unfold thaw
    rw [thaw_len is]
    split
    · rw [List.length_set]
    · rfl
/-- a thawed slot has its data -/
theorem thaw_some : ∀ {L : List Nat} {ρ : Env} {i : Nat} {b : Bool} {d : D}, (thaw ρ L)[i]? = some (some (b, d)) → ∃ b', ρ[i]? = some (some (b', d)) ∧ (b = true → b' = true ∧ i ∉ L) ∧ (b = false → b' = false ∨ i ∈ L)
  | [], ρ, i, b, d, h => ⟨b, h, fun e => ⟨e, by simp⟩, fun e => .inl e⟩
  | j :: js, ρ, i, b, d, h => by
    unfold thaw at h
    obtain ⟨b', e1, e2, e3⟩ := thaw_some h
    split at e1
    · rename_i b0 d0 hq
      by_cases hj : j = i
      · subst hj
        rw [List.getElem?_set_self (List.getElem?_eq_some_iff.mp hq).1] at e1
        cases e1
        refine ⟨b0, hq, fun e => ?_, fun _ => .inr (by simp)⟩
        have := (e2 e).1
        cases this
      · rw [List.getElem?_set_ne hj] at e1
        exact ⟨b', e1, fun e => ⟨(e2 e).1, by simp only [List.mem_cons, not_or]; exact ⟨fun z => hj z.symm, (e2 e).2⟩⟩, fun e => (e3 e).imp id fun z => List.mem_cons_of_mem _ z⟩
    · rename_i hq
      refine ⟨b', e1, fun e => ⟨(e2 e).1, ?_⟩, fun e => (e3 e).imp id fun z => List.mem_cons_of_mem _ z⟩
      simp only [List.mem_cons, not_or]
      refine ⟨fun z => ?_, (e2 e).2⟩
      subst z
      exact hq b' d e1
def owns (own : Nat → Option Addr) (L : List Nat) : Nat → Option Addr := fun i => if i ∈ L then none else own i
theorem av_owns {L : List Nat} {a : Addr} : Av F (owns own L) [] a ↔ Av F own L a := by
  unfold Av owns
  refine or_congr Iff.rfl ⟨fun ⟨i, h, _⟩ => ?_, fun ⟨i, h, n⟩ => ⟨i, by rw [if_neg n]; exact h, by simp⟩⟩
  by_cases hi : i ∈ L
  · rw [if_pos hi] at h; cases h
  · rw [if_neg hi] at h; exact ⟨i, h, hi⟩
theorem av_mono {L : List Nat} {a : Addr} (h : Av F own L a) : Av F own [] a := by
  rcases h with h | ⟨i, h, _⟩
  · exact .inl h
  · exact .inr ⟨i, h, by simp⟩
theorem av_sub {L L' : List Nat} (hs : ∀ i ∈ L, i ∈ L') {a : Addr} (h : Av F own L' a) : Av F own L a := by
  rcases h with h | ⟨i, h, n⟩
  · exact .inl h
  · exact .inr ⟨i, h, fun q => n (hs i q)⟩
theorem owns_some {L : List Nat} {i : Nat} {p : Addr} (h : owns own L i = some p) : own i = some p ∧ i ∉ L := by
  unfold owns at h
  by_cases hi : i ∈ L
  · rw [if_pos hi] at h; cases h
  · rw [if_neg hi] at h; exact ⟨h, hi⟩
theorem Stt.thaw (I : Stt F own ph ρ μ σ H) (L : List Nat) : Stt F (owns own L) ph (thaw ρ L) μ σ H := by
  refine ⟨fun i b d h => ?_, by rw [thaw_len]; exact I.lenE, I.mu, I.fr, I.old, I.phx, fun i p e => I.onew i p (owns_some e).1, fun i p e => I.ophi i p (owns_some e).1, fun i j p e1 e2 => I.oinj i j p (owns_some e1).1 (owns_some e2).1, fun i p e => I.oreal i p (owns_some e).1, I.bdom, I.bphi, fun i p e => I.onb i p (owns_some e).1, I.scr, fun p hp => (I.held p hp).weaken fun a z => av_mono (av_owns.mp z)⟩
  obtain ⟨b', e1, e2, e3⟩ := thaw_some h
  obtain ⟨v, h1, h2⟩ := I.slots i b' d e1
  refine ⟨v, h1, ?_⟩
  cases b with
  | true =>
    obtain ⟨rfl, hi⟩ := e2 rfl
    obtain ⟨p, vs, ds, q1, q2, q3, q4, q5⟩ := h2
    exact ⟨p, vs, ds, q1, q2, by unfold owns; rw [if_neg hi]; exact q3, q4, q5.weaken fun a z => av_mono (av_owns.mp z)⟩
  | false =>
    cases b' with
    | false => exact Rep.weaken (fun a z => av_mono (av_owns.mp z)) h2
    | true =>
      obtain ⟨p, vs, ds, rfl, rfl, q3, q4, q5⟩ := h2
      have hi : i ∈ L := (e3 rfl).elim (fun z => by cases z) id
      refine .lst q4 (fun z => ?_) (I.ophi i p q3) (q5.weaken fun a z => av_mono (av_owns.mp z))
      rcases av_owns.mp z with z | ⟨j, z, nj⟩
      · exact I.onb i p q3 z
      · exact nj (I.oinj i j p q3 z ▸ hi)
/-- a new list becomes a slot's own -/
theorem Stt.ownNew (I0 : Stt F own ph ρ μ σ H) (I : Stt F own ph' ρ μ' σ H') (g : Grow ph H ph' H') {i : Nat} {p : Addr} {vs : List V} {ds : List D} (hp : H p = none) (hH : H' p = some (.lst vs)) (hn : p ∉ ph')
    (r : Reps F.sa ph' (fun a => Av F own [] a ∨ a = p) H' vs ds) : Stt F (fun j => if j = i then some p else own j) ph' (ρ.set i (some (true, .lst ds))) μ' (σ.set i (some (.ref p))) H' := by
  have look : ∀ {j a}, (if j = i then some p else own j) = some a → (j = i ∧ a = p) ∨ (j ≠ i ∧ own j = some a) := fun {j a} z => by
    by_cases hj : j = i
    · rw [if_pos hj] at z; cases z; exact .inl ⟨hj, rfl⟩
    · rw [if_neg hj] at z; exact .inr ⟨hj, z⟩
  have nav' : ∀ a, Av F (fun j => if j = i then some p else own j) [] a → Av F own [] a ∨ a = p := fun a z => by
    rcases z with z | ⟨j, z, _⟩
    · exact .inl (.inl z)
    · rcases look z with ⟨_, q⟩ | ⟨_, q⟩
      · exact .inr q
      · exact .inl (.inr ⟨j, q, by simp⟩)
  have nav : ∀ a, Av F (fun j => if j = i then some p else own j) [] a → Av F own [] a ∨ H a = none := fun a z => (nav' a z).imp id fun q => by rw [q]; exact hp
  have pown : ∀ j, own j ≠ some p := fun j e => by
    obtain ⟨ws, e'⟩ := I0.oreal j p e
    rw [hp] at e'; cases e'
  refine ⟨fun j b d h => ?_, by rw [List.length_set, List.length_set]; exact I.lenE, I.mu, I.fr, I.old, I.phx, fun j q e => ?_, fun j q e => ?_, fun j k q e1 e2 => ?_, fun j q e => ?_, I.bdom, I.bphi, fun j q e => ?_, I.scr, fun q hq => g.repN I0.mu nav (I0.held q hq)⟩
  · by_cases hj : i = j
    · subst hj
      by_cases hl : i < ρ.length
      · rw [List.getElem?_set_self hl] at h
        cases h
        exact ⟨.ref p, List.getElem?_set_self (by rw [← I.lenE]; exact hl), p, vs, ds, rfl, rfl, if_pos rfl, hH, r.weaken nav'⟩
      · rw [List.getElem?_set, if_pos rfl, if_neg hl] at h; cases h
    · rw [List.getElem?_set_ne hj] at h
      obtain ⟨w, h1, h2⟩ := I0.slots j b d h
      refine ⟨w, by rw [List.getElem?_set_ne hj]; exact h1, ?_⟩
      cases b with
      | false => exact g.repN I0.mu nav h2
      | true =>
        obtain ⟨q, ws, es, q1, q2, q3, q4, q5⟩ := h2
        exact ⟨q, ws, es, q1, q2, by show (if j = i then some p else own j) = some q; rw [if_neg (Ne.symm hj)]; exact q3, g.keep _ _ q4 (I0.ophi j q q3), g.repsN I0.mu nav q5⟩
  · rcases look e with ⟨_, rfl⟩ | ⟨_, q'⟩
    · cases e0 : F.H0 q with
      | none => rfl
      | some o => exact absurd hp (I0.old q o e0)
    · exact I.onew j q q'
  · rcases look e with ⟨_, rfl⟩ | ⟨_, q'⟩
    · exact hn
    · exact I.ophi j q q'
  · rcases look e1 with ⟨a1, rfl⟩ | ⟨a1, q1⟩ <;> rcases look e2 with ⟨a2, a3⟩ | ⟨a2, q2⟩
    · rw [a1, a2]
    · exact absurd q2 (pown k)
    · subst a3; exact absurd q1 (pown j)
    · exact I.oinj j k q q1 q2
  · rcases look e with ⟨_, rfl⟩ | ⟨_, q'⟩
    · exact ⟨vs, hH⟩
    · exact I.oreal j q q'
  · rcases look e with ⟨_, rfl⟩ | ⟨_, q'⟩
    · exact fun z => I0.bdom q z hp
    · exact I.onb j q q'
/-- what an expression's value is: data, and where the expression makes a new list, that list -/
structure Val (F : Fx) (own : Nat → Option Addr) (L : List Nat) (nw : Bool) (H : Hp) (ph' : List Addr) (H' : Hp) (v : V) (d : D) : Prop where
  rep : Rep F.sa ph' (Av F own L) H' v d
  new : nw = true → ∀ ds, d = .lst ds → ∃ p vs, v = .ref p ∧ H p = none ∧ H' p = some (.lst vs) ∧ p ∉ ph' ∧ Reps F.sa ph' (fun a => Av F own L a ∨ a = p) H' vs ds
/-- name = e -/
theorem Stt.bind (I0 : Stt F own ph ρ μ σ H) (I : Stt F own ph' ρ μ' σ H') (g : Grow ph H ph' H') {e : IE} {i : Nat} {v : V} {d : D} (V0 : Val F own (lk e) (newL e) H ph' H' v d) :
    ∃ own', Stt F own' ph' (bindTo ρ i e d) μ' (σ.set i (some v)) H' := by
  have J0 := I0.thaw (lost e d)
  have J := I.thaw (lost e d)
  unfold bindTo
  by_cases hN : (newL e && d.isL) = true
  · rw [hN]
    rw [Bool.and_eq_true] at hN
    cases d with
    | lst ds =>
      obtain ⟨p, vs, rfl, hp, hH, hn, r⟩ := V0.new hN.1 ds rfl
      refine ⟨_, J0.ownNew J g hp hH hn ?_⟩
      by_cases hf : (D.lst ds).flat = true
      · exact Reps.scal hf r
      · have e1 : lost e (.lst ds) = lk e := by
          unfold lost
          rw [if_neg]
          intro z
          simp only [D.sc, Bool.false_or, Bool.and_eq_true] at z
          exact hf z.2
        rw [e1]
        exact r.weaken fun a z => z.imp (fun q => av_owns.mp q) id
    | _ => cases hN.2
  · have hN' : (newL e && d.isL) = false := by simpa using hN
    rw [hN']
    refine ⟨_, J.put ?_⟩
    unfold lost
    by_cases hs : (d.sc || newL e && d.flat) = true
    · rw [if_pos hs]
      rcases Bool.or_eq_true_iff.mp hs with q | q
      · exact V0.rep.scal q
      · rw [Bool.and_eq_true] at q
        cases d with
        | lst ds => rw [q.1] at hN'; cases hN'
        | tup ds => simp [D.flat, D.sc] at q
        | scr => simp [D.flat, D.sc] at q
        | mref n => simp [D.flat, D.sc] at q
        | non => exact V0.rep.scal rfl
        | bl b => exact V0.rep.scal rfl
        | int b => exact V0.rep.scal rfl
        | str b => exact V0.rep.scal rfl
    · rw [if_neg hs]
      exact V0.rep.weaken fun a z => av_owns.mp z
end
end Ev

set_option Elab.async false
set_option linter.all false
set_option maxRecDepth 100000
set_option maxHeartbeats 4000000
namespace Ev
open PySem L2

/-! ### data as PyData -/
mutual
def toPy : D → PyData
  | .non => .none
  | .bl b => .bool b
  | .int i => .int i
  | .str s => .str s
  | .tup ds => .tuple (toPys ds)
  | .lst ds => .list (toPys ds)
  | .scr => .none
  | .mref _ => .none
def toPys : List D → List PyData
  | [] => []
  | d :: ds => toPy d :: toPys ds
end
theorem sh_str {n : Nat} {x : Str} : sh n (.str x) = PyData.strOk x := by cases n <;> rfl
mutual
theorem sh_can : ∀ (d : D) (n : Nat), sh n d = true → (toPy d).canLay0 = true ∧ (toPy d).depth ≤ n
  | .non, n, h => ⟨rfl, by simp [toPy, PyData.depth]⟩
  | .bl _, n, h => ⟨rfl, by simp [toPy, PyData.depth]⟩
  | .int _, n, h => ⟨rfl, by simp [toPy, PyData.depth]⟩
  | .str x, n, h => ⟨by rw [sh_str] at h; exact h, by simp [toPy, PyData.depth]⟩
  | .tup ds, n, h => by
    cases n with
    | zero => cases h
    | succ n =>
      obtain ⟨h1, h2⟩ := shs_can ds n h
      exact ⟨by simpa [toPy, PyData.canLay0] using h1, by simp only [toPy, PyData.depth]; omega⟩
  | .lst ds, n, h => by
    cases n with
    | zero => cases h
    | succ n =>
      obtain ⟨h1, h2⟩ := shs_can ds n h
      exact ⟨by simpa [toPy, PyData.canLay0] using h1, by simp only [toPy, PyData.depth]; omega⟩
  | .scr, n, h => by cases n <;> cases h
  | .mref _, n, h => by cases n <;> cases h
theorem shs_can : ∀ (ds : List D) (n : Nat), ds.all (sh n) = true → PyData.canLayAll0 (toPys ds) = true ∧ PyData.depthAll (toPys ds) ≤ n
  | [], n, _ => ⟨rfl, by simp [toPys, PyData.depthAll]⟩
  | d :: ds, n, h => by
    rw [List.all_cons, Bool.and_eq_true] at h
    obtain ⟨h1, h2⟩ := sh_can d n h.1
    obtain ⟨h3, h4⟩ := shs_can ds n h.2
    exact ⟨by simp [toPys, PyData.canLayAll0, h1, h3], by simp only [toPys, PyData.depthAll]; omega⟩
end
theorem sh_shaped {d : D} (h : sh 8 d = true) : SeqAt.shaped (toPy d) = true := by
  obtain ⟨h1, h2⟩ := sh_can d 8 h
  unfold SeqAt.shaped
  rw [h1, Bool.true_and]
  exact decide_eq_true (by omega)
mutual
theorem deq_eqv : ∀ (a b : D) (n m : Nat), sh n a = true → sh m b = true → PyData.eqv (toPy a) (toPy b) = deq a b
  | .non, b, n, m, h, k => by cases b <;> first | rfl | (cases m <;> cases k)
  | .bl _, b, n, m, h, k => by cases b <;> first | rfl | (cases m <;> cases k)
  | .int _, b, n, m, h, k => by cases b <;> first | rfl | (cases m <;> cases k)
  | .str _, b, n, m, h, k => by cases b <;> first | rfl | (cases m <;> cases k)
  | .scr, b, n, m, h, k => by cases n <;> cases h
  | .mref _, b, n, m, h, k => by cases n <;> cases h
  | .tup xs, b, n, m, h, k => by
    cases n with
    | zero => cases h
    | succ n =>
      cases b with
      | tup ys =>
        cases m with
        | zero => cases k
        | succ m => simp only [toPy, PyData.eqv, deq]; exact deqs_eqv xs ys n m h k
      | _ => first | rfl | (cases m <;> cases k)
  | .lst xs, b, n, m, h, k => by
    cases n with
    | zero => cases h
    | succ n =>
      cases b with
      | lst ys =>
        cases m with
        | zero => cases k
        | succ m => simp only [toPy, PyData.eqv, deq]; exact deqs_eqv xs ys n m h k
      | _ => first | rfl | (cases m <;> cases k)
theorem deqs_eqv : ∀ (a b : List D) (n m : Nat), a.all (sh n) = true → b.all (sh m) = true → PyData.eqvAll (toPys a) (toPys b) = deqs a b
  | [], b, n, m, h, k => by cases b <;> rfl
  | x :: xs, b, n, m, h, k => by
    cases b with
    | nil => rfl
    | cons y ys =>
      rw [List.all_cons, Bool.and_eq_true] at h k
      simp only [toPys, PyData.eqvAll, deqs]
      rw [deq_eqv x y n m h.1 k.1, deqs_eqv xs ys n m h.2 k.2]
end
section
variable {K : PySem.W.Frag} {sa : Addr} {ph : List Addr} {A : Addr → Prop} {H : Hp}
mutual
theorem Rep.dp : ∀ (d : D) (v : V) (n : Nat), sh n d = true → Rep sa ph A H v d → Dp K H v (toPy d)
  | .non, _, n, h, r => by cases r; exact .non
  | .bl b, _, n, h, r => by cases r; exact .bl b
  | .int b, _, n, h, r => by cases r; exact .int b
  | .str b, _, n, h, r => by cases r; exact .str b
  | .scr, _, n, h, r => by cases n <;> cases h
  | .mref _, _, n, h, r => by cases n <;> cases h
  | .tup ds, _, n, h, r => by
    cases n with
    | zero => cases h
    | succ n =>
      cases r with
      | tup e q => exact .tup (SqT.of e) (Reps.dp ds _ n h q)
  | .lst ds, _, n, h, r => by
    cases n with
    | zero => cases h
    | succ n =>
      cases r with
      | lst e _ _ q => exact .lst (SqL.of e) (Reps.dp ds _ n h q)
theorem Reps.dp : ∀ (ds : List D) (vs : List V) (n : Nat), ds.all (sh n) = true → Reps sa ph A H vs ds → DpAll K H vs (toPys ds)
  | [], _, _, _, r => by cases r; exact .nil
  | d :: ds, _, n, h, r => by
    rw [List.all_cons, Bool.and_eq_true] at h
    cases r with
    | cons a b => exact .cons (Rep.dp d _ n h.1 a) (Reps.dp ds _ n h.2 b)
end
end

/-! ### readings -/
abbrev Calls := List Int → Nat → List D → M D
def tE (K : PySem.W.Frag) (cl : Calls) (ie : IE) : TE := fun σ H Q => ∃ F own ph ρ μ d μ', F.K = K ∧ Stt F own ph ρ μ σ H ∧ evE F.S (cl F.S) ie ρ μ = .ok d μ' ∧
  ∀ ph' v H', Stt F own ph' ρ μ' σ H' → Grow ph H ph' H' → Val F own (lk ie) (newL ie) H ph' H' v d → Q v H'
def tT (K : PySem.W.Frag) (cl : Calls) (ie : IE) : TT := fun σ H Q => ∃ F own ph ρ μ b μ', F.K = K ∧ Stt F own ph ρ μ σ H ∧ evE F.S (cl F.S) ie ρ μ = .ok (.bl b) μ' ∧
  ∀ ph' H', Stt F own ph' ρ μ' σ H' → Grow ph H ph' H' → Q b H'
def tEs (K : PySem.W.Frag) (cl : Calls) (ies : IEs) : TA := fun σ H Q => ∃ F own ph ρ μ ds μ', F.K = K ∧ Stt F own ph ρ μ σ H ∧ evEs F.S (cl F.S) ies ρ μ = .ok ds μ' ∧
  ∀ ph' vs H', Stt F own ph' ρ μ' σ H' → Grow ph H ph' H' → Reps F.sa ph' (Av F own (lks ies)) H' vs ds → Q vs H'

theorem _root_.L2.PE.imp {X : Cx} {e : Expr} {t t' : TE} (h : PE X e t) (hm : ∀ σ H Q, t' σ H Q → t σ H Q) : PE X e t' := ⟨fun pins s σ H Q I q => h.run pins s σ H Q I (hm σ H Q q)⟩
theorem _root_.L2.PT.imp {X : Cx} {e : Expr} {t t' : TT} (h : PT X e t) (hm : ∀ σ H Q, t' σ H Q → t σ H Q) : PT X e t' := ⟨fun pins s σ H Q I q => h.run pins s σ H Q I (hm σ H Q q)⟩
theorem _root_.L2.PA.imp {X : Cx} {e : List Expr} {t t' : TA} (h : PA X e t) (hm : ∀ σ H Q, t' σ H Q → t σ H Q) : PA X e t' := ⟨fun pos pins s σ H Q I q => h.run pos pins s σ H Q I (hm σ H Q q)⟩
theorem _root_.L2.PW.imp {X : Cx} {e : Expr} {t t' : TT} (h : PW X e t) (hm : ∀ σ H Q, t' σ H Q → t σ H Q) : PW X e t' := ⟨fun w pins s σ H Q I q => h.run w pins s σ H Q I (hm σ H Q q)⟩
theorem _root_.L2.PS.imp {X : Cx} {e : Stmt} {t t' : TS} (h : PS X e t) (hm : ∀ D σ H, t' D σ H → t D σ H) : PS X e t' := ⟨fun pins s σ H D I q => h.run pins s σ H D I (hm D σ H q)⟩
theorem _root_.L2.PSs.imp {X : Cx} {e : List Stmt} {t t' : TS} (h : PSs X e t) (hm : ∀ D σ H, t' D σ H → t D σ H) : PSs X e t' := ⟨fun pins s σ H D I q => h.run pins s σ H D I (hm D σ H q)⟩

section
variable {K : PySem.W.Frag} {cl : Calls} {F : Fx} {own : Nat → Option Addr} {ph ph2 : List Addr} {ρ : Env} {μ μ1 μ2 : Mu} {σ : L2.St} {H H2 : Hp} {ia ib ic : IE} {x y z : D} {L : List Nat} {nw : Bool}
theorem one {Q2 : VK} (hK : F.K = K) (I : Stt F own ph ρ μ σ H) (h1 : evE F.S (cl F.S) ia ρ μ = .ok x μ1)
    (k : ∀ ph2 vx H2, Stt F own ph2 ρ μ1 σ H2 → Grow ph H ph2 H2 → Rep F.sa ph2 (Av F own (lk ia)) H2 vx x → Q2 vx H2) : tE K cl ia σ H Q2 :=
  ⟨F, own, ph, ρ, μ, x, μ1, hK, I, h1, fun ph1 vx H1 I1 g1 v1 => k ph1 vx H1 I1 g1 v1.rep⟩
theorem two {Q2 : V → V → Hp → Prop} (hK : F.K = K) (I : Stt F own ph ρ μ σ H) (h1 : evE F.S (cl F.S) ia ρ μ = .ok x μ1) (h2 : evE F.S (cl F.S) ib ρ μ1 = .ok y μ2)
    (k : ∀ ph2 vx vy H2, Stt F own ph2 ρ μ2 σ H2 → Grow ph H ph2 H2 → Rep F.sa ph2 (Av F own (lk ia)) H2 vx x → Rep F.sa ph2 (Av F own (lk ib)) H2 vy y → Q2 vx vy H2) :
    tE K cl ia σ H fun vx H1 => tE K cl ib σ H1 fun vy H2 => Q2 vx vy H2 :=
  one hK I h1 fun ph1 vx H1 I1 g1 v1 => one hK I1 h2 fun ph2 vy H2 I2 g2 v2 => k ph2 vx vy H2 I2 (g1.trans g2) (g2.rep I1.mu v1) v2
/-- a value that is no list -/
theorem val0 {ph' : List Addr} {H' : Hp} {v : V} {d : D} (r : Rep F.sa ph' (Av F own L) H' v d) (h : d.isL = false) : Val F own L nw H ph' H' v d := ⟨r, fun _ ds e => by rw [e] at h; cases h⟩
theorem Stt.notPhi (I : Stt F own ph ρ μ σ H) {p : Addr} (h : H p = none) : p ∉ ph := fun q => by
  obtain ⟨vs, e⟩ := I.mu.lst q
  rw [h] at e; cases e
theorem Stt.notAv (I : Stt F own ph ρ μ σ H) {p : Addr} (h : H p = none) : ¬ Av F own L p := fun q => I.dom q h
/-- the end with a new list, a new tuple -/
theorem Grow.none {ph' : List Addr} {H' : Hp} (g : Grow ph H ph' H') {p : Addr} (h : H' p = none) : H p = none := by
  cases e : H p with
  | none => rfl
  | some o => obtain ⟨o', e'⟩ := g.old p o e; rw [h] at e'; cases e'
theorem newLst {Q : VK} {vs : List V} {ds : List D} {p : Addr} (I : Stt F own ph2 ρ μ2 σ H2) (g : Grow ph H ph2 H2) (hp : H2 p = none) (r : Reps F.sa ph2 (Av F own L) H2 vs ds)
    (hQ : ∀ ph' v H', Stt F own ph' ρ μ2 σ H' → Grow ph H ph' H' → Val F own L nw H ph' H' v (.lst ds) → Q v H') : Q (.ref p) (upd H2 p (.lst vs)) := by
  have g2 : Grow ph2 H2 ph2 (upd H2 p (.lst vs)) := Grow.new hp
  refine hQ ph2 _ _ (I.laid hp) (g.trans g2) ⟨.lst upd_same (I.notAv hp) (I.notPhi hp) (g2.reps I.mu r), fun _ es e => ?_⟩
  cases e
  refine ⟨p, vs, rfl, g.none hp, upd_same, I.notPhi hp, g2.repsN I.mu (fun a z => z.imp id fun q => ?_) r⟩
  rw [q]; exact hp
theorem newTup {Q : VK} {vs : List V} {ds : List D} {p : Addr} (I : Stt F own ph2 ρ μ2 σ H2) (g : Grow ph H ph2 H2) (hp : H2 p = none) (r : Reps F.sa ph2 (Av F own L) H2 vs ds)
    (hQ : ∀ ph' v H', Stt F own ph' ρ μ2 σ H' → Grow ph H ph' H' → Val F own L nw H ph' H' v (.tup ds) → Q v H') : Q (.ref p) (upd H2 p (.tup vs)) := by
  have g2 : Grow ph2 H2 ph2 (upd H2 p (.tup vs)) := Grow.new hp
  exact hQ ph2 _ _ (I.laid hp) (g.trans g2) (val0 (.tup upd_same (g2.reps I.mu r)) rfl)
theorem lkL : ∀ a, Av F own (lk ia ++ L) a → Av F own (lk ia) a := fun a h => av_sub (fun i hi => List.mem_append_left _ hi) h
theorem lkR {L' : List Nat} : ∀ a, Av F own (L' ++ L) a → Av F own L a := fun a h => av_sub (fun i hi => List.mem_append_right _ hi) h
end

/-! ### an expression and its language term -/
/-- neither starred nor a slice, nor what the model treats by itself -/
def plainX : Expr → Bool
  | .Starred _ _ => false
  | .Slice _ _ _ _ => false
  | .Set _ _ _ => false
  | .SetComp _ _ _ _ => false
  | .DictComp _ _ _ _ _ => false
  | _ => true
theorem plain_star {X : Cx} {e : Expr} {es : List Expr} (h : plainX e = true) : starEach (e :: es) X.env = (false, eval e X.env) :: starEach es X.env := by
  cases e <;> first | rfl | (cases h; done)
theorem plain_ix {e : Expr} (h : plainX e = true) : PlainIx e := by
  intro o i
  cases e <;> first | rfl | (cases h; done)
theorem plain_fold {X : Cx} {e : Expr} (h : plainX e = true) : ∀ x, foldedSetIterable e X.env x = pure x := by
  intro x
  cases e <;> first | rfl | (cases h; done)
theorem plain_aug {e : Expr} (h : plainX e = true) : ∀ ov iv new, augStore e ov iv new = (do holding [new, ov, iv] (setItem ov iv new); release [new, ov, iv] []; pure .next) := by
  intro ov iv new
  cases e <;> first | rfl | (cases h; done)
theorem plain_marks {op : CmpOp} {e : Expr} (h : plainX e = true) : behindInMarks op e = false := by
  cases e <;> first | rfl | (cases h; done)
def isComp : Expr → Bool
  | .ListComp _ _ _ _ => true
  | _ => false
/-- what may be a test -/
def tst : IE → Bool
  | .ite _ _ _ => false
  | _ => true
structure SE (X : Cx) (cl : Calls) (e : Expr) (ie : IE) : Prop where
  pe : PE X e (tE X.K cl ie)
  pt : tst ie = true → PT X e (tT X.K cl ie)
  pl : plainX e = true
  asg : isComp e = true → ∀ (i : Nat) (y : Str) (py spos : Pos), X.N.Nodup → X.N[i]? = some y → Loc X.env.scope y → (X.fn y = true ∨ X.env.scope.names.lookup y = some .local) → PS X (.Assign [.Name y py] e spos) (tAsg (tE X.K cl ie) (gName i))
/-- the test of an expression of no special form -/
theorem pt_of {X : Cx} {cl : Calls} {e : Expr} {ie : IE} (h : PE X e (tE X.K cl ie)) (he : ∀ whole, isTrue e X.env whole = (do let v ← whole; standAt e.pos; holding [v] (truthy v)) := by intro _; rfl) : PT X e (tT X.K cl ie) := by
  refine (pt_val h he).imp fun σ H Q q => ?_
  obtain ⟨F, own, ph, ρ, μ, b, μ', hK, I, ev, k⟩ := q
  refine ⟨F, own, ph, ρ, μ, _, μ', hK, I, ev, fun ph' v H' I' g V0 => ?_⟩
  cases V0.rep
  exact ⟨b, rfl, k ph' H' I' g⟩
end Ev

set_option Elab.async false
set_option linter.all false
set_option maxRecDepth 100000
set_option maxHeartbeats 4000000
namespace Ev
open PySem L2
section
variable {X : Cx} {cl : Calls} {a b c : Expr} {ia ib ic : IE} {pos : Pos}

theorem million : 1000000 ≤ sizeLine := by rw [sizeLine_eq]; decide

/-! ### constants, names -/
theorem s_const {e : Expr} {ie : IE} {v : V} {d : D} (h : PE X e (tC v)) (hd : d.sc = true) (hr : ∀ sa ph A H, Rep sa ph A H v d) (hev : ∀ S c ρ, evE S c ie ρ = pure d) : PE X e (tE X.K cl ie) := by
  refine h.imp fun σ H Q q => ?_
  obtain ⟨F, own, ph, ρ, μ, d', μ', hK, I, ev, k⟩ := q
  rw [hev] at ev
  obtain ⟨rfl, rfl⟩ := pure_ok ev
  refine k ph v H I (Grow.refl _ _) (val0 (hr _ _ _ _) ?_)
  cases d <;> first | rfl | cases hd
theorem s_non {j : Nat} : SE X cl (.Constant .none j pos) .non :=
  have h : PE X (.Constant .none j pos) (tE X.K cl .non) := s_const pe_non rfl (fun _ _ _ _ => .non) fun _ _ _ => rfl
  ⟨h, fun _ => pt_of h, rfl, fun z => by cases z⟩
theorem s_bl {j : Nat} {x : Bool} : SE X cl (.Constant (.bool x) j pos) (.bl x) :=
  have h : PE X (.Constant (.bool x) j pos) (tE X.K cl (.bl x)) := s_const pe_bl rfl (fun _ _ _ _ => .bl x) fun _ _ _ => rfl
  ⟨h, fun _ => pt_of h, rfl, fun z => by cases z⟩
theorem s_int {j : Nat} {x : Int} : SE X cl (.Constant (.int x) j pos) (.int x) :=
  have h : PE X (.Constant (.int x) j pos) (tE X.K cl (.int x)) := s_const pe_int rfl (fun _ _ _ _ => .int x) fun _ _ _ => rfl
  ⟨h, fun _ => pt_of h, rfl, fun z => by cases z⟩
theorem s_str {j : Nat} {x : Str} : SE X cl (.Constant (.str x) j pos) (.str x) :=
  have h : PE X (.Constant (.str x) j pos) (tE X.K cl (.str x)) := s_const pe_str rfl (fun _ _ _ _ => .str x) fun _ _ _ => rfl
  ⟨h, fun _ => pt_of h, rfl, fun z => by cases z⟩
theorem s_var {i : Nat} {x : Str} (hN : X.N[i]? = some x) (hv : Vis X.env.scope x) (hd : (x == ("__debug__" : Str)) = false) (hcd : (x == ("__classdict__" : Str)) = false) : SE X cl (.Name x pos) (.var i) := by
  have h : PE X (.Name x pos) (tE X.K cl (.var i)) := by
    refine (pe_var hN hv hd hcd).imp fun σ H Q q => ?_
    obtain ⟨F, own, ph, ρ, μ, d, μ', hK, I, ev, k⟩ := q
    have ev : M.opt (look ρ i) μ = .ok d μ' := by simpa [evE] using ev
    obtain ⟨e1, rfl⟩ := opt_ok ev
    unfold look at e1
    split at e1
    · rename_i bb dd hq
      cases e1
      obtain ⟨v, h1, h2⟩ := I.slots i bb d hq
      refine ⟨v, h1, k ph v H I (Grow.refl _ _) ⟨?_, fun z => by cases z⟩⟩
      cases bb with
      | false => exact Rep.weaken (fun a z => av_mono z) h2
      | true =>
        obtain ⟨p, vs, ds, rfl, rfl, q3, q4, q5⟩ := h2
        refine .lst q4 (fun z => ?_) (I.ophi i p q3) (q5.weaken fun a z => av_mono z)
        rcases z with z | ⟨j, z, nj⟩
        · exact I.onb i p q3 z
        · exact nj (by rw [I.oinj i j p q3 z]; simp [lk])
    · cases e1
  exact ⟨h, fun _ => pt_of h, rfl, fun z => by cases z⟩
theorem s_glob {x : Str} {v : V} {d : D} {u : Value} (hg : Gl X x) (hm : X.mg x = some u) (r : RelV v u) (hd : d.sc = true) (hr : ∀ sa ph A H, Rep sa ph A H v d) (hdb : (x == ("__debug__" : Str)) = false) : SE X cl (.Name x pos) (.glob x d) :=
  have h : PE X (.Name x pos) (tE X.K cl (.glob x d)) := s_const (pe_glob hg hm r hdb) hd hr fun _ _ _ => rfl
  ⟨h, fun _ => pt_of h, rfl, fun z => by cases z⟩

/-! ### operators -/
def opOf : BOp → Operator
  | .add => .Add | .sub => .Sub | .mul => .Mult | .fdiv => .FloorDiv | .mod => .Mod | .pow => .Pow
/-- a rule of an operator by values, from what binD says -/
def OpOk (X : Cx) (o : BOp) (r : R2) : Prop := ∀ {F : Fx} {own : Nat → Option Addr} {ph ph2 : List Addr} {ρ : Env} {μ2 : Mu} {σ : L2.St} {H H2 : Hp} {L1 L2 : List Nat} {vx vy : V} {x y d : D} {Q : VK}, F.K = X.K → Stt F own ph2 ρ μ2 σ H2 → Grow ph H ph2 H2 →
  Rep F.sa ph2 (Av F own L1) H2 vx x → Rep F.sa ph2 (Av F own L2) H2 vy y → binD o x y = some d → (∀ ph' v H', Stt F own ph' ρ μ2 σ H' → Grow ph H ph' H' → Val F own (L1 ++ L2) true H ph' H' v d → Q v H') → r vx vy H2 Q
theorem s_op {o : BOp} {r : R2} (hr : OpR X (binaryOp (opOf o)) r) (hk : OpOk X o r) (ha : SE X cl a ia) (hb : SE X cl b ib) : SE X cl (.BinOp a (opOf o) b pos) (.bin o ia ib) := by
  have h : PE X (.BinOp a (opOf o) b pos) (tE X.K cl (.bin o ia ib)) := by
    refine (pe_op hr ha.pe hb.pe).imp fun σ H Q q => ?_
    obtain ⟨F, own, ph, ρ, μ, d, μ', hK, I, ev, k⟩ := q
    obtain ⟨x, μ1, e1, ev⟩ := bind_ok (show (evE F.S (cl F.S) ia ρ >>= fun x => evE F.S (cl F.S) ib ρ >>= fun y => M.opt (binD o x y)) μ = .ok d μ' by simpa [evE] using ev)
    obtain ⟨y, μ2, e2, ev⟩ := bind_ok ev
    obtain ⟨e3, rfl⟩ := opt_ok ev
    exact two hK I e1 e2 fun ph2 vx vy H2 I2 g2 rx ry => hk hK I2 g2 rx ry e3 k
  exact ⟨h, fun _ => pt_of h, rfl, fun z => by cases z⟩
theorem lkA {F : Fx} {own : Nat → Option Addr} {L1 L2 : List Nat} : ∀ a, Av F own (L1 ++ L2) a → Av F own L1 a := fun a h => av_sub (fun i hi => List.mem_append_left _ hi) h
theorem lkB {F : Fx} {own : Nat → Option Addr} {L1 L2 : List Nat} : ∀ a, Av F own (L1 ++ L2) a → Av F own L2 a := fun a h => av_sub (fun i hi => List.mem_append_right _ hi) h
theorem ok_add : OpOk X .add (fun x y H Q => rI0 (fun i j => .int (i + j)) x y H Q ∨ rCatA X.K x y H Q ∨ rCat x y H Q) := by
  intro F own ph ph2 ρ μ2 σ H H2 L1 L2 vx vy x y d Q hK I g rx ry e k
  cases x <;> cases y <;> simp only [binD] at e <;> try (cases e; done)
  · cases e; cases rx; cases ry
    exact .inl ⟨_, _, rfl, rfl, k ph2 _ H2 I g (val0 (.int _) rfl)⟩
  · split at e
    · cases e
      rename_i hz
      cases rx with
      | tup h1 r1 =>
        cases ry with
        | tup h2 r2 =>
          refine .inr (.inl ⟨_, _, _, _, rfl, rfl, SqT.of h1, SqT.of h2, ?_, fun z => ?_, fun z1 z2 => ?_, fun _ _ p hp => ?_⟩)
          · rw [r1.length, r2.length]; exact Nat.le_trans hz million
          · subst z
            cases r1
            exact k ph2 _ H2 I g (val0 (.tup h2 (r2.weaken lkB)) rfl)
          · subst z2
            cases r2
            rw [List.append_nil] at k
            exact k ph2 _ H2 I g (val0 (.tup h1 (r1.weaken lkA)) rfl)
          · exact newTup I g hp ((r1.weaken lkA).append (r2.weaken lkB)) k
    · cases e
  · split at e
    · cases e
      rename_i hz
      cases rx with
      | lst h1 _ _ r1 =>
        cases ry with
        | lst h2 _ _ r2 =>
          refine .inr (.inr ⟨_, _, _, _, rfl, rfl, h1, h2, ?_, fun p hp => ?_⟩)
          · rw [r1.length, r2.length]; exact Nat.le_trans hz million
          · exact newLst I g hp ((r1.weaken lkA).append (r2.weaken lkB)) k
    · cases e
theorem op_addA : OpR X (binaryOp .Add) (fun x y H Q => rI0 (fun i j => .int (i + j)) x y H Q ∨ rCatA X.K x y H Q ∨ rCat x y H Q) := op_add.or (op_catA.or op_cat)
theorem ok_sub : OpOk X .sub (rI0 fun i j => .int (i - j)) := by
  intro F own ph ph2 ρ μ2 σ H H2 L1 L2 vx vy x y d Q hK I g rx ry e k
  cases x <;> cases y <;> simp only [binD] at e <;> try (cases e; done)
  cases e; cases rx; cases ry
  exact ⟨_, _, rfl, rfl, k ph2 _ H2 I g (val0 (.int _) rfl)⟩
theorem ok_fdiv : OpOk X .fdiv (rI CDiv fun i j => .int (i / j)) := by
  intro F own ph ph2 ρ μ2 σ H H2 L1 L2 vx vy x y d Q hK I g rx ry e k
  cases x <;> cases y <;> simp only [binD] at e <;> try (cases e; done)
  split at e
  · cases e; cases rx; cases ry
    rename_i hc
    exact ⟨_, _, rfl, rfl, hc, k ph2 _ H2 I g (val0 (.int _) rfl)⟩
  · cases e
theorem ok_mod : OpOk X .mod (rI (fun _ j => 0 < j) fun i j => .int (i % j)) := by
  intro F own ph ph2 ρ μ2 σ H H2 L1 L2 vx vy x y d Q hK I g rx ry e k
  cases x <;> cases y <;> simp only [binD] at e <;> try (cases e; done)
  split at e
  · cases e; cases rx; cases ry
    rename_i hc
    exact ⟨_, _, rfl, rfl, hc, k ph2 _ H2 I g (val0 (.int _) rfl)⟩
  · cases e
theorem ok_pow : OpOk X .pow (rI CPow fun i j => .int (i ^ j.toNat)) := by
  intro F own ph ph2 ρ μ2 σ H H2 L1 L2 vx vy x y d Q hK I g rx ry e k
  cases x <;> cases y <;> simp only [binD] at e <;> try (cases e; done)
  split at e
  · cases e; cases rx; cases ry
    rename_i hc
    exact ⟨_, _, rfl, rfl, hc, k ph2 _ H2 I g (val0 (.int _) rfl)⟩
  · cases e
/-- t * 1 is t -/
def rRep1 (K : PySem.W.Frag) : R2 := fun x y H Q => ∃ l xs, x = .ref l ∧ y = .int 1 ∧ SqT K H l xs ∧ xs ≠ [] ∧ Q (.ref l) H
theorem tup_times1 (l : Addr) (its : Array Value) (n : Nat) (dd : Option Addr) (sl : Array (Option Value)) (u : Tok) : Meets (Builtin.«tuple.__mul__» ⟨[.ref l, .int 1 u], []⟩)
    (fun _ R s => s.heap.get? l = some ⟨.type "tuple", dd, .seq its n, sl⟩ ∧ R (.ok (.ret (.ref l))) s) :=
  .of_wp fun prog w A R s h => by
    obtain ⟨h0, g0, d0, k0, o0⟩ := s
    obtain ⟨hl, h⟩ := h
    have idx := AutoSeq1.idx_int
    have y1 : (its.isEmpty || (1 : Int) == 1) = true := by rw [show ((1 : Int) == 1) = true from rfl, Bool.or_true]
    wp_walk using wpAny_loadPart' hl
    repeat (first
      | (refine wpAny_ite_false (by decide) ?_; wp_walk using wpAny_loadPart' hl)
      | (refine wpAny_ite_true (by rw [y1]; rfl) ?_; wp_walk using wpAny_loadPart' hl))
    exact ⟨_, rfl, h⟩
theorem op_rep1 : OpR X (binaryOp .Mult) (rRep1 X.K) := by
  intro pins s σ H x y v u Q I rx ry h
  obtain ⟨l, xs, rfl, rfl, hT, _, q⟩ := h
  cases rx
  obtain ⟨t, rfl⟩ := ry
  obtain ⟨its, r, ⟨⟨cls, dd, data, sl⟩, ho, e1, n, e2⟩, _⟩ := I.tuple hT
  simp only at e1 e2
  subst e1 e2
  have fin : EP X pins σ Q (.ref l) s := ⟨.ref l, H, I, rfl, q⟩
  exact wpAny_binaryOp_repeat_ref (T := "tuple") (U := "int") (by decide) ⟨_, ho, rfl⟩ (fun s' => typeIs_int s' 1 t) noFill_tuple_mul F.fills_int_mul F.slot_int_rmul repeat_tuple F.slot_int_index.lookup
    (call_meets F.slot_int_rmul (typeIs_int s 1 t) F.entry_int_rmul (F.args_int_rmul_2 _ _) (int_rmul_tuple 1 t l its.toArray n dd sl)
      ⟨ho, rfl, ⟨_, ho, rfl⟩, call_meets F.slot_tuple_mul ⟨_, ho, rfl⟩ F.entry_tuple_mul (F.args_tuple_mul_2 _ _) (tup_times1 l its.toArray n dd sl t) ⟨ho, fin⟩⟩)
theorem flat_one {α : Type} (xs : List α) : (List.replicate (1 : Int).toNat xs).flatten = xs := by
  show (List.replicate 1 xs).flatten = xs
  simp
theorem ok_mul : OpOk X .mul (fun x y H Q => rI CMul (fun i j => .int (i * j)) x y H Q ∨ rRep x y H Q ∨ rRepT X.K x y H Q ∨ rRep1 X.K x y H Q) := by
  intro F own ph ph2 ρ μ2 σ H H2 L1 L2 vx vy x y d Q hK I g rx ry e k
  cases x <;> cases y <;> simp only [binD] at e <;> try (cases e; done)
  · split at e
    · cases e; cases rx; cases ry
      rename_i hc
      exact .inl ⟨_, _, rfl, rfl, hc, k ph2 _ H2 I g (val0 (.int _) rfl)⟩
    · cases e
  · rename_i xs kk
    split at e
    · cases e
      rename_i hc
      cases ry
      cases rx with
      | tup h1 r1 =>
        have hl := r1.length
        have hne : ∀ {vs : List V}, vs.length = xs.length → vs ≠ [] := fun {vs} e z => hc.1 (by subst z; exact List.eq_nil_of_length_eq_zero e.symm)
        by_cases h1k : kk = 1
        · subst h1k
          rw [flat_one] at k
          exact .inr (.inr (.inr ⟨_, _, rfl, rfl, SqT.of h1, hne hl, k ph2 _ H2 I g (val0 (.tup h1 (r1.weaken lkA)) rfl)⟩))
        · refine .inr (.inr (.inl ⟨_, _, _, rfl, rfl, SqT.of h1, hne hl, by omega, by omega, by rw [hl]; omega, fun p hp => ?_⟩))
          exact newTup I g hp ((r1.rep _).weaken lkA) k
    · cases e
  · rename_i xs kk
    split at e
    · cases e
      rename_i hc
      cases ry
      cases rx with
      | lst h1 _ _ r1 =>
        refine .inr (.inl ⟨_, _, _, rfl, rfl, h1, by omega, by omega, ?_, fun p hp => ?_⟩)
        · rw [r1.length]
          have : xs.length * kk.toNat ≤ 1000 * 1000 := Nat.mul_le_mul hc.2.2 (by omega)
          exact Nat.le_trans this million
        · exact newLst I g hp ((r1.rep _).weaken lkA) k
    · cases e
theorem op_mulA : OpR X (binaryOp .Mult) (fun x y H Q => rI CMul (fun i j => .int (i * j)) x y H Q ∨ rRep x y H Q ∨ rRepT X.K x y H Q ∨ rRep1 X.K x y H Q) := op_mul.or (op_rep.or (op_repT.or op_rep1))
theorem s_bin (o : BOp) (ha : SE X cl a ia) (hb : SE X cl b ib) : SE X cl (.BinOp a (opOf o) b pos) (.bin o ia ib) := by
  cases o with
  | add => exact s_op op_addA ok_add ha hb
  | sub => exact s_op op_sub ok_sub ha hb
  | mul => exact s_op op_mulA ok_mul ha hb
  | fdiv => exact s_op op_fdiv ok_fdiv ha hb
  | mod => exact s_op op_mod ok_mod ha hb
  | pow => exact s_op op_pow ok_pow ha hb
theorem s_neg (ha : SE X cl a ia) : SE X cl (.UnaryOp .USub a pos) (.neg ia) := by
  have h : PE X (.UnaryOp .USub a pos) (tE X.K cl (.neg ia)) := by
    refine (pe_un un_neg ha.pe).imp fun σ H Q q => ?_
    obtain ⟨F, own, ph, ρ, μ, d, μ', hK, I, ev, k⟩ := q
    obtain ⟨x, μ1, e1, ev⟩ := bind_ok (show (evE F.S (cl F.S) ia ρ >>= fun x => M.opt (negD x)) μ = .ok d μ' by simpa [evE] using ev)
    obtain ⟨e3, rfl⟩ := opt_ok ev
    refine one hK I e1 fun ph2 vx H2 I2 g2 rx => ?_
    cases x <;> simp only [negD] at e3 <;> try (cases e3; done)
    cases e3; cases rx
    exact ⟨_, rfl, k ph2 _ H2 I2 g2 (val0 (.int _) rfl)⟩
  exact ⟨h, fun _ => pt_of h, rfl, fun z => by cases z⟩
theorem truth_bl {x : D} {k : Bool} (h : truth x = some k) : x = .bl k := by
  cases x <;> simp [truth] at h <;> first | (subst h; rfl) | cases h
theorem s_not (ha : SE X cl a ia) (ht : tst ia = true) : SE X cl (.UnaryOp .Not a pos) (.not ia) := by
  have run : ∀ {F : Fx} {ρ : Env} {μ μ' : Mu} {d : D}, evE F.S (cl F.S) (.not ia) ρ μ = .ok d μ' → ∃ k, evE F.S (cl F.S) ia ρ μ = .ok (.bl k) μ' ∧ d = .bl (!k) := fun {F ρ μ μ' d} ev => by
    obtain ⟨x, μ1, e1, ev⟩ := bind_ok (show (evE F.S (cl F.S) ia ρ >>= fun x => M.opt (truth x) >>= fun b => pure (.bl (!b))) μ = .ok d μ' by simpa [evE] using ev)
    obtain ⟨k, μ2, e2, ev⟩ := bind_ok ev
    obtain ⟨e3, rfl⟩ := opt_ok e2
    obtain ⟨rfl, rfl⟩ := pure_ok ev
    rw [truth_bl e3] at e1
    exact ⟨k, e1, rfl⟩
  refine ⟨(pe_not ha.pe).imp fun σ H Q q => ?_, fun _ => (pt_not (ha.pt ht)).imp fun σ H Q q => ?_, rfl, fun z => by cases z⟩
  · obtain ⟨F, own, ph, ρ, μ, d, μ', hK, I, ev, k⟩ := q
    obtain ⟨t, e1, rfl⟩ := run ev
    refine one hK I e1 fun ph2 vx H2 I2 g2 rx => ?_
    cases rx
    exact ⟨t, rfl, k ph2 _ H2 I2 g2 (val0 (.bl _) rfl)⟩
  · obtain ⟨F, own, ph, ρ, μ, b, μ', hK, I, ev, k⟩ := q
    obtain ⟨t, e1, e2⟩ := run ev
    cases e2
    exact ⟨F, own, ph, ρ, μ, t, μ', hK, I, e1, fun ph' H' I' g => k ph' H' I' g⟩
end
end Ev

set_option Elab.async false
set_option linter.all false
set_option maxRecDepth 100000
set_option maxHeartbeats 4000000
namespace Ev
open PySem L2
section
variable {X : Cx} {cl : Calls} {a b c : Expr} {ia ib ic : IE} {pos : Pos}

/-! ### comparisons -/
def cOf : COp → CmpOp
  | .eq => .Eq | .ne => .NotEq | .lt => .Lt | .le => .LtE | .gt => .Gt | .ge => .GtE
def rOf (K : PySem.W.Frag) : COp → R2
  | .eq => rEqD K
  | .ne => rNeD K
  | .lt => rI0 fun i j => .bl (decide (i < j))
  | .le => rI0 fun i j => .bl (decide (i ≤ j))
  | .gt => rI0 fun i j => .bl (decide (j < i))
  | .ge => rI0 fun i j => .bl (decide (j ≤ i))
theorem op_of (hu : X.A.units + 64 < cLine) (o : COp) : OpR X (compareOp (cOf o)) (rOf X.K o) := by
  cases o with
  | eq => exact op_eqD hu
  | ne => exact op_neD hu
  | lt => exact op_lt
  | le => exact op_le
  | gt => exact op_gt
  | ge => exact op_ge
theorem canLay_ints : ∀ S : List Int, PyData.canLayAll0 (toPys (S.map D.int)) = true ∧ PyData.depthAll (toPys (S.map D.int)) ≤ 0
  | [] => ⟨rfl, by simp [toPys, PyData.depthAll]⟩
  | x :: r => by
    obtain ⟨h1, h2⟩ := canLay_ints r
    exact ⟨by simp [toPys, toPy, PyData.canLayAll0, PyData.canLay0, h1], by simp only [List.map_cons, toPys, toPy, PyData.depthAll, PyData.depth]; omega⟩
/-- from what cmpD says to the rule's wants -/
theorem cmp_ok {F : Fx} {own : Nat → Option Addr} {ph : List Addr} {ρ : Env} {μ : Mu} {σ : L2.St} {H : Hp} {A1 A2 : Addr → Prop} {o : COp} {vx vy : V} {x y d : D} {Q : VK} (hK : F.K = X.K) (I : Stt F own ph ρ μ σ H) (rx : Rep F.sa ph A1 H vx x) (ry : Rep F.sa ph A2 H vy y)
    (e : cmpD F.S o x y = some d) (hQ : ∀ k, d = .bl k → Q (.bl k) H) : rOf X.K o vx vy H Q := by
  have eqs : ∀ {x y : D} {vx vy : V} {A1 A2 : Addr → Prop}, Rep F.sa ph A1 H vx x → Rep F.sa ph A2 H vy y → (sh 8 x && sh 8 y) = true → (∀ k, k = deq x y → Q (.bl k) H) → rEqD X.K vx vy H Q := fun {x y vx vy A1 A2} rx ry hs hQ => by
    rw [Bool.and_eq_true] at hs
    exact ⟨_, _, Rep.dp x vx 8 hs.1 rx, Rep.dp y vy 8 hs.2 ry, sh_shaped hs.1, sh_shaped hs.2, hQ _ (deq_eqv x y 8 8 hs.1 hs.2)⟩
  have nes : ∀ {x y : D} {vx vy : V} {A1 A2 : Addr → Prop}, Rep F.sa ph A1 H vx x → Rep F.sa ph A2 H vy y → (sh 8 x && sh 8 y) = true → (∀ k, k = (!deq x y) → Q (.bl k) H) → rNeD X.K vx vy H Q := fun {x y vx vy A1 A2} rx ry hs hQ => by
    rw [Bool.and_eq_true] at hs
    exact ⟨_, _, Rep.dp x vx 8 hs.1 rx, Rep.dp y vy 8 hs.2 ry, sh_shaped hs.1, sh_shaped hs.2, hQ _ (congrArg not (deq_eqv x y 8 8 hs.1 hs.2))⟩
  cases o with
  | eq =>
    by_cases hx : x = .scr ∧ y = .lst []
    · obtain ⟨rfl, rfl⟩ := hx
      have e : some (D.bl F.S.isEmpty) = some d := e
      cases e
      cases rx
      cases ry with
      | lst h1 _ _ r1 =>
        cases r1
        obtain ⟨c1, c2⟩ := canLay_ints F.S
        have dps : ∀ S : List Int, DpAll X.K H (S.map V.int) (toPys (S.map D.int)) := fun S => by
          induction S with
          | nil => exact .nil
          | cons z zs ih => exact .cons (.int z) ih
        refine ⟨.list (toPys (F.S.map D.int)), .list [], .lst (hK ▸ I.scr.sq) (dps F.S), .lst (SqL.of h1) .nil, ?_, rfl, ?_⟩
        · unfold SeqAt.shaped
          rw [show PyData.canLay0 (.list (toPys (F.S.map D.int))) = true from c1, Bool.true_and]
          exact decide_eq_true (by simp only [PyData.depth]; omega)
        · have : PyData.eqv (.list (toPys (F.S.map D.int))) (.list []) = F.S.isEmpty := by cases F.S <;> rfl
          rw [this]
          exact hQ _ rfl
    · have e' : (if (sh 8 x && sh 8 y) = true then some (D.bl (deq x y)) else none) = some d := by
        rw [← e]
        cases x <;> try rfl
        cases y <;> try rfl
        rename_i ds
        cases ds with
        | nil => exact absurd ⟨rfl, rfl⟩ hx
        | cons _ _ => rfl
      split at e'
      · rename_i hs
        cases e'
        exact eqs rx ry hs fun k hk => hQ k (by rw [hk])
      · cases e'
  | ne =>
    have e' : (if (sh 8 x && sh 8 y) = true then some (D.bl (!deq x y)) else none) = some d := by rw [← e]; rfl
    split at e'
    · rename_i hs
      cases e'
      exact nes rx ry hs fun k hk => hQ k (by rw [hk])
    · cases e'
  | lt => cases x <;> cases y <;> simp only [cmpD] at e <;> first | (cases e; done) | (cases e; cases rx; cases ry; exact ⟨_, _, rfl, rfl, hQ _ rfl⟩)
  | le => cases x <;> cases y <;> simp only [cmpD] at e <;> first | (cases e; done) | (cases e; cases rx; cases ry; exact ⟨_, _, rfl, rfl, hQ _ rfl⟩)
  | gt => cases x <;> cases y <;> simp only [cmpD] at e <;> first | (cases e; done) | (cases e; cases rx; cases ry; exact ⟨_, _, rfl, rfl, hQ _ rfl⟩)
  | ge => cases x <;> cases y <;> simp only [cmpD] at e <;> first | (cases e; done) | (cases e; cases rx; cases ry; exact ⟨_, _, rfl, rfl, hQ _ rfl⟩)
theorem cmpD_bl {S : List Int} {o : COp} {x y d : D} (e : cmpD S o x y = some d) : ∃ k, d = .bl k := by
  unfold cmpD at e
  split at e
  · cases e; exact ⟨_, rfl⟩
  · split at e
    · cases e; exact ⟨_, rfl⟩
    · cases e
  · split at e
    · cases e; exact ⟨_, rfl⟩
    · cases e
  · cases e; exact ⟨_, rfl⟩
  · cases e
theorem s_cmp (hu : X.A.units + 64 < cLine) (o : COp) (ha : SE X cl a ia) (hb : SE X cl b ib) : SE X cl (.Compare a [cOf o] [b] pos) (.cmp o ia ib) := by
  refine ⟨(pe_cmpR (op_of hu o) ha.pe hb.pe (plain_marks hb.pl)).imp fun σ H Q q => ?_, fun _ => (pt_cmpR (op_of hu o) ha.pe hb.pe (plain_marks hb.pl)).imp fun σ H Q q => ?_, rfl, fun z => by cases z⟩
  · obtain ⟨F, own, ph, ρ, μ, d, μ', hK, I, ev, k⟩ := q
    obtain ⟨x, μ1, e1, ev⟩ := bind_ok (show (evE F.S (cl F.S) ia ρ >>= fun x => evE F.S (cl F.S) ib ρ >>= fun y => M.opt (cmpD F.S o x y)) μ = .ok d μ' by simpa [evE] using ev)
    obtain ⟨y, μ2, e2, ev⟩ := bind_ok ev
    obtain ⟨e3, rfl⟩ := opt_ok ev
    exact two hK I e1 e2 fun ph2 vx vy H2 I2 g2 rx ry => cmp_ok hK I2 rx ry e3 fun t ht => by subst ht; exact k ph2 _ H2 I2 g2 (val0 (.bl _) rfl)
  · obtain ⟨F, own, ph, ρ, μ, t, μ', hK, I, ev, k⟩ := q
    obtain ⟨x, μ1, e1, ev⟩ := bind_ok (show (evE F.S (cl F.S) ia ρ >>= fun x => evE F.S (cl F.S) ib ρ >>= fun y => M.opt (cmpD F.S o x y)) μ = .ok (.bl t) μ' by simpa [evE] using ev)
    obtain ⟨y, μ2, e2, ev⟩ := bind_ok ev
    obtain ⟨e3, rfl⟩ := opt_ok ev
    exact two hK I e1 e2 fun ph2 vx vy H2 I2 g2 rx ry => cmp_ok hK I2 rx ry e3 fun t' ht => by cases ht; exact ⟨t, rfl, k ph2 H2 I2 g2⟩
theorem s_chain (hu : X.A.units + 64 < cLine) (o o' : COp) (ha : SE X cl a ia) (hb : SE X cl b ib) (hc : SE X cl c ic) : SE X cl (.Compare a [cOf o, cOf o'] [b, c] pos) (.chain o o' ia ib ic) := by
  have hm : lastMarks [cOf o, cOf o'] [b, c] = false := plain_marks hc.pl
  refine ⟨(pe_chain (op_of hu o) (op_of hu o') ha.pe hb.pe hc.pe hm).imp fun σ H Q q => ?_, fun _ => (pt_chain (op_of hu o) (op_of hu o') ha.pe hb.pe hc.pe hm).imp fun σ H Q q => ?_, rfl, fun z => by cases z⟩
  · obtain ⟨F, own, ph, ρ, μ, d, μ', hK, I, ev, k⟩ := q
    obtain ⟨x, μ1, e1, ev⟩ := bind_ok (show (evE F.S (cl F.S) ia ρ >>= fun x => evE F.S (cl F.S) ib ρ >>= fun y => M.opt (cmpD F.S o x y) >>= fun t => M.opt (truth t) >>= fun k =>
      if k = true then evE F.S (cl F.S) ic ρ >>= fun z => M.opt (cmpD F.S o' y z) else pure (.bl false)) μ = .ok d μ' by simpa [evE] using ev)
    obtain ⟨y, μ2, e2, ev⟩ := bind_ok ev
    obtain ⟨t, μ3, e3, ev⟩ := bind_ok ev
    obtain ⟨e3', e3''⟩ := opt_ok e3
    subst e3''
    obtain ⟨t2, μ4, e4, ev⟩ := bind_ok ev
    obtain ⟨e4', e5'⟩ := opt_ok e4
    subst e5'
    rw [truth_bl e4'] at e3'
    refine two hK I e1 e2 fun ph2 vx vy H2 I2 g2 rx ry => cmp_ok hK I2 rx ry e3' fun t' ht => ?_
    cases ht
    refine ⟨t2, rfl, ?_⟩
    cases t2 with
    | false =>
      obtain ⟨rfl, rfl⟩ := pure_ok ev
      exact k ph2 _ H2 I2 g2 (val0 (.bl _) rfl)
    | true =>
      obtain ⟨z, μ5, e5, ev⟩ := bind_ok (show (evE F.S (cl F.S) ic ρ >>= fun z => M.opt (cmpD F.S o' y z)) _ = .ok d μ' from ev)
      obtain ⟨e6, rfl⟩ := opt_ok ev
      refine one hK I2 e5 fun ph3 vz H3 I3 g3 rz => cmp_ok hK I3 (g3.rep I2.mu ry) rz e6 fun t' ht => ?_
      subst ht
      exact k ph3 _ H3 I3 (g2.trans g3) (val0 (.bl _) rfl)
  · obtain ⟨F, own, ph, ρ, μ, d, μ', hK, I, ev, k⟩ := q
    obtain ⟨x, μ1, e1, ev⟩ := bind_ok (show (evE F.S (cl F.S) ia ρ >>= fun x => evE F.S (cl F.S) ib ρ >>= fun y => M.opt (cmpD F.S o x y) >>= fun t => M.opt (truth t) >>= fun k =>
      if k = true then evE F.S (cl F.S) ic ρ >>= fun z => M.opt (cmpD F.S o' y z) else pure (.bl false)) μ = .ok (.bl d) μ' by simpa [evE] using ev)
    obtain ⟨y, μ2, e2, ev⟩ := bind_ok ev
    obtain ⟨t, μ3, e3, ev⟩ := bind_ok ev
    obtain ⟨e3', e3''⟩ := opt_ok e3
    subst e3''
    obtain ⟨t2, μ4, e4, ev⟩ := bind_ok ev
    obtain ⟨e4', e5'⟩ := opt_ok e4
    subst e5'
    rw [truth_bl e4'] at e3'
    refine two hK I e1 e2 fun ph2 vx vy H2 I2 g2 rx ry => cmp_ok hK I2 rx ry e3' fun t' ht => ?_
    cases ht
    refine ⟨t2, rfl, ?_⟩
    cases t2 with
    | false =>
      obtain ⟨q, rfl⟩ := pure_ok ev
      cases q
      exact ⟨false, rfl, k ph2 H2 I2 g2⟩
    | true =>
      obtain ⟨z, μ5, e5, ev⟩ := bind_ok (show (evE F.S (cl F.S) ic ρ >>= fun z => M.opt (cmpD F.S o' y z)) _ = .ok (.bl d) μ' from ev)
      obtain ⟨e6, rfl⟩ := opt_ok ev
      refine one hK I2 e5 fun ph3 vz H3 I3 g3 rz => cmp_ok hK I3 (g3.rep I2.mu ry) rz e6 fun t' ht => ?_
      cases ht
      exact ⟨d, rfl, k ph3 H3 I3 (g2.trans g3)⟩

/-! ### is -/
def isOp (n : Bool) : CmpOp := if n then .IsNot else .Is
def isK : IsC → Const
  | .non => .none | .tru => .bool true | .fls => .bool false
theorem rep_non {sa : Addr} {ph : List Addr} {A : Addr → Prop} {H : Hp} {v : V} {x : D} (r : Rep sa ph A H v x) : decide (v = .non) = (match x with | .non => true | _ => false) := by
  cases r <;> simp
theorem s_isC {j : Nat} {pos' : Pos} (n : Bool) (kc : IsC) (ha : SE X cl a ia) : SE X cl (.Compare a [isOp n] [.Constant (isK kc) j pos'] pos) (.isC n kc ia) := by
  have run : ∀ {F : Fx} {ρ : Env} {μ μ' : Mu} {d : D}, evE F.S (cl F.S) (.isC n kc ia) ρ μ = .ok d μ' → ∃ x, evE F.S (cl F.S) ia ρ μ = .ok x μ' ∧ isD n kc x = some d := fun {F ρ μ μ' d} ev => by
    obtain ⟨x, μ1, e1, ev⟩ := bind_ok (show (evE F.S (cl F.S) ia ρ >>= fun x => M.opt (isD n kc x)) μ = .ok d μ' by simpa [evE] using ev)
    obtain ⟨e2, rfl⟩ := opt_ok ev
    exact ⟨x, e1, e2⟩
  have fin : ∀ {x d : D} {v : V} {sa : Addr} {ph : List Addr} {A : Addr → Prop} {H : Hp}, isD n .non x = some d → Rep sa ph A H v x → d = .bl (if n then !decide (v = .non) else decide (v = .non)) := fun {x d v sa ph A H} e r => by
    rw [rep_non r]
    cases x <;> simp only [isD] at e <;> cases e <;> cases n <;> rfl
  have fin2 : ∀ {x d : D} {v : V} {t : Bool} {sa : Addr} {ph : List Addr} {A : Addr → Prop} {H : Hp}, isD n (if t then .tru else .fls) x = some d → Rep sa ph A H v x → ∃ q, v = .bl q ∧ d = .bl (if n then !decide (q = t) else decide (q = t)) := fun {x d v t sa ph A H} e r => by
    cases t <;> cases x <;> simp [isD] at e <;> (cases r; subst e; refine ⟨_, rfl, ?_⟩; rename_i q; cases n <;> cases q <;> rfl)
  cases kc with
  | non =>
    cases n with
    | false =>
      refine ⟨(pe_cmp (pc_isN ha.pe) rfl).imp fun σ H Q q => ?_, fun _ => (pt_cmp (pc_isN ha.pe) rfl).imp fun σ H Q q => ?_, rfl, fun z => by cases z⟩
      · obtain ⟨F, own, ph, ρ, μ, d, μ', hK, I, ev, k⟩ := q
        obtain ⟨x, e1, e2⟩ := run ev
        exact one hK I e1 fun ph2 vx H2 I2 g2 rx => by rw [fin e2 rx] at k; exact k ph2 _ H2 I2 g2 (val0 (.bl _) rfl)
      · obtain ⟨F, own, ph, ρ, μ, d, μ', hK, I, ev, k⟩ := q
        obtain ⟨x, e1, e2⟩ := run ev
        exact one hK I e1 fun ph2 vx H2 I2 g2 rx => by have := fin e2 rx; cases this; exact ⟨_, rfl, k ph2 H2 I2 g2⟩
    | true =>
      refine ⟨(pe_cmp (pc_notN ha.pe) rfl).imp fun σ H Q q => ?_, fun _ => (pt_cmp (pc_notN ha.pe) rfl).imp fun σ H Q q => ?_, rfl, fun z => by cases z⟩
      · obtain ⟨F, own, ph, ρ, μ, d, μ', hK, I, ev, k⟩ := q
        obtain ⟨x, e1, e2⟩ := run ev
        exact one hK I e1 fun ph2 vx H2 I2 g2 rx => by rw [fin e2 rx] at k; exact k ph2 _ H2 I2 g2 (val0 (.bl _) rfl)
      · obtain ⟨F, own, ph, ρ, μ, d, μ', hK, I, ev, k⟩ := q
        obtain ⟨x, e1, e2⟩ := run ev
        exact one hK I e1 fun ph2 vx H2 I2 g2 rx => by have := fin e2 rx; cases this; exact ⟨_, rfl, k ph2 H2 I2 g2⟩
  | tru =>
    cases n with
    | false =>
      refine ⟨(pe_cmpR op_isBl ha.pe pe_bl (nomark _)).imp fun σ H Q q => ?_, fun _ => (pt_cmpR op_isBl ha.pe pe_bl (nomark _)).imp fun σ H Q q => ?_, rfl, fun z => by cases z⟩
      · obtain ⟨F, own, ph, ρ, μ, d, μ', hK, I, ev, k⟩ := q
        obtain ⟨x, e1, e2⟩ := run ev
        exact one hK I e1 fun ph2 vx H2 I2 g2 rx => by obtain ⟨q, rfl, e3⟩ := fin2 (t := true) e2 rx; subst e3; exact ⟨q, true, rfl, rfl, k ph2 _ H2 I2 g2 (val0 (.bl _) rfl)⟩
      · obtain ⟨F, own, ph, ρ, μ, d, μ', hK, I, ev, k⟩ := q
        obtain ⟨x, e1, e2⟩ := run ev
        exact one hK I e1 fun ph2 vx H2 I2 g2 rx => by obtain ⟨q, rfl, e3⟩ := fin2 (t := true) e2 rx; cases e3; exact ⟨q, true, rfl, rfl, _, rfl, k ph2 H2 I2 g2⟩
    | true =>
      refine ⟨(pe_cmpR op_notBl ha.pe pe_bl (nomark _)).imp fun σ H Q q => ?_, fun _ => (pt_cmpR op_notBl ha.pe pe_bl (nomark _)).imp fun σ H Q q => ?_, rfl, fun z => by cases z⟩
      · obtain ⟨F, own, ph, ρ, μ, d, μ', hK, I, ev, k⟩ := q
        obtain ⟨x, e1, e2⟩ := run ev
        exact one hK I e1 fun ph2 vx H2 I2 g2 rx => by obtain ⟨q, rfl, e3⟩ := fin2 (t := true) e2 rx; subst e3; exact ⟨q, true, rfl, rfl, k ph2 _ H2 I2 g2 (val0 (.bl _) rfl)⟩
      · obtain ⟨F, own, ph, ρ, μ, d, μ', hK, I, ev, k⟩ := q
        obtain ⟨x, e1, e2⟩ := run ev
        exact one hK I e1 fun ph2 vx H2 I2 g2 rx => by obtain ⟨q, rfl, e3⟩ := fin2 (t := true) e2 rx; cases e3; exact ⟨q, true, rfl, rfl, _, rfl, k ph2 H2 I2 g2⟩
  | fls =>
    cases n with
    | false =>
      refine ⟨(pe_cmpR op_isBl ha.pe pe_bl (nomark _)).imp fun σ H Q q => ?_, fun _ => (pt_cmpR op_isBl ha.pe pe_bl (nomark _)).imp fun σ H Q q => ?_, rfl, fun z => by cases z⟩
      · obtain ⟨F, own, ph, ρ, μ, d, μ', hK, I, ev, k⟩ := q
        obtain ⟨x, e1, e2⟩ := run ev
        exact one hK I e1 fun ph2 vx H2 I2 g2 rx => by obtain ⟨q, rfl, e3⟩ := fin2 (t := false) e2 rx; subst e3; exact ⟨q, false, rfl, rfl, k ph2 _ H2 I2 g2 (val0 (.bl _) rfl)⟩
      · obtain ⟨F, own, ph, ρ, μ, d, μ', hK, I, ev, k⟩ := q
        obtain ⟨x, e1, e2⟩ := run ev
        exact one hK I e1 fun ph2 vx H2 I2 g2 rx => by obtain ⟨q, rfl, e3⟩ := fin2 (t := false) e2 rx; cases e3; exact ⟨q, false, rfl, rfl, _, rfl, k ph2 H2 I2 g2⟩
    | true =>
      refine ⟨(pe_cmpR op_notBl ha.pe pe_bl (nomark _)).imp fun σ H Q q => ?_, fun _ => (pt_cmpR op_notBl ha.pe pe_bl (nomark _)).imp fun σ H Q q => ?_, rfl, fun z => by cases z⟩
      · obtain ⟨F, own, ph, ρ, μ, d, μ', hK, I, ev, k⟩ := q
        obtain ⟨x, e1, e2⟩ := run ev
        exact one hK I e1 fun ph2 vx H2 I2 g2 rx => by obtain ⟨q, rfl, e3⟩ := fin2 (t := false) e2 rx; subst e3; exact ⟨q, false, rfl, rfl, k ph2 _ H2 I2 g2 (val0 (.bl _) rfl)⟩
      · obtain ⟨F, own, ph, ρ, μ, d, μ', hK, I, ev, k⟩ := q
        obtain ⟨x, e1, e2⟩ := run ev
        exact one hK I e1 fun ph2 vx H2 I2 g2 rx => by obtain ⟨q, rfl, e3⟩ := fin2 (t := false) e2 rx; cases e3; exact ⟨q, false, rfl, rfl, _, rfl, k ph2 H2 I2 g2⟩

/-! ### and, or, if else -/
structure SB (X : Cx) (cl : Calls) (op : BoolOp) (es : List Expr) (ie : IE) : Prop where
  pe : ∀ pos, PE X (.BoolOp op es pos) (tE X.K cl ie)
  pw : ∀ pos, PW X (.BoolOp op es pos) (tT X.K cl ie)
theorem SB.se {op : BoolOp} {es : List Expr} {ie : IE} (h : SB X cl op es ie) : SE X cl (.BoolOp op es pos) ie := ⟨h.pe pos, fun _ => (h.pw pos).pt, rfl, fun z => by cases z⟩
theorem sb_and1 (ha : SE X cl a ia) (ht : tst ia = true) : SB X cl .And [a] (.andL (.cons ia .nil)) := by
  refine ⟨fun pos => (pe_one ha.pe).imp fun σ H Q q => ?_, fun pos => (pw_and1 (ha.pt ht)).imp fun σ H Q q => ?_⟩
  · obtain ⟨F, own, ph, ρ, μ, d, μ', hK, I, ev, k⟩ := q
    exact ⟨F, own, ph, ρ, μ, d, μ', hK, I, by simpa [evE, evAnd] using ev, fun ph' v H' I' g V0 => k ph' v H' I' g ⟨V0.rep.weaken lkA, fun z => by cases z⟩⟩
  · obtain ⟨F, own, ph, ρ, μ, d, μ', hK, I, ev, k⟩ := q
    exact ⟨F, own, ph, ρ, μ, d, μ', hK, I, by simpa [evE, evAnd] using ev, k⟩
theorem sb_or1 (ha : SE X cl a ia) (ht : tst ia = true) : SB X cl .Or [a] (.orL (.cons ia .nil)) := by
  refine ⟨fun pos => (pe_one ha.pe).imp fun σ H Q q => ?_, fun pos => (pw_or1 (ha.pt ht)).imp fun σ H Q q => ?_⟩
  · obtain ⟨F, own, ph, ρ, μ, d, μ', hK, I, ev, k⟩ := q
    exact ⟨F, own, ph, ρ, μ, d, μ', hK, I, by simpa [evE, evOr] using ev, fun ph' v H' I' g V0 => k ph' v H' I' g ⟨V0.rep.weaken lkA, fun z => by cases z⟩⟩
  · obtain ⟨F, own, ph, ρ, μ, d, μ', hK, I, ev, k⟩ := q
    exact ⟨F, own, ph, ρ, μ, d, μ', hK, I, by simpa [evE, evOr] using ev, k⟩
theorem sb_and {rest : List Expr} {ir : IEs} (ht : tst ia = true) (ha : SE X cl a ia) (hb : SB X cl .And (b :: rest) (.andL (.cons ib ir))) : SB X cl .And (a :: b :: rest) (.andL (.cons ia (.cons ib ir))) := by
  have run : ∀ {F : Fx} {ρ : Env} {μ μ' : Mu} {d : D}, evE F.S (cl F.S) (.andL (.cons ia (.cons ib ir))) ρ μ = .ok d μ' →
      ∃ k μ1, evE F.S (cl F.S) ia ρ μ = .ok (.bl k) μ1 ∧ ((k = true ∧ evE F.S (cl F.S) (.andL (.cons ib ir)) ρ μ1 = .ok d μ') ∨ (k = false ∧ d = .bl false ∧ μ1 = μ')) := fun {F ρ μ μ' d} ev => by
    obtain ⟨x, μ1, e1, ev⟩ := bind_ok (show (evE F.S (cl F.S) ia ρ >>= fun x => M.opt (truth x) >>= fun k => if k = true then evAnd F.S (cl F.S) (.cons ib ir) ρ else pure (.bl false)) μ = .ok d μ' by simpa [evE, evAnd] using ev)
    obtain ⟨k, μ2, e2, ev⟩ := bind_ok ev
    obtain ⟨e3, rfl⟩ := opt_ok e2
    rw [truth_bl e3] at e1
    refine ⟨k, _, e1, ?_⟩
    cases k with
    | true => exact .inl ⟨rfl, by simpa [evE] using ev⟩
    | false => obtain ⟨rfl, rfl⟩ := pure_ok ev; exact .inr ⟨rfl, rfl, rfl⟩
  refine ⟨fun pos => (pe_and ha.pe (hb.pe pos)).imp fun σ H Q q => ?_, fun pos => (pw_and (ha.pt ht) (hb.pw pos)).imp fun σ H Q q => ?_⟩
  · obtain ⟨F, own, ph, ρ, μ, d, μ', hK, I, ev, k⟩ := q
    obtain ⟨t, μ1, e1, e2⟩ := run ev
    refine one hK I e1 fun ph2 vx H2 I2 g2 rx => ?_
    cases rx
    refine ⟨t, rfl, ?_⟩
    rcases e2 with ⟨rfl, e2⟩ | ⟨rfl, rfl, rfl⟩
    · rw [if_pos rfl]
      exact ⟨F, own, ph2, ρ, μ1, d, μ', hK, I2, e2, fun ph' v H' I' g V0 => k ph' v H' I' (g2.trans g) ⟨V0.rep.weaken lkB, fun z => by cases z⟩⟩
    · rw [if_neg Bool.false_ne_true]
      exact k ph2 _ H2 I2 g2 (val0 (.bl _) rfl)
  · obtain ⟨F, own, ph, ρ, μ, d, μ', hK, I, ev, k⟩ := q
    obtain ⟨t, μ1, e1, e2⟩ := run ev
    refine ⟨F, own, ph, ρ, μ, t, μ1, hK, I, e1, fun ph2 H2 I2 g2 => ?_⟩
    rcases e2 with ⟨rfl, e2⟩ | ⟨rfl, e3, rfl⟩
    · rw [if_pos rfl]
      exact ⟨F, own, ph2, ρ, μ1, d, μ', hK, I2, e2, fun ph' H' I' g => k ph' H' I' (g2.trans g)⟩
    · rw [if_neg Bool.false_ne_true]
      cases e3
      exact k ph2 H2 I2 g2
theorem sb_or {rest : List Expr} {ir : IEs} (ht : tst ia = true) (ha : SE X cl a ia) (hb : SB X cl .Or (b :: rest) (.orL (.cons ib ir))) : SB X cl .Or (a :: b :: rest) (.orL (.cons ia (.cons ib ir))) := by
  have run : ∀ {F : Fx} {ρ : Env} {μ μ' : Mu} {d : D}, evE F.S (cl F.S) (.orL (.cons ia (.cons ib ir))) ρ μ = .ok d μ' →
      ∃ k μ1, evE F.S (cl F.S) ia ρ μ = .ok (.bl k) μ1 ∧ ((k = false ∧ evE F.S (cl F.S) (.orL (.cons ib ir)) ρ μ1 = .ok d μ') ∨ (k = true ∧ d = .bl true ∧ μ1 = μ')) := fun {F ρ μ μ' d} ev => by
    obtain ⟨x, μ1, e1, ev⟩ := bind_ok (show (evE F.S (cl F.S) ia ρ >>= fun x => M.opt (truth x) >>= fun k => if k = true then pure (.bl true) else evOr F.S (cl F.S) (.cons ib ir) ρ) μ = .ok d μ' by simpa [evE, evOr] using ev)
    obtain ⟨k, μ2, e2, ev⟩ := bind_ok ev
    obtain ⟨e3, rfl⟩ := opt_ok e2
    rw [truth_bl e3] at e1
    refine ⟨k, _, e1, ?_⟩
    cases k with
    | false => exact .inl ⟨rfl, by simpa [evE] using ev⟩
    | true => obtain ⟨rfl, rfl⟩ := pure_ok ev; exact .inr ⟨rfl, rfl, rfl⟩
  refine ⟨fun pos => (pe_or ha.pe (hb.pe pos)).imp fun σ H Q q => ?_, fun pos => (pw_or (ha.pt ht) (hb.pw pos)).imp fun σ H Q q => ?_⟩
  · obtain ⟨F, own, ph, ρ, μ, d, μ', hK, I, ev, k⟩ := q
    obtain ⟨t, μ1, e1, e2⟩ := run ev
    refine one hK I e1 fun ph2 vx H2 I2 g2 rx => ?_
    cases rx
    refine ⟨t, rfl, ?_⟩
    rcases e2 with ⟨rfl, e2⟩ | ⟨rfl, rfl, rfl⟩
    · rw [if_neg Bool.false_ne_true]
      exact ⟨F, own, ph2, ρ, μ1, d, μ', hK, I2, e2, fun ph' v H' I' g V0 => k ph' v H' I' (g2.trans g) ⟨V0.rep.weaken lkB, fun z => by cases z⟩⟩
    · rw [if_pos rfl]
      exact k ph2 _ H2 I2 g2 (val0 (.bl _) rfl)
  · obtain ⟨F, own, ph, ρ, μ, d, μ', hK, I, ev, k⟩ := q
    obtain ⟨t, μ1, e1, e2⟩ := run ev
    refine ⟨F, own, ph, ρ, μ, t, μ1, hK, I, e1, fun ph2 H2 I2 g2 => ?_⟩
    rcases e2 with ⟨rfl, e2⟩ | ⟨rfl, e3, rfl⟩
    · rw [if_neg Bool.false_ne_true]
      exact ⟨F, own, ph2, ρ, μ1, d, μ', hK, I2, e2, fun ph' H' I' g => k ph' H' I' (g2.trans g)⟩
    · rw [if_pos rfl]
      cases e3
      exact k ph2 H2 I2 g2
theorem s_ite (ht : tst ic = true) (hc : SE X cl c ic) (ha : SE X cl a ia) (hb : SE X cl b ib) : SE X cl (.IfExp c a b pos) (.ite ic ia ib) := by
  have h : PE X (.IfExp c a b pos) (tE X.K cl (.ite ic ia ib)) := by
    refine (pe_ifExp (hc.pt ht) ha.pe hb.pe).imp fun σ H Q q => ?_
    obtain ⟨F, own, ph, ρ, μ, d, μ', hK, I, ev, k⟩ := q
    obtain ⟨x, μ1, e1, ev⟩ := bind_ok (show (evE F.S (cl F.S) ic ρ >>= fun x => M.opt (truth x) >>= fun k => if k = true then evE F.S (cl F.S) ia ρ else evE F.S (cl F.S) ib ρ) μ = .ok d μ' by simpa [evE] using ev)
    obtain ⟨t, μ2, e2, ev⟩ := bind_ok ev
    obtain ⟨e3, rfl⟩ := opt_ok e2
    rw [truth_bl e3] at e1
    refine ⟨F, own, ph, ρ, μ, t, _, hK, I, e1, fun ph2 H2 I2 g2 => ?_⟩
    cases t with
    | true =>
      rw [if_pos rfl]
      exact ⟨F, own, ph2, ρ, _, d, μ', hK, I2, ev, fun ph' v H' I' g V0 => k ph' v H' I' (g2.trans g) ⟨V0.rep.weaken lkA, fun z => by cases z⟩⟩
    | false =>
      rw [if_neg Bool.false_ne_true]
      exact ⟨F, own, ph2, ρ, _, d, μ', hK, I2, ev, fun ph' v H' I' g V0 => k ph' v H' I' (g2.trans g) ⟨V0.rep.weaken lkB, fun z => by cases z⟩⟩
  exact ⟨h, fun z => (by cases z), rfl, fun z => by cases z⟩
end
end Ev

set_option Elab.async false
set_option linter.all false
set_option maxRecDepth 100000
set_option maxHeartbeats 4000000
namespace Ev
open PySem L2 PyProof.Rows
section
variable {X : Cx} {cl : Calls} {a b c : Expr} {ia ib ic : IE} {pos p : Pos} {es : List Expr} {ies : IEs}

/-! ### argument lists, displays -/
theorem noStars : ∀ {es : List Expr}, es.all plainX = true → ∀ pos, (backTo pos (starEach es X.env)).any (·.1) = false
  | [], _, _ => rfl
  | e :: es, h, pos => by
    rw [List.all_cons, Bool.and_eq_true] at h
    rw [plain_star h.1]
    show (false || (backTo pos (starEach es X.env)).any (·.1)) = false
    rw [noStars h.2 pos]
    rfl
def IEs.len : IEs → Nat
  | .nil => 0
  | .cons _ es => es.len + 1
structure SA (X : Cx) (cl : Calls) (es : List Expr) (ies : IEs) : Prop where
  pa : PA X es (tEs X.K cl ies)
  pl : es.all plainX = true
  ln : es.length = ies.len
theorem sa_nil : SA X cl [] .nil := ⟨pa_nil.imp fun σ H Q q => by
  obtain ⟨F, own, ph, ρ, μ, ds, μ', hK, I, ev, k⟩ := q
  obtain ⟨rfl, rfl⟩ := pure_ok (show (pure [] : M (List D)) μ = .ok ds μ' by simpa [evEs] using ev)
  exact k ph [] H I (Grow.refl _ _) .nil, rfl, rfl⟩
theorem sa_cons (ha : SE X cl a ia) (hr : SA X cl es ies) : SA X cl (a :: es) (.cons ia ies) := by
  refine ⟨(pa_cons ha.pe hr.pa (plain_star ha.pl)).imp fun σ H Q q => ?_, by rw [List.all_cons, ha.pl, hr.pl]; rfl, congrArg Nat.succ hr.ln⟩
  obtain ⟨F, own, ph, ρ, μ, ds, μ', hK, I, ev, k⟩ := q
  obtain ⟨x, μ1, e1, ev⟩ := bind_ok (show (evE F.S (cl F.S) ia ρ >>= fun d => evEs F.S (cl F.S) ies ρ >>= fun ds => pure (d :: ds)) μ = .ok ds μ' by simpa [evEs] using ev)
  obtain ⟨xs, μ2, e2, ev⟩ := bind_ok ev
  obtain ⟨rfl, rfl⟩ := pure_ok ev
  refine one hK I e1 fun ph1 vx H1 I1 g1 rx => ⟨F, own, ph1, ρ, μ1, xs, _, hK, I1, e2, fun ph2 vs H2 I2 g2 rs => ?_⟩
  exact k ph2 (vx :: vs) H2 I2 (g1.trans g2) (.cons ((g2.rep I1.mu rx).weaken lkA) (rs.weaken lkB))
theorem thousand : 1000 ≤ sizeLine := by rw [sizeLine_eq]; decide
theorem s_tup {j : Nat} (h : SA X cl es ies) : SE X cl (.Tuple es j pos) (.tup ies) := by
  have h : PE X (.Tuple es j pos) (tE X.K cl (.tup ies)) := by
    refine (pe_tup h.pa).imp fun σ H Q q => ?_
    obtain ⟨F, own, ph, ρ, μ, d, μ', hK, I, ev, k⟩ := q
    obtain ⟨ds, μ1, e1, ev⟩ := bind_ok (show (evEs F.S (cl F.S) ies ρ >>= fun ds => if ds.length ≤ 1000 then pure (.tup ds) else M.no) μ = .ok d μ' by simpa [evE] using ev)
    split at ev
    · rename_i hz
      obtain ⟨rfl, rfl⟩ := pure_ok ev
      refine ⟨F, own, ph, ρ, μ, ds, _, hK, I, e1, fun ph2 vs H2 I2 g2 rs => ⟨by rw [rs.length]; exact Nat.le_trans hz thousand, fun q hq => newTup I2 g2 hq rs k⟩⟩
    · cases ev
  exact ⟨h, fun _ => pt_of h, rfl, fun z => by cases z⟩
theorem s_lst (h : SA X cl es ies) : SE X cl (.List es pos) (.lst ies) := by
  have h : PE X (.List es pos) (tE X.K cl (.lst ies)) := by
    refine (pe_lst h.pa).imp fun σ H Q q => ?_
    obtain ⟨F, own, ph, ρ, μ, d, μ', hK, I, ev, k⟩ := q
    obtain ⟨ds, μ1, e1, ev⟩ := bind_ok (show (evEs F.S (cl F.S) ies ρ >>= fun ds => if ds.length ≤ 1000 then pure (.lst ds) else M.no) μ = .ok d μ' by simpa [evE] using ev)
    split at ev
    · rename_i hz
      obtain ⟨rfl, rfl⟩ := pure_ok ev
      refine ⟨F, own, ph, ρ, μ, ds, _, hK, I, e1, fun ph2 vs H2 I2 g2 rs => ⟨by rw [rs.length]; exact Nat.le_trans hz thousand, fun q hq => newLst I2 g2 hq rs k⟩⟩
    · cases ev
  exact ⟨h, fun _ => pt_of h, rfl, fun z => by cases z⟩

/-! ### subscripts -/
theorem Reps.atI {sa : Addr} {ph : List Addr} {A : Addr → Prop} {H : Hp} {vs : List V} {ds : List D} {i : Int} {d : D} (r : Reps sa ph A H vs ds) (h : L2.atI ds i = some d) : ∃ v, L2.atI vs i = some v ∧ Rep sa ph A H v d := by
  unfold L2.atI at h ⊢
  rw [r.length]
  obtain ⟨j, h1, h2⟩ := Option.bind_eq_some_iff.mp h
  obtain ⟨v, h3, h4⟩ := r.get h2
  exact ⟨v, by rw [h1]; exact h3, h4⟩
theorem atI_map {S : List Int} {i x : Int} (h : L2.atI S i = some x) : L2.atI (S.map V.int) i = some (.int x) := by
  unfold L2.atI at h ⊢
  rw [List.length_map]
  obtain ⟨j, h1, h2⟩ := Option.bind_eq_some_iff.mp h
  rw [h1]
  show (S.map V.int)[j]? = _
  rw [List.getElem?_map, h2]
  rfl
theorem s_idx (ha : SE X cl a ia) (hb : SE X cl b ib) : SE X cl (.Subscript a b pos) (.idx ia ib) := by
  have h : PE X (.Subscript a b pos) (tE X.K cl (.idx ia ib)) := by
    refine (pe_ix ix_seq ha.pe hb.pe (plain_ix hb.pl)).imp fun σ H Q q => ?_
    obtain ⟨F, own, ph, ρ, μ, d, μ', hK, I, ev, k⟩ := q
    obtain ⟨x, μ1, e1, ev⟩ := bind_ok (show (evE F.S (cl F.S) ia ρ >>= fun x => evE F.S (cl F.S) ib ρ >>= fun y => M.opt (idxD F.S x y)) μ = .ok d μ' by simpa [evE] using ev)
    obtain ⟨y, μ2, e2, ev⟩ := bind_ok ev
    obtain ⟨e3, rfl⟩ := opt_ok ev
    refine two hK I e1 e2 fun ph2 vx vy H2 I2 g2 rx ry => ?_
    cases x <;> cases y <;> simp only [idxD] at e3 <;> try (cases e3; done)
    · -- a text
      split at e3
      · rename_i z i hz
        obtain ⟨cc, e4, rfl⟩ := Option.map_eq_some_iff.mp e3
        cases rx
        cases ry
        exact .inr (.inr ⟨_, _, cc, rfl, rfl, Nat.le_trans hz million, e4, k ph2 _ H2 I2 g2 (val0 (.str _) rfl)⟩)
      · cases e3
    · -- a tuple
      cases ry
      cases rx with
      | tup h1 r1 =>
        obtain ⟨v, h2, h3⟩ := r1.atI e3
        exact .inr (.inl ⟨_, _, _, v, rfl, rfl, SqT.of h1, h2, k ph2 _ H2 I2 g2 ⟨h3, fun z => by cases z⟩⟩)
    · -- a list
      cases ry
      cases rx with
      | lst h1 _ _ r1 =>
        obtain ⟨v, h2, h3⟩ := r1.atI e3
        exact .inl ⟨_, _, _, v, rfl, rfl, SqL.of h1, h2, k ph2 _ H2 I2 g2 ⟨h3, fun z => by cases z⟩⟩
    · -- the script
      obtain ⟨i, e4, rfl⟩ := Option.map_eq_some_iff.mp e3
      cases ry
      cases rx
      exact .inl ⟨_, _, _, _, rfl, rfl, hK ▸ I2.scr.sq, atI_map e4, k ph2 _ H2 I2 g2 (val0 (.int _) rfl)⟩
  exact ⟨h, fun _ => pt_of h, rfl, fun z => by cases z⟩

/-! ### slices -/
def tO (K : PySem.W.Frag) (cl : Calls) (io : IO) : TO := fun σ H Q => ∃ F own ph ρ μ o x μ', F.K = K ∧ Stt F own ph ρ μ σ H ∧ evO F.S (cl F.S) io ρ μ = .ok o μ' ∧ optI o = some x ∧
  ∀ ph' H', Stt F own ph' ρ μ' σ H' → Grow ph H ph' H' → Q x H'
structure SO (X : Cx) (cl : Calls) (e : Option Expr) (io : IO) : Prop where
  po : PO X e (tO X.K cl io)
theorem _root_.L2.PO.imp {X : Cx} {e : Option Expr} {t t' : TO} (h : PO X e t) (hm : ∀ σ H Q, t' σ H Q → t σ H Q) : PO X e t' := ⟨fun pins s σ H Q I q => h.run pins s σ H Q I (hm σ H Q q)⟩
theorem so_none : SO X cl none .none := ⟨po_none.imp fun σ H Q q => by
  obtain ⟨F, own, ph, ρ, μ, o, x, μ', hK, I, ev, e, k⟩ := q
  obtain ⟨rfl, rfl⟩ := pure_ok (show (pure none : M (Option D)) μ = .ok o μ' by simpa [evO] using ev)
  cases e
  exact k ph H I (Grow.refl _ _)⟩
theorem so_some (ha : SE X cl a ia) : SO X cl (some a) (.some ia) := ⟨(po_some ha.pe).imp fun σ H Q q => by
  obtain ⟨F, own, ph, ρ, μ, o, x, μ', hK, I, ev, e, k⟩ := q
  obtain ⟨d, μ1, e1, ev⟩ := bind_ok (show (evE F.S (cl F.S) ia ρ >>= fun d => pure (some d)) μ = .ok o μ' by simpa [evO] using ev)
  obtain ⟨rfl, rfl⟩ := pure_ok ev
  refine one hK I e1 fun ph2 vx H2 I2 g2 rx => ?_
  cases d <;> simp only [optI] at e <;> try (cases e; done)
  cases e
  cases rx
  exact ⟨_, rfl, k ph2 H2 I2 g2⟩⟩
theorem Reps.cut {sa : Addr} {ph : List Addr} {A : Addr → Prop} {H : Hp} {vs : List V} {ds : List D} (r : Reps sa ph A H vs ds) (lo hi : Option Int) : Reps sa ph A H (cutV vs lo hi) (cutD ds lo hi) := by
  unfold cutV cutD
  rw [r.length]
  exact (r.drop _).take _
theorem cut_whole {vs : List D} {lo hi : Option Int} (h : HT.sIx vs.length 0 lo = 0 ∧ HT.sIx vs.length vs.length hi = vs.length) : cutD vs lo hi = vs := by
  unfold cutD
  rw [h.1, h.2, List.drop_zero, Nat.sub_zero, List.take_length]
theorem s_slice {l h : Option Expr} {il ih : IO} {p2 : Pos} (ha : SE X cl a ia) (hl : SO X cl l il) (hh : SO X cl h ih) : SE X cl (.Subscript a (.Slice l h none p2) pos) (.slice ia il ih) := by
  have h : PE X (.Subscript a (.Slice l h none p2) pos) (tE X.K cl (.slice ia il ih)) := by
    refine (pe_slice (sl_list.or sl_tupA) ha.pe hl.po hh.po).imp fun σ H Q q => ?_
    obtain ⟨F, own, ph, ρ, μ, d, μ', hK, I, ev, k⟩ := q
    obtain ⟨x, μ1, e1, ev⟩ := bind_ok (show (evE F.S (cl F.S) ia ρ >>= fun x => evO F.S (cl F.S) il ρ >>= fun l => M.opt (optI l) >>= fun l => evO F.S (cl F.S) ih ρ >>= fun h => M.opt (optI h) >>= fun h => M.opt (sliceD x l h)) μ = .ok d μ' by simpa [evE] using ev)
    obtain ⟨l1, μ2, e2, ev⟩ := bind_ok ev
    obtain ⟨l2, μ3, e3, ev⟩ := bind_ok ev
    obtain ⟨e3', e3''⟩ := opt_ok e3
    subst e3''
    obtain ⟨h1, μ4, e4, ev⟩ := bind_ok ev
    obtain ⟨h2, μ5, e5, ev⟩ := bind_ok ev
    obtain ⟨e5', e5''⟩ := opt_ok e5
    subst e5''
    obtain ⟨e6, e6'⟩ := opt_ok ev
    subst e6'
    refine one hK I e1 fun ph2 vx H2 I2 g2 rx => ⟨F, own, ph2, ρ, μ1, l1, l2, _, hK, I2, e2, e3', fun ph3 H3 I3 g3 => ⟨F, own, ph3, ρ, _, h1, h2, _, hK, I3, e4, e5', fun ph4 H4 I4 g4 => ?_⟩⟩
    have g := (g2.trans g3).trans g4
    have rx := g4.rep I3.mu (g3.rep I2.mu rx)
    cases x <;> simp only [sliceD] at e6 <;> try (cases e6; done)
    · cases e6
      cases rx with
      | tup q1 r1 =>
        refine .inr ⟨_, _, rfl, SqT.of q1, fun hw => ?_, fun hw p hp => newTup I4 g hp (r1.cut l2 h2) k⟩
        rw [r1.length] at hw
        rw [cut_whole hw] at k
        exact k ph4 _ H4 I4 g (val0 (.tup q1 r1) rfl)
    · cases e6
      cases rx with
      | lst q1 _ _ r1 => exact .inl ⟨_, _, rfl, SqL.of q1, fun p hp => newLst I4 g hp (r1.cut l2 h2) k⟩
  exact ⟨h, fun _ => pt_of h, rfl, fun z => by cases z⟩

/-! ### t[::-1] of a tuple (the list's rule: HandS.Style) -/
theorem sliceApplied_rev {prog : Program} {w : World} {A : Around} {E : Value → Shared → Prop} {s : Shared} {sl : Addr} {vl vu vs : Value} {n : Nat} {Q : Int × Int × Nat → Shared → Prop} (hs : s.heap.IsSliceOf sl vl vu vs) (pl : IsPart vl none) (pu : IsPart vu none) (ps : IsPart vs (some (-1)))
    (h : Q ((n : Int) - 1, -1, n) s) : wpAny (model prog w) A (Builtin.Slice.sliceApplied (.ref sl) (pure (n : Int))) Q E s := by
  obtain ⟨os, hos, hcs, hds⟩ := id hs
  unfold Builtin.Slice.sliceApplied Builtin.Slice.sliceFields
  refine wpAny_bind (wpAny_bind (wpAny_field hos hds (x := vl) rfl (wpAny_bind (wpAny_field hos hds (x := vu) rfl (wpAny_bind (wpAny_field hos hds (x := vs) rfl (wpAny_pure ?_)))))))
  refine wpAny_bind (HT.slicePart_ ps ?_)
  show wpAny _ _ (if ((-1 : Int) == 0) = true then _ else _) _ _ s
  rw [if_neg (by decide)]
  refine wpAny_bind (HT.slicePart_ pl (wpAny_bind (HT.slicePart_ pu (wpAny_bind (wpAny_pure ?_)))))
  show wpAny _ _ (match Builtin.Slice.sliceAdjust none none (-1) (n : Int) with | (lo, hi) => pure (lo, (-1 : Int), Builtin.Slice.slicePlaces lo hi (-1))) _ _ s
  have e1 : Builtin.Slice.sliceAdjust none none (-1) (n : Int) = ((n : Int) - 1, -1) := rfl
  rw [e1]
  have e2 : Builtin.Slice.slicePlaces ((n : Int) - 1) (-1) (-1) = n := by
    unfold Builtin.Slice.slicePlaces
    rw [if_neg (by decide)]
    split
    · rw [show (-(-1) : Int) = 1 by decide, Int.ediv_one]; omega
    · omega
  show wpAny _ _ (pure ((n : Int) - 1, (-1 : Int), Builtin.Slice.slicePlaces ((n : Int) - 1) (-1) (-1))) _ _ s
  rw [e2]
  exact wpAny_pure h
theorem fm_congr {α β : Type} {f g : α → Option β} : ∀ {l : List α}, (∀ x ∈ l, f x = g x) → l.filterMap f = l.filterMap g
  | [], _ => rfl
  | x :: r, h => by
    rw [List.filterMap_cons, List.filterMap_cons, h x (by simp), fm_congr fun y hy => h y (by simp [hy])]
theorem pick_rev (xs : Array Value) : ((List.range xs.size).filterMap fun (m : Nat) => xs[(((xs.size : Nat) : Int) - 1 + (m : Int) * (-1)).toNat]?).toArray = xs.toList.reverse.toArray := by
  have e : (List.range xs.size).filterMap (fun (m : Nat) => xs[(((xs.size : Nat) : Int) - 1 + (m : Int) * (-1)).toNat]?) = ((List.range xs.size).map (fun k => xs.size - 1 - k)).filterMap (xs[·]?) := by
    rw [List.filterMap_map]
    apply fm_congr
    intro m hm
    have := List.mem_range.mp hm
    show xs[(((xs.size : Nat) : Int) - 1 + (m : Int) * (-1)).toNat]? = xs[xs.size - 1 - m]?
    have : (((xs.size : Nat) : Int) - 1 + (m : Int) * (-1)).toNat = xs.size - 1 - m := by omega
    rw [this]
  rw [e, PySem.W.krv_range, List.filterMap_reverse, PySem.W.krv_all]
theorem getItem_tuple_rev {prog : Program} {w : World} {A : Around} {E : Value → Shared → Prop} {s : Shared} {t sl : Addr} {items : Array Value} {vl vu vs : Value} {Q : Value → Shared → Prop} (ht : IsTup s.heap t items) (hs : s.heap.IsSliceOf sl vl vu vs) (pl : IsPart vl none) (pu : IsPart vu none) (ps : IsPart vs (some (-1)))
    (h : Q (.ref s.heap.objs.size) { s with heap := s.heap.push { cls := .type "tuple", data := .seq items.toList.reverse.toArray } })
    (hsz : items.size ≤ sizeLine) : wpAny (model prog w) A (getItem (.ref t) (.ref sl)) Q E s := by
  have htake : sizeOk (.seq items.toList.reverse.toArray) := by
    show items.toList.reverse.toArray.size ≤ sizeLine
    rw [List.size_toArray, List.length_reverse, Array.length_toList]
    omega
  obtain ⟨os, hos, hcs, hds⟩ := id hs
  have hTs : s.TypeIs (.ref sl) "slice" := ⟨os, hos, hcs⟩
  unfold getItem
  try with_reducible refine wpAny_holding ?_
  first | refine wpAny_bind (wpAny_pure ?_) | skip
  refine wpAny_bind (wpAny_sequenceKey ht.typeIs (by decide) ?_)
  refine wpAny_bind (wpAny_callSpecial?_slot (name := Str.ofString "__getitem__") ht.typeIs PyProof.Rows.slot_tuple_getitem
    (wpAny_call_entry PyProof.Rows.slot_tuple_getitem ht.typeIs entry_tuple_getitem ?_ (args_tuple_getitem _ _)))
  show wpAny _ _ (Builtin.Tuple.tupleItemsOf (.ref t) >>= _) _ _ s
  refine wpAny_bind (tupleItemsOf_ ht ?_)
  refine wpAny_bind (wpAny_typeOf hTs ?_)
  rw [if_pos (by decide)]
  refine wpAny_bind (sliceApplied_rev hs pl pu ps ?_)
  have hno : ¬ ((((items.size : Nat) : Int) - 1 == 0 && (-1 : Int) == 1 && items.size == items.size) = true) := by
    intro q
    rw [Bool.and_eq_true, Bool.and_eq_true] at q
    exact absurd q.1.2 (by decide)
  show wpAny _ _ (if (((items.size : Nat) : Int) - 1 == 0 && (-1 : Int) == 1 && items.size == items.size) = true then _ else _) _ _ s
  rw [if_neg hno, pick_rev]
  first
    | exact wpAny_bind (m := Builtin.Tuple.tupleExact _) (wpAny_newObj_type (wpAny_pure ⟨_, rfl, wpAny_pure h⟩) htake)
    | exact wpAny_bind (m := Builtin.Tuple.tupleExact _) (wpAny_newObj_type (wpAny_bind (wpAny_pure (wpAny_pure ⟨_, rfl, wpAny_pure h⟩))) htake)
    | exact wpAny_bind (wpAny_bind (m := Builtin.Tuple.tupleExact _) (wpAny_newObj_type (wpAny_pure (wpAny_pure ⟨_, rfl, wpAny_pure h⟩)) htake))
    | exact wpAny_bind (wpAny_bind (m := Builtin.Tuple.tupleExact _) (wpAny_newObj_type (wpAny_pure ⟨_, rfl, wpAny_pure h⟩) htake))
def tRevA (K : PySem.W.Frag) (te : TE) : TE := fun σ H Q => te σ H fun x H1 => ∃ a xs, x = .ref a ∧ ((SqL K H1 a xs ∧ ∀ p, H1 p = none → Q (.ref p) (upd H1 p (.lst xs.reverse))) ∨ (SqT K H1 a xs ∧ ∀ p, H1 p = none → Q (.ref p) (upd H1 p (.tup xs.reverse))))
theorem pe_revA {e : Expr} {te : TE} {k : Nat} {p1 p2 p3 pos : Pos} (he : PE X e te) : PE X (.Subscript e (.Slice none none (some (.UnaryOp .USub (.Constant (.int 1) k p1) p2)) p3) pos) (tRevA X.K te) := by
  refine ⟨fun pins s σ H Q I h => ?_⟩
  refine Subscript_ (thn (he.run pins s σ H _ I h) fun v s1 ⟨x, H1, I1, r1, q1⟩ => ?_)
  obtain ⟨a, xs, ex, hx⟩ := q1
  subst ex
  cases r1
  have hst : PO X (some (.UnaryOp .USub (.Constant (.int 1) k p1) p2)) (tPart (tUn (rU fun i => .int (-i)) (tC (.int 1)))) := po_some (pe_un un_neg pe_int)
  refine wpAny_Slice (thn (po_none.run pins s1 σ H1 (fun o H2 => o = none ∧ H2 = H1) I1 ⟨rfl, rfl⟩) fun vl s2 ⟨l, H2, I2, pl, el, e2⟩ => ?_)
  subst el e2
  refine thn (po_none.run pins s2 σ H2 (fun o H3 => o = none ∧ H3 = H2) I2 ⟨rfl, rfl⟩) fun vu s3 ⟨u, H3, I3, pu, eu, e3⟩ => ?_
  subst eu e3
  refine thn (hst.run pins s3 σ H3 (fun o H4 => o = some (-1) ∧ H4 = H3) I3 ⟨1, rfl, -1, rfl, rfl, rfl⟩) fun vs s4 ⟨o, H4, I4, ps, eo, e4⟩ => ?_
  subst eo e4
  have I5 : Inv X pins σ H4 { s4 with heap := s4.heap.push { cls := .type "slice", data := .fields #[vl, vu, vs] } } := I4.kept (t' := s4.toks) fun b ob q => Heap.get?_push_of_some _ q
  rcases hx with ⟨hx, q⟩ | ⟨hx, q⟩
  · obtain ⟨its, r, ht, hz⟩ := I5.list hx
    have hlen := r.length
    show wpAny (model X.prog X.w) X.A (subscriptTail e (.Slice none none (some (.UnaryOp .USub (.Constant (.int 1) k p1) p2)) p3) (.ref a) (.ref s4.heap.objs.size)) (EP X pins σ Q) X.xe { s4 with heap := s4.heap.push { cls := .type "slice", data := .fields #[vl, vu, vs] } }
    refine tail_any (ops := [.ref a, .ref s4.heap.objs.size]) ht.isList.typeIs (PySem.slot_list_getitem.lookup) ?_ (by with_unfolding_all rfl)
    refine wpAny_getItem_list_slice ht.isList (Heap.IsSliceOf.new _ vl vu vs) pl pu ps (by decide) ?_ (by rw [List.size_toArray]; omega)
    rw [PySem.W.krv_pick]
    refine ⟨.ref _, _, I5.laid (t' := s4.toks) (o := .lst xs.reverse) (fun b ob q => Heap.get?_push_of_some _ q) (Nat.le_refl _) ?_, rfl, q _ (I5.hok.fresh (Nat.le_refl _))⟩
    exact ⟨by rw [List.length_reverse]; exact hz, _, 0, r.reverse, Heap.get?_push_size _ rfl⟩
  · obtain ⟨its, r, ht, hz⟩ := I5.tuple hx
    have hlen := r.length
    show wpAny (model X.prog X.w) X.A (subscriptTail e (.Slice none none (some (.UnaryOp .USub (.Constant (.int 1) k p1) p2)) p3) (.ref a) (.ref s4.heap.objs.size)) (EP X pins σ Q) X.xe { s4 with heap := s4.heap.push { cls := .type "slice", data := .fields #[vl, vu, vs] } }
    refine tail_any (ops := [.ref a, .ref s4.heap.objs.size]) ht.typeIs (PyProof.Rows.slot_tuple_getitem.lookup) ?_ (by with_unfolding_all rfl)
    refine getItem_tuple_rev ht (Heap.IsSliceOf.new _ vl vu vs) pl pu ps ?_ (by rw [List.size_toArray]; omega)
    refine ⟨.ref _, _, I5.laid (t' := s4.toks) (o := .tup xs.reverse) (fun b ob q => Heap.get?_push_of_some _ q) (Nat.le_refl _) ?_, rfl, q _ (I5.hok.fresh (Nat.le_refl _))⟩
    exact ⟨by rw [List.length_reverse]; exact hz, its.reverse, r.reverse, ⟨_, Heap.get?_push_size _ rfl, rfl, _, rfl⟩⟩
theorem s_rev {k : Nat} {p1 p2 p3 : Pos} (ha : SE X cl a ia) : SE X cl (.Subscript a (.Slice none none (some (.UnaryOp .USub (.Constant (.int 1) k p1) p2)) p3) pos) (.rev ia) := by
  have h : PE X (.Subscript a (.Slice none none (some (.UnaryOp .USub (.Constant (.int 1) k p1) p2)) p3) pos) (tE X.K cl (.rev ia)) := by
    refine (pe_revA ha.pe).imp fun σ H Q q => ?_
    obtain ⟨F, own, ph, ρ, μ, d, μ', hK, I, ev, k⟩ := q
    obtain ⟨x, μ1, e1, ev⟩ := bind_ok (show (evE F.S (cl F.S) ia ρ >>= fun x => M.opt (revD x)) μ = .ok d μ' by simpa [evE] using ev)
    obtain ⟨e3, rfl⟩ := opt_ok ev
    refine one hK I e1 fun ph2 vx H2 I2 g2 rx => ?_
    cases x <;> simp only [revD] at e3 <;> try (cases e3; done)
    · cases e3
      cases rx with
      | tup q1 r1 => exact ⟨_, _, rfl, .inr ⟨SqT.of q1, fun p hp => newTup I2 g2 hp r1.reverse k⟩⟩
    · cases e3
      cases rx with
      | lst q1 _ _ r1 => exact ⟨_, _, rfl, .inl ⟨SqL.of q1, fun p hp => newLst I2 g2 hp r1.reverse k⟩⟩
  exact ⟨h, fun _ => pt_of h, rfl, fun z => by cases z⟩
end
end Ev

set_option Elab.async false
set_option linter.all false
set_option maxRecDepth 100000
set_option maxHeartbeats 4000000
namespace Ev
open PySem L2 PyProof.Rows
section
variable {X : Cx} {cl : Calls} {a b c : Expr} {ia ib ic : IE} {pos p : Pos} {es : List Expr} {ies : IEs}
/-! ### built-ins of one argument -/
/-- sum(t) of a tuple of ints -/
def rSumT (K : PySem.W.Frag) : List V → Hp → VK → Prop := fun vs H Q => ∃ (a : Addr) (ns : List Int), vs = [V.ref a] ∧ SqT K H a (ns.map V.int) ∧ Q (.int ns.sum) H
theorem cr_sumT (hc : X.calm = true) : CallR X (.builtin "sum") (rSumT X.K) := by
  intro pins s σ H vs us Q I r h
  obtain ⟨a, ns, rfl, hs, q⟩ := h
  obtain ⟨its, rv, ht, hz⟩ := I.tuple hs
  rw [Vals.ref1 r]
  have hi : IntsAre its ns := intsAre_of rv
  have hl : s.heap.IsTuple a its.toArray := ht
  obtain ⟨xs, hx⟩ := hi.allInts.items
  have hn : numsOf its.toArray.toList = ns := by rw [show its.toArray.toList = its from rfl, hi.numsOf]
  rw [hx] at hl hn
  rw [nums_intItems] at hn
  refine PySem.W.ktm_sumG (I.ok.hd hc) hl fun h' tk t' hk => ?_
  refine ⟨.int ns.sum, H, I.kept hk, ⟨t', ?_⟩, q⟩
  rw [preSum_eq, List.take_of_length_le (by simp), hn]
/-- min(xs), max(xs) -/
theorem minI_mem : ∀ {is : List Int} {m : Int}, minI is = some m → m ∈ is ∧ ∀ y ∈ is, m ≤ y
  | [], _, h => by cases h
  | [x], m, h => by
    have : x = m := Option.some.inj h
    subst this
    exact ⟨by simp, fun y hy => by simp at hy; omega⟩
  | x :: y :: r, m, h => by
    obtain ⟨k, h1, h2⟩ := Option.map_eq_some_iff.mp (show (minI (y :: r)).map (fun m => if m < x then m else x) = some m from h)
    obtain ⟨h3, h4⟩ := minI_mem h1
    by_cases hk : k < x
    · rw [if_pos hk] at h2
      subst h2
      exact ⟨List.mem_cons_of_mem _ h3, fun z hz => by
        rcases List.mem_cons.mp hz with rfl | hz
        · omega
        · exact h4 z hz⟩
    · rw [if_neg hk] at h2
      subst h2
      exact ⟨by simp, fun z hz => by
        rcases List.mem_cons.mp hz with rfl | hz
        · omega
        · have := h4 z hz; omega⟩
theorem maxI_mem : ∀ {is : List Int} {m : Int}, maxI is = some m → m ∈ is ∧ ∀ y ∈ is, y ≤ m
  | [], _, h => by cases h
  | [x], m, h => by
    have : x = m := Option.some.inj h
    subst this
    exact ⟨by simp, fun y hy => by simp at hy; omega⟩
  | x :: y :: r, m, h => by
    obtain ⟨k, h1, h2⟩ := Option.map_eq_some_iff.mp (show (maxI (y :: r)).map (fun m => if x < m then m else x) = some m from h)
    obtain ⟨h3, h4⟩ := maxI_mem h1
    by_cases hk : x < k
    · rw [if_pos hk] at h2
      subst h2
      exact ⟨List.mem_cons_of_mem _ h3, fun z hz => by
        rcases List.mem_cons.mp hz with rfl | hz
        · omega
        · exact h4 z hz⟩
    · rw [if_neg hk] at h2
      subst h2
      exact ⟨by simp, fun z hz => by
        rcases List.mem_cons.mp hz with rfl | hz
        · omega
        · have := h4 z hz; omega⟩
/-- two sorted arrangements are one -/
theorem sorted_same : ∀ {xs ys : List Int}, xs.Perm ys → xs.Pairwise (· ≤ ·) → ys.Pairwise (· ≤ ·) → xs = ys := by
  intro xs
  induction xs with
  | nil => intro ys h _ _; exact (List.nil_perm.mp h).symm
  | cons x r ih =>
    intro ys h h1 h2
    cases ys with
    | nil => exact absurd h.symm (by simp)
    | cons y t =>
      have e : x = y := by
        have a1 : x ∈ y :: t := h.subset (by simp)
        have a2 : y ∈ x :: r := h.symm.subset (by simp)
        have b1 : y ≤ x := by
          rcases List.mem_cons.mp a1 with e | m
          · omega
          · exact (List.pairwise_cons.mp h2).1 x m
        have b2 : x ≤ y := by
          rcases List.mem_cons.mp a2 with e | m
          · omega
          · exact (List.pairwise_cons.mp h1).1 y m
        omega
      subst e
      rw [ih (List.Perm.cons_inv h) (List.pairwise_cons.mp h1).2 (List.pairwise_cons.mp h2).2]
theorem insI_perm (x : Int) : ∀ l : List Int, (insI x l).Perm (x :: l)
  | [] => List.Perm.refl _
  | y :: r => by
    unfold insI
    split
    · exact List.Perm.refl _
    · exact ((insI_perm x r).cons y).trans (List.Perm.swap x y r)
theorem insI_sorted (x : Int) : ∀ l : List Int, l.Pairwise (· ≤ ·) → (insI x l).Pairwise (· ≤ ·)
  | [], _ => by simp [insI]
  | y :: r, h => by
    unfold insI
    obtain ⟨h1, h2⟩ := List.pairwise_cons.mp h
    split
    · rename_i hxy
      exact List.pairwise_cons.mpr ⟨fun z hz => by
        rcases List.mem_cons.mp hz with rfl | hz
        · exact hxy
        · have := h1 z hz; omega, h⟩
    · rename_i hxy
      refine List.pairwise_cons.mpr ⟨fun z hz => ?_, insI_sorted x r h2⟩
      rcases List.mem_cons.mp ((insI_perm x r).subset hz) with rfl | hz
      · omega
      · exact h1 z hz
theorem sortI_perm : ∀ l : List Int, (sortI l).Perm l
  | [] => List.Perm.refl _
  | x :: r => (insI_perm x (sortI r)).trans ((sortI_perm r).cons x)
theorem sortI_sorted : ∀ l : List Int, (sortI l).Pairwise (· ≤ ·)
  | [] => by simp [sortI]
  | x :: r => insI_sorted x _ (sortI_sorted r)

/-- a built-in of one argument: its rule by values, from what b1M says -/
def B1Ok (X : Cx) (o : B1) (r : List V → Hp → VK → Prop) : Prop := ∀ {F : Fx} {own : Nat → Option Addr} {ph ph2 : List Addr} {ρ : Env} {μ2 μ3 : Mu} {σ : L2.St} {H H2 : Hp} {L : List Nat} {vx : V} {x d : D} {Q : VK}, F.K = X.K → Stt F own ph2 ρ μ2 σ H2 → Grow ph H ph2 H2 →
  Rep F.sa ph2 (Av F own L) H2 vx x → b1M F.S o x μ2 = .ok d μ3 → (∀ ph' v H', Stt F own ph' ρ μ3 σ H' → Grow ph H ph' H' → Val F own L true H ph' H' v d → Q v H') → r [vx] H2 Q
theorem Val.any {F : Fx} {own : Nat → Option Addr} {L : List Nat} {nw : Bool} {H H' : Hp} {ph' : List Addr} {v : V} {d : D} (h : Val F own L true H ph' H' v d) : Val F own L nw H ph' H' v d := ⟨h.rep, fun _ => h.new rfl⟩
theorem s_b1c {o : B1} {x : Str} {r : List V → Hp → VK → Prop} (hk : B1Ok X o r) (hp : PE X (.Call (.Name x p) [a] [] pos) (tCB r (tCons (tE X.K cl ia) tNil))) : SE X cl (.Call (.Name x p) [a] [] pos) (.b1 o ia) := by
  have h : PE X (.Call (.Name x p) [a] [] pos) (tE X.K cl (.b1 o ia)) := by
    refine hp.imp fun σ H Q q => ?_
    obtain ⟨F, own, ph, ρ, μ, d, μ', hK, I, ev, k⟩ := q
    obtain ⟨x, μ1, e1, ev⟩ := bind_ok (show (evE F.S (cl F.S) ia ρ >>= fun x => b1M F.S o x) μ = .ok d μ' by simpa [evE] using ev)
    exact one hK I e1 fun ph2 vx H2 I2 g2 rx => hk hK I2 g2 rx ev fun ph' v H' I' g V0 => k ph' v H' I' g V0.any
  exact ⟨h, fun _ => pt_of h, rfl, fun z => by cases z⟩
theorem b1_len : B1Ok X .len (fun xs H Q => ∃ x n, xs = [x] ∧ LenV X.K x H n ∧ Q (.int n) H) := by
  intro F own ph ph2 ρ μ2 μ3 σ H H2 L vx x d Q hK I g rx ev k
  cases x with
  | tup ds =>
    obtain ⟨rfl, rfl⟩ := pure_ok (show (pure (.int ds.length) : M D) μ2 = .ok d μ3 from ev)
    cases rx with
    | tup q1 r1 => exact ⟨.ref _, ds.length, rfl, Or.inr ⟨_, SqT.of q1, r1.length.symm⟩, k ph2 _ H2 I g (val0 (.int _) rfl)⟩
  | lst ds =>
    obtain ⟨rfl, rfl⟩ := pure_ok (show (pure (.int ds.length) : M D) μ2 = .ok d μ3 from ev)
    cases rx with
    | lst q1 _ _ r1 => exact ⟨.ref _, ds.length, rfl, Or.inl ⟨_, SqL.of q1, r1.length.symm⟩, k ph2 _ H2 I g (val0 (.int _) rfl)⟩
  | scr =>
    obtain ⟨rfl, rfl⟩ := pure_ok (show (pure (.int F.S.length) : M D) μ2 = .ok d μ3 from ev)
    cases rx
    exact ⟨.ref _, F.S.length, rfl, Or.inl ⟨_, hK ▸ I.scr.sq, (List.length_map _).symm⟩, k ph2 _ H2 I g (val0 (.int _) rfl)⟩
  | mref n =>
    have ev : (match muLst μ2 n with | some ds => R.ok (D.int ds.length) μ2 | none => R.bad) = .ok d μ3 := ev
    cases hq : muLst μ2 n with
    | none => rw [hq] at ev; cases ev
    | some ds =>
      rw [hq] at ev
      cases ev
      unfold muLst at hq
      cases hm : μ2[n]? with
      | none => rw [hm] at hq; cases hq
      | some mo =>
        rw [hm] at hq
        cases mo with
        | lst es =>
          have hq : es = ds := Option.some.inj hq
          subst hq
          cases rx with
          | mref e =>
            obtain ⟨vs, q1, r1⟩ := I.mu.mo n _ _ e hm
            exact ⟨.ref _, es.length, rfl, Or.inl ⟨_, SqL.of q1, r1.length.symm⟩, k ph2 _ H2 I g (val0 (.int _) rfl)⟩
  | non => cases ev
  | bl _ => cases ev
  | int _ => cases ev
  | str _ => cases ev
theorem b1_abs : B1Ok X .abs (fun xs H Q => ∃ i, xs = [.int i] ∧ Q (.int (if i < 0 then -i else i)) H) := by
  intro F own ph ph2 ρ μ2 μ3 σ H H2 L vx x d Q hK I g rx ev k
  cases x <;> simp only [b1M] at ev <;> try (cases ev; done)
  obtain ⟨rfl, rfl⟩ := pure_ok ev
  cases rx
  exact ⟨_, rfl, k ph2 _ H2 I g (val0 (.int _) rfl)⟩
theorem b1_int : B1Ok X .int (fun xs H Q => (∃ i, xs = [.int i] ∧ Q (.int i) H) ∨ ∃ k, xs = [.bl k] ∧ Q (.int (if k then 1 else 0)) H) := by
  intro F own ph ph2 ρ μ2 μ3 σ H H2 L vx x d Q hK I g rx ev k
  cases x <;> simp only [b1M] at ev <;> try (cases ev; done)
  · obtain ⟨rfl, rfl⟩ := pure_ok ev
    cases rx
    exact .inr ⟨_, rfl, k ph2 _ H2 I g (val0 (.int _) rfl)⟩
  · obtain ⟨rfl, rfl⟩ := pure_ok ev
    cases rx
    exact .inl ⟨_, rfl, k ph2 _ H2 I g (val0 (.int _) rfl)⟩
theorem b1_sum : B1Ok X .sum (fun vs H Q => rSum X.K vs H Q ∨ rSumT X.K vs H Q) := by
  intro F own ph ph2 ρ μ2 μ3 σ H H2 L vx x d Q hK I g rx ev k
  obtain ⟨e, rfl⟩ := opt_ok (show M.opt ((items x).bind fun xs => (intsOf xs).map fun is => .int is.sum) μ2 = .ok d μ3 from ev)
  obtain ⟨xs, e1, e⟩ := Option.bind_eq_some_iff.mp e
  obtain ⟨is, e2, rfl⟩ := Option.map_eq_some_iff.mp e
  cases x <;> simp only [items] at e1 <;> try (cases e1; done)
  · cases e1
    cases rx with
    | tup q1 r1 =>
      rw [r1.intsV e2] at q1
      exact .inr ⟨_, is, rfl, SqT.of q1, k ph2 _ H2 I g (val0 (.int _) rfl)⟩
  · cases e1
    cases rx with
    | lst q1 _ _ r1 =>
      rw [r1.intsV e2] at q1
      exact .inl ⟨_, is, rfl, SqL.of q1, k ph2 _ H2 I g (val0 (.int _) rfl)⟩
theorem b1_min : B1Ok X .min (rMin X.K) := by
  intro F own ph ph2 ρ μ2 μ3 σ H H2 L vx x d Q hK I g rx ev k
  cases x <;> simp only [b1M] at ev <;> try (cases ev; done)
  obtain ⟨e, rfl⟩ := opt_ok ev
  obtain ⟨is, e2, e⟩ := Option.bind_eq_some_iff.mp e
  obtain ⟨m, e3, rfl⟩ := Option.map_eq_some_iff.mp e
  cases rx with
  | lst q1 _ _ r1 =>
    rw [r1.intsV e2] at q1
    obtain ⟨h1, h2⟩ := minI_mem e3
    refine ⟨_, is, rfl, SqL.of q1, List.length_pos_of_mem h1, fun m' h3 h4 => ?_⟩
    have : m' = m := by
      have a1 := h2 m' h3
      have a2 := h4 m h1
      omega
    subst this
    exact k ph2 _ H2 I g (val0 (.int _) rfl)
theorem b1_max : B1Ok X .max (rMax X.K) := by
  intro F own ph ph2 ρ μ2 μ3 σ H H2 L vx x d Q hK I g rx ev k
  cases x <;> simp only [b1M] at ev <;> try (cases ev; done)
  obtain ⟨e, rfl⟩ := opt_ok ev
  obtain ⟨is, e2, e⟩ := Option.bind_eq_some_iff.mp e
  obtain ⟨m, e3, rfl⟩ := Option.map_eq_some_iff.mp e
  cases rx with
  | lst q1 _ _ r1 =>
    rw [r1.intsV e2] at q1
    obtain ⟨h1, h2⟩ := maxI_mem e3
    refine ⟨_, is, rfl, SqL.of q1, List.length_pos_of_mem h1, fun m' h3 h4 => ?_⟩
    have : m' = m := by
      have a1 := h2 m' h3
      have a2 := h4 m h1
      omega
    subst this
    exact k ph2 _ H2 I g (val0 (.int _) rfl)
theorem b1_all : B1Ok X .all (rAll X.K) := by
  intro F own ph ph2 ρ μ2 μ3 σ H H2 L vx x d Q hK I g rx ev k
  cases x <;> simp only [b1M] at ev <;> try (cases ev; done)
  obtain ⟨e, rfl⟩ := opt_ok ev
  obtain ⟨is, e2, rfl⟩ := Option.map_eq_some_iff.mp e
  cases rx with
  | lst q1 _ _ r1 =>
    rw [r1.blsV e2] at q1
    exact ⟨_, is, rfl, SqL.of q1, k ph2 _ H2 I g (val0 (.bl _) rfl)⟩
theorem b1_list : B1Ok X .list (fun xs H Q => ∃ p ys, xs = [.ref p] ∧ (SqL X.K H p ys ∨ SqT X.K H p ys) ∧ ∀ l, H l = none → Q (.ref l) (upd H l (.lst ys))) := by
  intro F own ph ph2 ρ μ2 μ3 σ H H2 L vx x d Q hK I g rx ev k
  obtain ⟨e, rfl⟩ := opt_ok (show M.opt ((items x).map .lst) μ2 = .ok d μ3 from ev)
  obtain ⟨xs, e1, rfl⟩ := Option.map_eq_some_iff.mp e
  cases x <;> simp only [items] at e1 <;> try (cases e1; done)
  · cases e1
    cases rx with
    | tup q1 r1 => exact ⟨_, _, rfl, .inr (SqT.of q1), fun l hl => newLst I g hl r1 k⟩
  · cases e1
    cases rx with
    | lst q1 _ _ r1 => exact ⟨_, _, rfl, .inl (SqL.of q1), fun l hl => newLst I g hl r1 k⟩
theorem b1_tuple : B1Ok X .tuple (fun xs H Q => ∃ p ys, xs = [.ref p] ∧ ((SqL X.K H p ys ∧ ∀ l, H l = none → Q (.ref l) (upd H l (.tup ys))) ∨ (SqT X.K H p ys ∧ Q (.ref p) H))) := by
  intro F own ph ph2 ρ μ2 μ3 σ H H2 L vx x d Q hK I g rx ev k
  obtain ⟨e, rfl⟩ := opt_ok (show M.opt ((items x).map .tup) μ2 = .ok d μ3 from ev)
  obtain ⟨xs, e1, rfl⟩ := Option.map_eq_some_iff.mp e
  cases x <;> simp only [items] at e1 <;> try (cases e1; done)
  · cases e1
    cases rx with
    | tup q1 r1 => exact ⟨_, _, rfl, .inr ⟨SqT.of q1, k ph2 _ H2 I g (val0 (.tup q1 r1) rfl)⟩⟩
  · cases e1
    cases rx with
    | lst q1 _ _ r1 => exact ⟨_, _, rfl, .inl ⟨SqL.of q1, fun l hl => newTup I g hl r1 k⟩⟩
def bNm : B1 → Str
  | .len => "len" | .sum => "sum" | .abs => "abs" | .list => "list" | .tuple => "tuple" | .int => "int" | .all => "all" | .sorted => "sorted" | .min => "min" | .max => "max"
theorem boot_max : bootBuiltins "max" = some (.builtin "max") := by decide +kernel
theorem boot_min : bootBuiltins "min" = some (.builtin "min") := by decide +kernel
theorem boot_all : bootBuiltins "all" = some (.builtin "all") := by decide +kernel
theorem boot_absE : bootBuiltins "abs" = some (.builtin "abs") := by decide +kernel
theorem boot_intE : bootBuiltins "int" = some (.type "int") := by decide +kernel
theorem boot_sumE : bootBuiltins "sum" = some (.builtin "sum") := by decide +kernel
theorem boot_listE : bootBuiltins "list" = some (.type "list") := by decide +kernel
theorem boot_tupleE : bootBuiltins "tuple" = some (.type "tuple") := by decide +kernel
theorem boot_isi : bootBuiltins "isinstance" = some (.builtin "isinstance") := by decide +kernel
theorem s_b1 (o : B1) (ho : o ≠ .sorted) (hc : X.calm = true) (hg : Gl X (bNm o)) (hm : X.mg (bNm o) = none) (ha : SE X cl a ia) : SE X cl (.Call (.Name (bNm o) p) [a] [] pos) (.b1 o ia) := by
  have st := plain_star (X := X) (es := []) ha.pl
  have pa := pa_cons ha.pe pa_nil st
  cases o with
  | len => exact s_b1c b1_len (pe_callB call_len hg hm PySem.boot_len pa (by decide) (by decide) st rfl)
  | sum => exact s_b1c b1_sum (pe_callB ((cr_sum hc).or (cr_sumT hc)) hg hm boot_sumE pa (by decide) (by decide) st rfl)
  | abs => exact s_b1c b1_abs (pe_callB call_abs hg hm boot_absE pa (by decide) (by decide) st rfl)
  | list => exact s_b1c b1_list (pe_callTy call_list_of hg hm boot_listE pa (by decide) (by decide) st rfl)
  | tuple => exact s_b1c b1_tuple (pe_callTy call_tuple_of hg hm boot_tupleE pa (by decide) (by decide) st rfl)
  | int => exact s_b1c b1_int (pe_callTy call_int1 hg hm boot_intE pa (by decide) (by decide) st rfl)
  | all => exact s_b1c b1_all (pe_callB (cr_all hc) hg hm boot_all pa (by decide) (by decide) st rfl)
  | sorted => exact absurd rfl ho
  | min => exact s_b1c b1_min (pe_callB (cr_min hc) hg hm boot_min pa (by decide) (by decide) st rfl)
  | max => exact s_b1c b1_max (pe_callB (cr_max hc) hg hm boot_max pa (by decide) (by decide) st rfl)
/-! ### min(a, b), max(a, b) -/
def mmNm (mx : Bool) : Str := if mx then "max" else "min"
theorem s_mm (mx : Bool) (hc : X.calm = true) (hg : Gl X (mmNm mx)) (hm : X.mg (mmNm mx) = none) (ha : SE X cl a ia) (hb : SE X cl b ib) : SE X cl (.Call (.Name (mmNm mx) p) [a, b] [] pos) (.mm mx ia ib) := by
  have st := plain_star (X := X) (es := [b]) ha.pl
  have sb := plain_star (X := X) (es := []) hb.pl
  have pa := pa_cons ha.pe (pa_cons hb.pe pa_nil sb) st
  have hpl : (backTo pos (starEach [b] X.env)).any (·.1) = false := noStars (by simp [hb.pl]) pos
  have run : ∀ {F : Fx} {ρ : Env} {μ μ' : Mu} {d : D}, evE F.S (cl F.S) (.mm mx ia ib) ρ μ = .ok d μ' → ∃ i j μ1, evE F.S (cl F.S) ia ρ μ = .ok (.int i) μ1 ∧ evE F.S (cl F.S) ib ρ μ1 = .ok (.int j) μ' ∧ d = .int (if mx then (if j > i then j else i) else (if j < i then j else i)) := fun {F ρ μ μ' d} ev => by
    unfold evE at ev
    obtain ⟨x, μ1, e1, ev⟩ := bind_ok ev
    obtain ⟨y, μ2, e2, ev⟩ := bind_ok ev
    obtain ⟨e3, rfl⟩ := opt_ok ev
    cases x <;> cases y <;> simp only at e3 <;> try (cases e3; done)
    exact ⟨_, _, _, e1, e2, (Option.some.inj e3).symm⟩
  have h : PE X (.Call (.Name (mmNm mx) p) [a, b] [] pos) (tE X.K cl (.mm mx ia ib)) := by
    cases mx with
    | true =>
      refine (pe_callB (call_max2 hc) hg hm boot_max pa (by decide) (by decide) st hpl).imp fun σ H Q q => ?_
      obtain ⟨F, own, ph, ρ, μ, d, μ', hK, I, ev, k⟩ := q
      obtain ⟨i, j, μ1, e1, e2, rfl⟩ := run ev
      refine two hK I e1 e2 fun ph2 vx vy H2 I2 g2 rx ry => ?_
      cases rx; cases ry
      exact ⟨i, j, rfl, k ph2 _ H2 I2 g2 (val0 (.int _) rfl)⟩
    | false =>
      refine (pe_callB (call_min2 hc) hg hm boot_min pa (by decide) (by decide) st hpl).imp fun σ H Q q => ?_
      obtain ⟨F, own, ph, ρ, μ, d, μ', hK, I, ev, k⟩ := q
      obtain ⟨i, j, μ1, e1, e2, rfl⟩ := run ev
      refine two hK I e1 e2 fun ph2 vx vy H2 I2 g2 rx ry => ?_
      cases rx; cases ry
      exact ⟨i, j, rfl, k ph2 _ H2 I2 g2 (val0 (.int _) rfl)⟩
  exact ⟨h, fun _ => pt_of h, rfl, fun z => by cases z⟩
/-! ### isinstance -/
def tyS : Ty → String
  | .int => "int" | .bool => "bool" | .str => "str" | .tuple => "tuple" | .list => "list"
theorem kitB_ok : ∀ t ∈ ["NoneType", "bool", "int", "str", "tuple", "list"], ∀ c ∈ ["int", "bool", "str", "tuple", "list"], kitB t c = some (t == c || (t == "bool" && c == "int")) := by
  decide +kernel
def tyVal (t : Ty) : V := .ty (tyS t)
theorem boot_ty (t : Ty) : bootBuiltins (Str.ofString (tyS t)) = some (.type (tyS t)) := by cases t <;> decide +kernel
theorem pe_ty {p2 : Pos} (t : Ty) (hg : Gl X (Str.ofString (tyS t))) (hm : X.mg (Str.ofString (tyS t)) = none) : PE X (.Name (Str.ofString (tyS t)) p2) (tC (tyVal t)) :=
  pe_bltn hg hm (boot_ty t) rfl (by cases t <;> decide +kernel) (by cases t <;> decide +kernel)
theorem isi_ok {F : Fx} {ph : List Addr} {A : Addr → Prop} {H : Hp} {v : V} {x : D} {t : Ty} {b : Bool} {Q : VK} (r : Rep F.sa ph A H v x) (e : tyD x t = some b) (q : Q (.bl b) H) : rIsi X.K [v, tyVal t] H Q := by
  have fin : ∀ (s : String), TyX X.K H v (.type s) → s ∈ ["NoneType", "bool", "int", "str", "tuple", "list"] → (s == tyS t || (s == "bool" && tyS t == "int")) = b → rIsi X.K [v, tyVal t] H Q := fun s hs hm hb =>
    ⟨v, tyVal t, .type s, .type (tyS t), b, rfl, .ty _, hs, L2.kit_ty (by rw [kitB_ok s hm (tyS t) (by cases t <;> simp [tyS]), hb]), q⟩
  cases r with
  | non => exact fin "NoneType" (.base .non) (by simp) (by cases t <;> cases e <;> decide)
  | bl z => exact fin "bool" (.base (.bl z)) (by simp) (by cases t <;> cases e <;> decide)
  | int z => exact fin "int" (.base (.int z)) (by simp) (by cases t <;> cases e <;> decide)
  | str z => exact fin "str" (.base (.str z)) (by simp) (by cases t <;> cases e <;> decide)
  | tup h1 _ => exact fin "tuple" (.base (.tup h1)) (by simp) (by cases t <;> cases e <;> decide)
  | lst h1 _ _ _ => exact fin "list" (.base (.lst h1)) (by simp) (by cases t <;> cases e <;> decide)
  | scr => cases t <;> cases e
  | mref _ => cases t <;> cases e
theorem s_isi {p2 : Pos} (t : Ty) (hg : Gl X "isinstance") (hm : X.mg "isinstance" = none) (hgt : Gl X (Str.ofString (tyS t))) (hmt : X.mg (Str.ofString (tyS t)) = none) (ha : SE X cl a ia) :
    SE X cl (.Call (.Name "isinstance" p) [a, .Name (Str.ofString (tyS t)) p2] [] pos) (.isi t ia) := by
  have st := plain_star (X := X) (es := [.Name (Str.ofString (tyS t)) p2]) ha.pl
  have h : PE X (.Call (.Name "isinstance" p) [a, .Name (Str.ofString (tyS t)) p2] [] pos) (tE X.K cl (.isi t ia)) := by
    refine (pe_callB call_isi hg hm boot_isi (pa_cons ha.pe (pa_cons (pe_ty t hgt hmt) pa_nil rfl) st) (by decide) (by decide) st rfl).imp fun σ H Q q => ?_
    obtain ⟨F, own, ph, ρ, μ, d, μ', hK, I, ev, k⟩ := q
    obtain ⟨x, μ1, e1, ev⟩ := bind_ok (show (evE F.S (cl F.S) ia ρ >>= fun x => M.opt ((tyD x t).map .bl)) μ = .ok d μ' by simpa [evE] using ev)
    obtain ⟨e3, rfl⟩ := opt_ok ev
    obtain ⟨bb, e4, rfl⟩ := Option.map_eq_some_iff.mp e3
    exact one hK I e1 fun ph2 vx H2 I2 g2 rx => isi_ok rx e4 (k ph2 _ H2 I2 g2 (val0 (.bl _) rfl))
  exact ⟨h, fun _ => pt_of h, rfl, fun z => by cases z⟩
/-! ### list(range(n)) -/
theorem rgV_rep {sa : Addr} {ph : List Addr} {A : Addr → Prop} {H : Hp} (lo hi : Int) : Reps sa ph A H (rgV lo hi) (rngD lo hi) := by
  unfold rgV rngD
  generalize (hi - lo).toNat = n
  have : ∀ l : List Nat, Reps sa ph A H (l.map fun i => V.int (lo + (i : Nat))) (l.map fun k => D.int (lo + (k : Nat))) := fun l => by
    induction l with
    | nil => exact .nil
    | cons x r ih => exact .cons (.int _) ih
  exact this _
theorem s_lrange {p2 pos2 : Pos} (hc : X.calm = true) (hg : Gl X "list") (hm : X.mg "list" = none) (hg2 : Gl X "range") (hm2 : X.mg "range" = none) (ha : SE X cl a ia) :
    SE X cl (.Call (.Name "list" p) [.Call (.Name "range" p2) [a] [] pos2] [] pos) (.lrange ia) := by
  have st := plain_star (X := X) (es := []) ha.pl
  have h : PE X (.Call (.Name "list" p) [.Call (.Name "range" p2) [a] [] pos2] [] pos) (tE X.K cl (.lrange ia)) := by
    refine (pe_listRg hc hg hm (prg_1 hg2 hm2 ha.pe st) rfl).imp fun σ H Q q => ?_
    obtain ⟨F, own, ph, ρ, μ, d, μ', hK, I, ev, k⟩ := q
    unfold evE at ev
    obtain ⟨x, μ1, e1, ev⟩ := bind_ok ev
    obtain ⟨e3, rfl⟩ := opt_ok ev
    cases x <;> simp only at e3 <;> try (cases e3; done)
    split at e3
    · rename_i i hi
      cases e3
      refine one hK I e1 fun ph2 vx H2 I2 g2 rx => ?_
      cases rx
      exact ⟨_, rfl, ⟨by decide, by decide, by omega, by omega, by omega⟩, fun q hq => newLst I2 g2 hq (rgV_rep 0 i) k⟩
    · cases e3
  exact ⟨h, fun _ => pt_of h, rfl, fun z => by cases z⟩

/-! ### a dict display asked at once -/
/-- the pairs of a display: keys and values, one behind another -/
inductive SPs (X : Cx) (cl : Calls) : List (Option Expr) → List Expr → IEs → Prop
  | nil : SPs X cl [] [] .nil
  | cons {k v : Expr} {ks : List (Option Expr)} {vs : List Expr} {ik iv : IE} {r : IEs} : SE X cl k ik → SE X cl v iv → SPs X cl ks vs r → SPs X cl (some k :: ks) (v :: vs) (.cons ik (.cons iv r))
def tPs (K : PySem.W.Frag) (cl : Calls) : IEs → List (TE × TE)
  | .cons ik (.cons iv r) => (tE K cl ik, tE K cl iv) :: tPs K cl r
  | _ => []
theorem SPs.pps {ks : List (Option Expr)} {vs : List Expr} {ies : IEs} (h : SPs X cl ks vs ies) : PPs X pos ks vs (tPs X.K cl ies) ∧ ks.all (·.isSome) = true ∧ ks.length = vs.length := by
  induction h with
  | nil => exact ⟨pps_nil, rfl, rfl⟩
  | cons hk hv _ ih => exact ⟨pps_cons hk.pe hv.pe ih.1, by simpa using ih.2.1, by simpa using ih.2.2⟩
def toV : D → V
  | .bl b => .bl b
  | .int i => .int i
  | .str s => .str s
  | _ => .non
theorem toV_rep {sa : Addr} {ph : List Addr} {A : Addr → Prop} {H : Hp} {d : D} (h : d.sc = true) : Rep sa ph A H (toV d) d := by
  cases d <;> first | exact .non | exact .bl _ | exact .int _ | exact .str _ | cases h
theorem toV_eq {sa : Addr} {ph : List Addr} {A : Addr → Prop} {H : Hp} {d : D} {v : V} (h : d.sc = true) (r : Rep sa ph A H v d) : v = toV d := by
  cases r <;> first | rfl | cases h
def kvV (kvs : List (Int × D)) : List (Key × V) := kvs.map fun kv => (Sum.inl kv.1, toV kv.2)
theorem pairs_ok {F : Fx} {own : Nat → Option Addr} {ρ : Env} {σ : L2.St} (hK : F.K = X.K) : ∀ (ies : IEs) {ph : List Addr} {H : Hp} {μ μ' : Mu} {kvs : List (Int × D)} {Q : List (V × V) → Hp → Prop}, Stt F own ph ρ μ σ H → evPs F.S (cl F.S) ies ρ μ = .ok kvs μ' →
    (∀ ph' H', Stt F own ph' ρ μ' σ H' → Grow ph H ph' H' → (∀ kv ∈ kvs, kv.2.sc = true) → Q ((kvV kvs).map fun kv => (kV kv.1, kv.2)) H') → tPairs (tPs X.K cl ies) σ H Q
  | .nil, ph, H, μ, μ', kvs, Q, I, ev, k => by
    obtain ⟨rfl, rfl⟩ := pure_ok (show (pure [] : M (List (Int × D))) μ = .ok kvs μ' by simpa [evPs] using ev)
    exact k ph H I (Grow.refl _ _) (by simp)
  | .cons ik (.cons iv r), ph, H, μ, μ', kvs, Q, I, ev, k => by
    obtain ⟨x, μ1, e1, ev⟩ := bind_ok (show (evE F.S (cl F.S) ik ρ >>= fun x => evE F.S (cl F.S) iv ρ >>= fun y => M.opt (pairD x y) >>= fun p => evPs F.S (cl F.S) r ρ >>= fun ps => pure (p :: ps)) μ = .ok kvs μ' by simpa [evPs] using ev)
    obtain ⟨y, μ2, e2, ev⟩ := bind_ok ev
    obtain ⟨pp, μ3, e3, ev⟩ := bind_ok ev
    obtain ⟨e3', e3''⟩ := opt_ok e3
    subst e3''
    obtain ⟨ps, μ4, e4, ev⟩ := bind_ok ev
    obtain ⟨rfl, rfl⟩ := pure_ok ev
    refine two hK I e1 e2 fun ph2 vx vy H2 I2 g2 rx ry => pairs_ok hK r I2 e4 fun ph' H' I' g h1 => ?_
    unfold pairD at e3'
    split at e3'
    · split at e3'
      · rename_i i dd hsc
        cases e3'
        cases rx
        have := k ph' H' I' (g2.trans g) (fun kv hkv => by
          rcases List.mem_cons.mp hkv with rfl | hh
          · exact hsc
          · exact h1 kv hh)
        rw [toV_eq hsc ry]
        exact this
      · cases e3'
    · cases e3'
  | .cons ik .nil, ph, H, μ, μ', kvs, Q, I, ev, k => by
    have : (M.no : M (List (Int × D))) μ = .ok kvs μ' := by simpa [evPs] using ev
    cases this
theorem merge_look : ∀ (kvs : List (Int × D)) (k : Int) (acc : List (Key × V)) (oD : Option D), valV acc (Sum.inl k) = oD.map toV →
    valV (mergeK acc (kvV kvs)) (Sum.inl k) = (kvs.foldl (fun acc kv => if k = kv.1 then some kv.2 else acc) oD).map toV
  | [], k, acc, oD, h => h
  | (i, d) :: kvs, k, acc, oD, h => by
    refine merge_look kvs k (putK acc (Sum.inl i) (toV d)) (if k = i then some d else oD) ?_
    rw [valV_put]
    by_cases hk : k = i
    · subst hk
      rw [if_pos rfl, if_pos rfl]
      rfl
    · rw [if_neg (fun z => hk (Sum.inl.inj z)), if_neg hk]
      exact h
theorem dlook_sc : ∀ (kvs : List (Int × D)) (k : Int) (oD : Option D), (∀ kv ∈ kvs, kv.2.sc = true) → (∀ d, oD = some d → d.sc = true) → ∀ d, kvs.foldl (fun acc kv => if k = kv.1 then some kv.2 else acc) oD = some d → d.sc = true
  | [], _, _, _, h, d, e => h d e
  | (i, x) :: kvs, k, oD, hs, h, d, e => by
    refine dlook_sc kvs k (if k = i then some x else oD) (fun kv hkv => hs kv (List.mem_cons_of_mem _ hkv)) (fun d' e' => ?_) d e
    by_cases hk : k = i
    · rw [if_pos hk] at e'; cases e'; exact hs (i, x) (by simp)
    · rw [if_neg hk] at e'; exact h d' e'
/-- a dict of its own is replaced: nothing else is touched -/
theorem Stt.dict {F : Fx} {own : Nat → Option Addr} {ρ : Env} {σ : L2.St} {ph : List Addr} {H : Hp} {μ : Mu} {p : Addr} {m m' : List (Key × V)} (I : Stt F own ph ρ μ σ H) (e : H p = some (.dK m)) (h0 : F.H0 p = none) : Stt F own ph ρ μ σ (upd H p (.dK m')) := by
  have ne : ∀ {a o}, H a = some o → (∀ m, o ≠ .dK m) → a ≠ p := fun {a o} h q z => by subst z; rw [h] at e; cases e; exact q m rfl
  have kT : ∀ a vs, H a = some (.tup vs) → upd H p (.dK m') a = some (.tup vs) := fun a vs h => by rw [upd_ne (ne h fun m z => by cases z)]; exact h
  have kL : ∀ a vs, H a = some (.lst vs) → upd H p (.dK m') a = some (.lst vs) := fun a vs h => by rw [upd_ne (ne h fun m z => by cases z)]; exact h
  have rep : ∀ {A : Addr → Prop} {v : V} {d : D}, Rep F.sa ph A H v d → Rep F.sa ph A (upd H p (.dK m')) v d := fun {A v d} r => Rep.mono kT (fun a vs h n1 n2 => ⟨kL a vs h, n1, n2⟩) (fun _ _ z => z) d v r
  have reps : ∀ {A : Addr → Prop} {v : List V} {d : List D}, Reps F.sa ph A H v d → Reps F.sa ph A (upd H p (.dK m')) v d := fun {A v d} r => Reps.mono kT (fun a vs h n1 n2 => ⟨kL a vs h, n1, n2⟩) (fun _ _ z => z) d v r
  have some' : ∀ {a}, H a ≠ none → upd H p (.dK m') a ≠ none := fun {a} h z => by
    by_cases q : a = p
    · subst q; rw [upd_same] at z; cases z
    · rw [upd_ne q] at z; exact h z
  refine ⟨fun i b d h => ?_, I.lenE, ⟨I.mu.len, I.mu.nd, fun n a mo h1 h2 => ?_⟩, fun a o h n => ?_, fun a o h => some' (I.old a o h), I.phx, I.onew, I.ophi, I.oinj, fun i q h => ?_, fun a h => some' (I.bdom a h), I.bphi, I.onb, ?_, fun q hq => rep (I.held q hq)⟩
  · obtain ⟨v, h1, h2⟩ := I.slots i b d h
    refine ⟨v, h1, ?_⟩
    cases b with
    | false => exact rep h2
    | true =>
      obtain ⟨q, vs, ds, q1, q2, q3, q4, q5⟩ := h2
      exact ⟨q, vs, ds, q1, q2, q3, kL _ _ q4, reps q5⟩
  · have r := I.mu.mo n a mo h1 h2
    cases mo with
    | lst ds =>
      obtain ⟨vs, q1, q2⟩ := r
      exact ⟨vs, kL _ _ q1, reps q2⟩
  · rw [upd_ne (fun z => by subst z; rw [h0] at h; cases h)]
    exact I.fr a o h n
  · obtain ⟨vs, q1⟩ := I.oreal i q h
    exact ⟨vs, kL _ _ q1⟩
  · rcases I.scr with ⟨ob, q⟩ | q
    · exact .inl ⟨ob, by rw [upd_ne (ne q fun m z => by cases z)]; exact q⟩
    · exact .inr q
theorem disp_ok {F : Fx} {own : Nat → Option Addr} {ρ : Env} {σ : L2.St} {ph : List Addr} {H : Hp} {μ μ' : Mu} {kvs : List (Int × D)} {Q : VK} (hK : F.K = X.K) (I : Stt F own ph ρ μ σ H) (ev : evPs F.S (cl F.S) ies ρ μ = .ok kvs μ') (h15 : kvs.length ≤ 15)
    (k : ∀ ph' H' p m, Stt F own ph' ρ μ' σ H' → Grow ph H ph' H' → H p = none → H' p = some (.dK m) → (∀ i, valV m (Sum.inl i) = (dlook kvs i).map toV) → (∀ i d, dlook kvs i = some d → d.sc = true) → Q (.ref p) H') : tDisp (tPs X.K cl ies) σ H Q := by
  intro p hp
  have I1 : Stt F own ph ρ μ σ (upd H p (.dK [])) := I.laid hp
  have g1 : Grow ph H ph (upd H p (.dK [])) := Grow.new hp
  refine pairs_ok hK ies I1 ev fun ph' H' I' g hsc => ?_
  have e1 : H' p = some (.dK []) := g.keep p _ upd_same (I.notPhi hp)
  refine ⟨e1, kvV kvs, rfl, by unfold kvV; rw [List.length_map]; exact h15, ?_⟩
  have h0 : F.H0 p = none := by
    cases q : F.H0 p with
    | none => rfl
    | some o => exact absurd hp (I.old p o q)
  refine k ph' _ p _ (I'.dict e1 h0) ⟨fun a o h n => ?_, (g1.trans g).ext, fun a o h => ?_⟩ hp upd_same (fun i => merge_look kvs i [] none rfl) fun i d h => dlook_sc kvs i none hsc (fun _ z => by cases z) d h
  · rw [upd_ne (ne_of_none h hp)]
    exact (g1.trans g).keep a o h n
  · rw [upd_ne (ne_of_none h hp)]
    exact (g1.trans g).old a o h
theorem plain_dict {ks : List (Option Expr)} {vs : List Expr} : attributeBase (.Dict ks vs p) "get" X.env (eval (.Dict ks vs p) X.env) = eval (.Dict ks vs p) X.env := rfl
theorem s_dget {ks : List (Option Expr)} {vs : List Expr} {p1 apos : Pos} (hu : X.A.units + 64 < cLine) (h : SPs X cl ks vs ies) (h0 : ks ≠ []) (h15 : ks.length ≤ 15) (hline : (apos.endLine == pos.line) = true) (ha : SE X cl a ia) (hb : SE X cl b ib) :
    SE X cl (.Call (.Attribute (.Dict ks vs p1) "get" apos) [a, b] [] pos) (.dget ies ia ib) := by
  obtain ⟨hp, hall, hl⟩ := h.pps (pos := p1)
  have sa := plain_star (X := X) (es := [b]) ha.pl
  have sb := plain_star (X := X) (es := []) hb.pl
  have tr : backTo pos (starEach [a, b] X.env) = [(false, eval a X.env), (false, eval b X.env)] := by rw [sa, sb]; rfl
  have hlen : ∀ {S : List Int} {c : Nat → List D → M D} {ρ : Env} {μ μ' : Mu} {kvs : List (Int × D)}, evPs S c ies ρ μ = .ok kvs μ' → kvs.length ≤ 15 := fun {S c ρ μ μ' kvs} ev => by
    have : ∀ {ks : List (Option Expr)} {vs : List Expr} {ies : IEs}, SPs X cl ks vs ies → ∀ {μ μ' : Mu} {kvs : List (Int × D)}, evPs S c ies ρ μ = .ok kvs μ' → kvs.length = ks.length := fun {ks vs ies} h => by
      induction h with
      | nil => intro μ μ' kvs ev; obtain ⟨rfl, rfl⟩ := pure_ok (show (pure [] : M (List (Int × D))) μ = .ok kvs μ' by simpa [evPs] using ev); rfl
      | cons _ _ _ ih =>
        intro μ μ' kvs ev
        unfold evPs at ev
        obtain ⟨x, μ1, e1, ev⟩ := bind_ok ev
        obtain ⟨y, μ2, e2, ev⟩ := bind_ok ev
        obtain ⟨pp, μ3, e3, ev⟩ := bind_ok ev
        obtain ⟨ps, μ4, e4, ev⟩ := bind_ok ev
        obtain ⟨rfl, rfl⟩ := pure_ok ev
        simp [ih e4]
    rw [this h ev]; exact h15
  have h : PE X (.Call (.Attribute (.Dict ks vs p1) "get" apos) [a, b] [] pos) (tE X.K cl (.dget ies ia ib)) := by
    refine (pe_dget2 (by omega) (pe_disp hp hall hl h0 h15) ha.pe hb.pe ⟨plain_dict, by rw [tr]; rfl, hline, tr⟩).imp fun σ H Q q => ?_
    obtain ⟨F, own, ph, ρ, μ, d, μ', hK, I, ev, k⟩ := q
    obtain ⟨kvs, μ1, e1, ev⟩ := bind_ok (show (evPs F.S (cl F.S) ies ρ >>= fun kvs => evE F.S (cl F.S) ia ρ >>= fun x => evE F.S (cl F.S) ib ρ >>= fun y => M.opt (dgetD kvs x y)) μ = .ok d μ' by simpa [evE] using ev)
    obtain ⟨x, μ2, e2, ev⟩ := bind_ok ev
    obtain ⟨y, μ3, e3, ev⟩ := bind_ok ev
    obtain ⟨e4, rfl⟩ := opt_ok ev
    refine disp_ok hK I e1 (hlen e1) fun ph1 H1 q m I1 g1 hq hH hv hs => ⟨q, rfl, .inl ⟨m, .inl hH⟩, ?_⟩
    refine two hK I1 e2 e3 fun ph2 vx vy H2 I2 g2 rx ry => ?_
    obtain ⟨i, rfl⟩ : ∃ i, x = .int i := by
      cases x <;> first | exact ⟨_, rfl⟩ | cases e4
    have e4 : some ((dlook kvs i).getD y) = some d := e4
    cases e4
    cases rx
    have hH2 : H2 q = some (.dK m) := g2.keep q _ hH (fun z => by obtain ⟨ws, z'⟩ := I1.mu.lst z; rw [hH] at z'; cases z')
    refine ⟨_, DGet.k (k := Sum.inl i) hH2, ?_⟩
    rw [hv i]
    cases hd : dlook kvs i with
    | none => rw [hd] at k; exact k ph2 _ H2 I2 (g1.trans g2) ⟨ry, fun z => by cases z⟩
    | some dd => rw [hd] at k; exact k ph2 _ H2 I2 (g1.trans g2) ⟨toV_rep (hs i dd hd), fun z => by cases z⟩
  exact ⟨h, fun _ => pt_of h, rfl, fun z => by cases z⟩
theorem sps_len {S : List Int} {c : Nat → List D → M D} {ρ : Env} {ks : List (Option Expr)} {vs : List Expr} {ies : IEs} (h : SPs X cl ks vs ies) : ∀ {μ μ' : Mu} {kvs : List (Int × D)}, evPs S c ies ρ μ = .ok kvs μ' → kvs.length = ks.length := by
  induction h with
  | nil => intro μ μ' kvs ev; obtain ⟨rfl, rfl⟩ := pure_ok (show (pure [] : M (List (Int × D))) μ = .ok kvs μ' by simpa [evPs] using ev); rfl
  | cons _ _ _ ih =>
    intro μ μ' kvs ev
    unfold evPs at ev
    obtain ⟨x, μ1, e1, ev⟩ := bind_ok ev
    obtain ⟨y, μ2, e2, ev⟩ := bind_ok ev
    obtain ⟨pp, μ3, e3, ev⟩ := bind_ok ev
    obtain ⟨ps, μ4, e4, ev⟩ := bind_ok ev
    obtain ⟨rfl, rfl⟩ := pure_ok ev
    simp [ih e4]
theorem s_didx {ks : List (Option Expr)} {vs : List Expr} {p1 : Pos} (hu : X.A.units + 64 < cLine) (h : SPs X cl ks vs ies) (h0 : ks ≠ []) (h15 : ks.length ≤ 15) (ha : SE X cl a ia) :
    SE X cl (.Subscript (.Dict ks vs p1) a pos) (.didx ies ia) := by
  obtain ⟨hp, hall, hl⟩ := h.pps (pos := p1)
  have h : PE X (.Subscript (.Dict ks vs p1) a pos) (tE X.K cl (.didx ies ia)) := by
    refine (pe_dget (by omega) (pe_disp hp hall hl h0 h15) ha.pe (plain_ix ha.pl)).imp fun σ H Q q => ?_
    obtain ⟨F, own, ph, ρ, μ, d, μ', hK, I, ev, k⟩ := q
    obtain ⟨kvs, μ1, e1, ev⟩ := bind_ok (show (evPs F.S (cl F.S) ies ρ >>= fun kvs => evE F.S (cl F.S) ia ρ >>= fun x => M.opt (didxD kvs x)) μ = .ok d μ' by simpa [evE] using ev)
    obtain ⟨x, μ2, e2, ev⟩ := bind_ok ev
    obtain ⟨e4, rfl⟩ := opt_ok ev
    refine disp_ok hK I e1 (by rw [sps_len h e1]; exact h15) fun ph1 H1 q m I1 g1 hq hH hv hs => one hK I1 e2 fun ph2 vx H2 I2 g2 rx => ?_
    obtain ⟨i, rfl⟩ : ∃ i, x = .int i := by
      cases x <;> first | exact ⟨_, rfl⟩ | cases e4
    have e4 : dlook kvs i = some d := e4
    cases rx
    have hH2 : H2 q = some (.dK m) := g2.keep q _ hH (fun z => by obtain ⟨ws, z'⟩ := I1.mu.lst z; rw [hH] at z'; cases z')
    have hg := DGet.k (k := Sum.inl i) hH2
    rw [hv i, e4] at hg
    exact ⟨q, toV d, rfl, hg, k ph2 _ H2 I2 (g1.trans g2) ⟨toV_rep (hs i d e4), fun z => by cases z⟩⟩
  exact ⟨h, fun _ => pt_of h, rfl, fun z => by cases z⟩
end
end Ev

set_option Elab.async false
set_option linter.all false
set_option maxRecDepth 100000
set_option maxHeartbeats 4000000
namespace Ev
open PySem L2 PyProof.Rows
section
variable {X : Cx} {cl : Calls} {a b c : Expr} {ia ib ic : IE} {pos p : Pos} {es : List Expr} {ies : IEs}
/-! ### calls of defs -/
/-- a def's promise by the evaluator -/
def spF (K : PySem.W.Frag) (cl : Calls) (f np : Nat) : Sp := fun vs H Q _ => vs.length = np ∧ ∃ S sa ph μ B ds d μ', Reps sa ph B H vs ds ∧ MuOk sa ph H μ ∧ ScrR K S sa H ∧ (∀ a, B a → H a ≠ none) ∧ (∀ a, B a → a ∉ ph) ∧ cl S f ds μ = .ok d μ' ∧
  ∀ ph' v H', Grow ph H ph' H' → MuOk sa ph' H' μ' → Rep sa ph' B H' v d → Q v H'
structure HasFn (X : Cx) (cl : Calls) (k : Nat) (x : Str) (f np : Nat) (dk : Option (Str × Int)) : Prop where
  ex : ∃ fa fd ps, FnOk X.prog X.w X.K X.mg X.base CX0 k fa fd ps (spF X.K cl f np) ∧ X.mg x = some (.ref fa) ∧ PySem.W.keepIn X.K (.ref fa) = true ∧ (dk = none → Binds X.K fd ps []) ∧
    ∀ kw d, dk = some (kw, d) → (∃ ds, Vals [V.int d] ds ∧ Binds X.K fd ps ds) ∧ ∃ n g, np = n + 1 ∧ KBn X.K fd ps n [kw] g (fun vs zs => vs ++ zs)
  len : ∀ S ds μ d μ', cl S f ds μ = .ok d μ' → ds.length = np
theorem s_call {k : Nat} {x : Str} {f np : Nat} (hF : HasFn X cl k x f np none) (hr : Room k X.A) (hg : Gl X x) (hdb : (x == ("__debug__" : Str)) = false) (ha : SA X cl es ies) : SE X cl (.Call (.Name x p) es [] pos) (.call f ies) := by
  obtain ⟨fa, fd, ps, F0, hm, hk, hb, _⟩ := hF.ex
  have hb := hb rfl
  have main : ∀ {σ : L2.St} {H : Hp} {Q : VK}, tE X.K cl (.call f ies) σ H Q → tCall (spF X.K cl f np) [] E0 (tEs X.K cl ies) σ H Q := fun {σ H Q} q => by
    obtain ⟨F, own, ph, ρ, μ, d, μ', hK, I, ev, kk⟩ := q
    obtain ⟨ds, μ1, e1, ev⟩ := bind_ok (show (evEs F.S (cl F.S) ies ρ >>= fun ds => cl F.S f ds) μ = .ok d μ' by simpa [evE] using ev)
    refine ⟨F, own, ph, ρ, μ, ds, μ1, hK, I, e1, fun ph1 vs H1 I1 g1 rs => ⟨?_, F.S, F.sa, ph1, μ1, Av F own (lks ies), ds, d, μ', ?_, I1.mu, hK ▸ I1.scr, fun a h => I1.dom h, fun a h => I1.avphi h, ev, fun ph' v H' g M r => ?_⟩⟩
    · rw [List.append_nil, rs.length]; exact hF.len _ _ _ _ _ ev
    · rw [List.append_nil]; exact rs
    · exact kk ph' v H' (I1.grow g M) (g1.trans g) ⟨r, fun z => by cases z⟩
  have h : PE X (.Call (.Name x p) es [] pos) (tE X.K cl (.call f ies)) := by
    cases es with
    | nil =>
      refine (pe_call0 F0 hr hg hm hk hb .nil pass0 hdb).imp fun σ H Q q => ?_
      cases ies with
      | nil =>
        obtain ⟨F, own, ph, ρ, μ, ds, μ1, hK, I, e1, kk⟩ := main q
        obtain ⟨rfl, rfl⟩ := pure_ok (show (pure [] : M (List D)) μ = .ok ds μ1 by simpa [evEs] using e1)
        exact kk ph [] H I (Grow.refl _ _) .nil
      | cons ie r =>
        have := ha.ln
        cases this
    | cons e es =>
      have hp := ha.pl
      rw [List.all_cons, Bool.and_eq_true] at hp
      exact (pe_call F0 hr hg hm hk hb .nil pass0 ha.pa hdb (plain_star hp.1) (noStars hp.2 pos)).imp fun σ H Q q => main q
  exact ⟨h, fun _ => pt_of h, rfl, fun z => by cases z⟩
theorem s_callD {k : Nat} {x kw : Str} {f np : Nat} {dv : Int} {e : Expr} (hF : HasFn X cl k x f np (some (kw, dv))) (hr : Room k X.A) (hg : Gl X x) (hdb : (x == ("__debug__" : Str)) = false) (ha : SA X cl (e :: es) ies) : SE X cl (.Call (.Name x p) (e :: es) [] pos) (.callD f ies (.int dv)) := by
  obtain ⟨fa, fd, ps, F0, hm, hk, _, hb⟩ := hF.ex
  obtain ⟨⟨dvs, hv, hb⟩, _⟩ := hb kw dv rfl
  have hp := ha.pl
  rw [List.all_cons, Bool.and_eq_true] at hp
  have h : PE X (.Call (.Name x p) (e :: es) [] pos) (tE X.K cl (.callD f ies (.int dv))) := by
    refine (pe_call F0 hr hg hm hk hb hv pass0 ha.pa hdb (plain_star hp.1) (noStars hp.2 pos)).imp fun σ H Q q => ?_
    obtain ⟨F, own, ph, ρ, μ, d, μ', hK, I, ev, kk⟩ := q
    obtain ⟨ds, μ1, e1, ev⟩ := bind_ok (show (evEs F.S (cl F.S) ies ρ >>= fun ds => cl F.S f (ds ++ [.int dv])) μ = .ok d μ' by simpa [evE] using ev)
    refine ⟨F, own, ph, ρ, μ, ds, μ1, hK, I, e1, fun ph1 vs H1 I1 g1 rs => ⟨?_, F.S, F.sa, ph1, μ1, Av F own (lks ies), ds ++ [.int dv], d, μ', rs.append (.cons (.int dv) .nil), I1.mu, hK ▸ I1.scr, fun a h => I1.dom h, fun a h => I1.avphi h, ev, fun ph' v H' g M r => ?_⟩⟩
    · rw [List.length_append, rs.length]
      have := hF.len _ _ _ _ _ ev
      rw [List.length_append] at this
      exact this
    · exact kk ph' v H' (I1.grow g M) (g1.trans g) ⟨r, fun z => by cases z⟩
  exact ⟨h, fun _ => pt_of h, rfl, fun z => by cases z⟩
theorem s_callK {k : Nat} {x kw : Str} {f np : Nat} {dv : Int} {e : Expr} {kp : Pos} (hF : HasFn X cl k x f np (some (kw, dv))) (hr : Room k X.A) (hg : Gl X x) (hdb : (x == ("__debug__" : Str)) = false) (ha : SA X cl (e :: es) ies) (hb : SE X cl b ib) :
    SE X cl (.Call (.Name x p) (e :: es) [⟨some kw, b, kp⟩] pos) (.callK f ies kw ib) := by
  obtain ⟨fa, fd, ps, F0, hm, hk, _, hbn⟩ := hF.ex
  obtain ⟨_, n, g, hn, hbn⟩ := hbn kw dv rfl
  have hp := ha.pl
  rw [List.all_cons, Bool.and_eq_true] at hp
  have hpl : ((backTo pos (starEach (e :: es) X.env)).any (·.1) || (backToKw pos (keywordEach [⟨some kw, b, kp⟩] X.env)).any (·.1.isNone)) = false := by
    rw [noStars ha.pl pos]
    rfl
  have h : PE X (.Call (.Name x p) (e :: es) [⟨some kw, b, kp⟩] pos) (tE X.K cl (.callK f ies kw ib)) := by
    refine (pe_callN F0 hr hg hm hk hbn pass0 ha.pa (pk_cons hb.pe pk_nil) rfl rfl hdb (plain_star hp.1) hpl).imp fun σ H Q q => ?_
    obtain ⟨F, own, ph, ρ, μ, d, μ', hK, I, ev, kk⟩ := q
    obtain ⟨ds, μ1, e1, ev⟩ := bind_ok (show (evEs F.S (cl F.S) ies ρ >>= fun ds => evE F.S (cl F.S) ib ρ >>= fun d => cl F.S f (ds ++ [d])) μ = .ok d μ' by simpa [evE] using ev)
    obtain ⟨dd, μ2, e2, ev⟩ := bind_ok ev
    have hl := hF.len _ _ _ _ _ ev
    rw [List.length_append, hn] at hl
    have hl : ds.length + 1 = n + 1 := hl
    refine ⟨F, own, ph, ρ, μ, ds, μ1, hK, I, e1, fun ph1 vs H1 I1 g1 rs => one hK I1 e2 fun ph2 vx H2 I2 g2 rx => ⟨?_, rfl, ?_, F.S, F.sa, ph2, μ2, Av F own (lks ies ++ lk ib), ds ++ [dd], d, μ', ?_, I2.mu, hK ▸ I2.scr, fun a h => I2.dom h, fun a h => I2.avphi h, ev, fun ph' v H' g M r => ?_⟩⟩
    · rw [rs.length]; omega
    · show (vs ++ [vx]).length = np
      rw [List.length_append, rs.length, hn]
      show ds.length + 1 = n + 1
      omega
    · exact ((g2.reps I1.mu rs).weaken lkA).append (.cons (rx.weaken lkB) .nil)
    · exact kk ph' v H' (I2.grow g M) ((g1.trans g2).trans g) ⟨r, fun z => by cases z⟩
  exact ⟨h, fun _ => pt_of h, rfl, fun z => by cases z⟩

/-! ### what is walked -/
/-- J gives out the data ds, as long as what is held is there -/
def IterR (sa : Addr) (J : It) (held : List (V × D)) (ds : List D) : Prop := ∀ (ph : List Addr) (A : Addr → Prop) (H : Hp), (∀ p ∈ held, Rep sa ph A H p.1 p.2) →
  (∀ (i : Nat) (d : D), ds[i]? = some d → J.go i H ∧ ∀ x H', J.yld i H x H' → (H' = H ∧ Rep sa ph A H x d) ∨ ∃ T vs es, x = .ref T ∧ H T = none ∧ H' = upd H T (.tup vs) ∧ d = .tup es ∧ Reps sa ph A H vs es) ∧ J.stop ds.length H
def tI (K : PySem.W.Frag) (cl : Calls) (it : IT) : TI := fun σ H R => ∃ F own ph ρ μ ds μ', F.K = K ∧ Stt F own ph ρ μ σ H ∧ evT F.S (cl F.S) it ρ μ = .ok ds μ' ∧
  ∀ ph' H' J held, Stt F own ph' ρ μ' σ H' → Grow ph H ph' H' → (∀ p ∈ held, Rep F.sa ph' (Av F own (lostT it ds)) H' p.1 p.2) → IterR F.sa J held ds → R J H'
theorem _root_.L2.PI.imp {X : Cx} {tg e : Expr} {t t' : TI} (h : PI X tg e t) (hm : ∀ σ H R, t' σ H R → t σ H R) : PI X tg e t' := ⟨fun pins s σ H R I q => h.run pins s σ H R I (hm σ H R q)⟩
structure SI (X : Cx) (cl : Calls) (tg e : Expr) (it : IT) : Prop where
  pi : PI X tg e (tI X.K cl it)
  pl : plainX e = true
def iSeq (K : PySem.W.Frag) (tl : TE) : TI := fun σ H R => tl σ H fun x H1 => ∃ a, x = .ref a ∧ (((∃ xs, SqL K H1 a xs) ∧ R (Itl K a) H1) ∨ ((∃ xs, SqT K H1 a xs) ∧ R (Itt K a) H1))
theorem pi_seq {tg l : Expr} {tl : TE} (hl : PE X l tl) : PI X tg l (iSeq X.K tl) := by
  refine ⟨fun pins s σ H R I h => ?_⟩
  refine thn (hl.run pins s σ H _ I h) fun v s1 ⟨x, H1, I1, r1, q1⟩ => ?_
  obtain ⟨a, e, q1⟩ := q1
  subst e
  cases r1
  rcases q1 with ⟨⟨xs, hq⟩, q⟩ | ⟨⟨xs, hq⟩, q⟩
  · obtain ⟨its, rv, p, hz⟩ := I1.list hq
    refine wpAny_pyIter_list p.isList ?_
    refine ⟨s1.heap.objs.size, [s1.heap.objs.size], _, _, H1, rfl, I1.kept (t' := s1.toks) fun b o e => Heap.get?_push_of_some _ e, turn_list a _, ⟨_, Heap.get?_push_size _ rfl, rfl, rfl⟩, fun b hb => ?_, q⟩
    have e : b = s1.heap.objs.size := by simpa using hb
    subst e
    exact I1.fpOk (Nat.le_refl _) (I1.hok.fresh (Nat.le_refl _))
  · obtain ⟨its, rv, p, hz⟩ := I1.tuple hq
    refine wpAny_pyIter_tuple (show s1.heap.IsTuple a its.toArray from p) ?_
    refine ⟨s1.heap.objs.size, [s1.heap.objs.size], _, _, H1, rfl, I1.kept (t' := s1.toks) fun b o e => Heap.get?_push_of_some _ e, turn_tuple a _, ⟨_, Heap.get?_push_size _ rfl, rfl, rfl⟩, fun b hb => ?_, q⟩
    have e : b = s1.heap.objs.size := by simpa using hb
    subst e
    exact I1.fpOk (Nat.le_refl _) (I1.hok.fresh (Nat.le_refl _))
theorem iter_lst {K : PySem.W.Frag} {sa a : Addr} {ds : List D} : IterR sa (Itl K a) [(.ref a, .lst ds)] ds := by
  intro ph A H h
  cases h (.ref a, .lst ds) (by simp) with
  | lst e _ _ r =>
    refine ⟨fun i d hd => ?_, _, SqL.of e, by rw [r.length]; exact Nat.le_refl _⟩
    obtain ⟨v, h1, h2⟩ := r.get hd
    refine ⟨⟨_, v, SqL.of e, h1⟩, fun x H' y => .inl ⟨y.1, ?_⟩⟩
    have := y.2 _ (SqL.of e)
    rw [h1] at this
    cases this
    exact h2
theorem iter_tup {K : PySem.W.Frag} {sa a : Addr} {ds : List D} : IterR sa (Itt K a) [(.ref a, .tup ds)] ds := by
  intro ph A H h
  cases h (.ref a, .tup ds) (by simp) with
  | tup e r =>
    refine ⟨fun i d hd => ?_, _, SqT.of e, by rw [r.length]; exact Nat.le_refl _⟩
    obtain ⟨v, h1, h2⟩ := r.get hd
    refine ⟨⟨_, v, SqT.of e, h1⟩, fun x H' y => .inl ⟨y.1, ?_⟩⟩
    have := y.2 _ (SqT.of e)
    rw [h1] at this
    cases this
    exact h2
theorem iter_rng {sa : Addr} {lo hi : Int} : IterR sa (Itr lo (hi - lo).toNat) [] (rngD lo hi) := by
  intro ph A H _
  unfold rngD
  refine ⟨fun i d hd => ?_, by show (hi - lo).toNat ≤ _; rw [List.length_map, List.length_range]; exact Nat.le_refl _⟩
  rw [List.getElem?_map] at hd
  obtain ⟨j, h1, rfl⟩ := Option.map_eq_some_iff.mp hd
  have hl : i < (List.range (hi - lo).toNat).length := (List.getElem?_eq_some_iff.mp h1).1
  rw [List.length_range] at hl
  rw [List.getElem?_eq_getElem (by rw [List.length_range]; exact hl), List.getElem_range] at h1
  cases h1
  exact ⟨hl, fun x H' y => .inl ⟨y.1, by rw [y.2]; exact .int _⟩⟩
/-! ### zip of lists and tuples in any mix -/
def SqA (k : Bool) (K : PySem.W.Frag) (H : Hp) (a : Addr) (xs : List V) : Prop := if k then SqL K H a xs else SqT K H a xs
def ItA (k : Bool) (h : Heap) (it a : Addr) (i : Nat) : Prop := if k then h.IsListIter it a i else h.IsTupleIter it a i
def IsA (k : Bool) (h : Heap) (a : Addr) (items : Array Value) : Prop := if k then h.IsList a items else h.IsTuple a items
def obA (k : Bool) (a : Addr) : Obj := if k then { cls := .type "list_iterator", data := .fields #[.ref a, .int 0 0] } else { cls := .type "tuple_iterator", data := .fields #[.ref a, .int 0 0] }
theorem Inv.seqA {pins : List (Addr × Obj)} {σ : L2.St} {H : Hp} {s : Shared} {k : Bool} {a : Addr} {xs : List V} (I : Inv X pins σ H s) (h : SqA k X.K H a xs) : ∃ its : List Value, Vals xs its ∧ IsA k s.heap a its.toArray ∧ a < s.heap.objs.size := by
  cases k with
  | true =>
    obtain ⟨its, rv, p, _⟩ := I.list (show SqL X.K H a xs from h)
    exact ⟨its, rv, p.isList, p.lt⟩
  | false =>
    obtain ⟨its, rv, p, _⟩ := I.tuple (show SqT X.K H a xs from h)
    obtain ⟨o, ho, _⟩ := id p
    exact ⟨its, rv, p, Heap.lt_size ho⟩
theorem Inv.seqA_inj {pins : List (Addr × Obj)} {σ : L2.St} {H : Hp} {s : Shared} {k : Bool} {a : Addr} {xs ys : List V} (I : Inv X pins σ H s) (h : SqA k X.K H a xs) (h' : SqA k X.K H a ys) : xs = ys := by
  cases k with
  | true => exact I.list_inj (show SqL X.K H a xs from h) h'
  | false => exact I.tuple_inj (show SqT X.K H a xs from h) h'
theorem drawsA {prog : Program} {w : World} {A : Around} (hh : A.handled = none) (k : Bool) (it l : Addr) (hne : l ≠ it) (items : Array Value) : Draws prog w A it [it, l] items.size (fun i v => items[i]? = some v) (fun i h => ItA k h it l i ∧ IsA k h l items) := by
  cases k with
  | true => exact Draws.list hh it l hne items
  | false => exact Draws.tuple hh it l hne items
theorem beginsA (k : Bool) (l : Addr) (items : Array Value) : Begins (.ref l) (obA k l) fun h => IsA k h l items := by
  cases k with
  | true => exact begins_list l items
  | false => exact begins_tuple l items
theorem ItA.ob {k : Bool} {h : Heap} {it a : Addr} {i : Nat} (x : ItA k h it a i) : ∃ o, h.get? it = some o ∧ ∀ v, o.data ≠ .cell v := by
  cases k with
  | true => obtain ⟨o, e, _, d⟩ := (show h.IsListIter it a i from x); exact ⟨o, e, fun v q => by rw [d] at q; cases q⟩
  | false => obtain ⟨o, e, _, d⟩ := (show h.IsTupleIter it a i from x); exact ⟨o, e, fun v q => by rw [d] at q; cases q⟩
theorem ItA.at {k : Bool} {h h' : Heap} {it a : Addr} {i : Nat} (x : ItA k h it a i) (f : ∀ o, h.get? it = some o → h'.get? it = some o) : ItA k h' it a i := by
  cases k with
  | true => exact Heap.IsListIter.at (show h.IsListIter it a i from x) f
  | false => exact Heap.IsTupleIter.at (show h.IsTupleIter it a i from x) f
def ItzA (K : PySem.W.Frag) (k1 k2 : Bool) (a b : Addr) : It :=
  ⟨fun i H => ∃ (xs ys : List V) (x y : V), SqA k1 K H a xs ∧ SqA k2 K H b ys ∧ xs[i]? = some x ∧ ys[i]? = some y,
    fun i H v H' => ∃ T x y, v = .ref T ∧ H T = none ∧ H' = upd H T (.tup [x, y]) ∧ (∀ xs, SqA k1 K H a xs → xs[i]? = some x) ∧ ∀ ys, SqA k2 K H b ys → ys[i]? = some y,
    fun i H => ∃ xs ys : List V, SqA k1 K H a xs ∧ SqA k2 K H b ys ∧ i ≤ xs.length ∧ i ≤ ys.length ∧ (i = xs.length ∨ i = ys.length)⟩
theorem turn_zipA {P : Program} {w : World} {K : PySem.W.Frag} {elts : List Expr} {kk : Nat} {tpos : Pos} {k1 k2 : Bool} {a b z TI TO i1 i2 : Addr} (D : ZipSep2 z TI TO i1 i2 [i1, a] [i2, b]) (na : a ≠ i1) (nb : b ≠ i2) :
    Turn P w K (.Tuple elts kk tpos) (ItzA K k1 k2 a b) [z, TI, TO, i1, i2] z (fun i h => IsZip h z TI TO .none ∧ IsTupOf2 h TI (.ref i1) (.ref i2) ∧ (∃ x y, IsTupOf2 h TO x y) ∧ ItA k1 h i1 a i ∧ ItA k2 h i2 b i) where
  mem := by simp
  obj := fun i h st c hc => by
    obtain ⟨hz, hTI, ⟨x, y, hTO⟩, h1, h2⟩ := st
    have e' : c = z ∨ c = TI ∨ c = TO ∨ c = i1 ∨ c = i2 := by simpa using hc
    rcases e' with q | q | q | q | q
    · rw [q]; exact ⟨_, hz, fun v q => nomatch q⟩
    · rw [q]; exact ⟨_, hTI, fun v q => nomatch q⟩
    · rw [q]; exact ⟨_, hTO, fun v q => nomatch q⟩
    · rw [q]; exact h1.ob
    · rw [q]; exact h2.ob
  keep := fun i h h' st k => by
    obtain ⟨hz, hTI, ⟨x, y, hTO⟩, h1, h2⟩ := st
    exact ⟨k z (by simp) _ hz, k TI (by simp) _ hTI, ⟨x, y, k TO (by simp) _ hTO⟩, h1.at fun o q => k i1 (by simp) o q, h2.at fun o q => k i2 (by simp) o q⟩
  item := by
    intro X hP hw hK hc i pins s σ H E I hf st hg
    subst hP hw hK
    obtain ⟨hz, hTI, ⟨x0, y0, hTO⟩, h1, h2⟩ := st
    obtain ⟨xs, ys, x, y, hqx, hqy, hx, hy⟩ := hg
    obtain ⟨its, rv, p, _⟩ := Inv.seqA I hqx
    obtain ⟨its2, rv2, p2, _⟩ := Inv.seqA I hqy
    obtain ⟨u, hu, ru⟩ := rv.get hx
    obtain ⟨u2, hu2, ru2⟩ := rv2.get hy
    have hzl : z < s.heap.objs.size := Heap.lt_size hz
    have l1 : i < its.toArray.size := by rw [List.size_toArray]; exact (List.getElem?_eq_some_iff.mp hu).1
    have l2 : i < its2.toArray.size := by rw [List.size_toArray]; exact (List.getElem?_eq_some_iff.mp hu2).1
    have hh : (X.A.in1).handled = none := I.ok.hd hc
    refine wpAny_pyNext_zipD2_item D (drawsA hh k1 i1 a na its.toArray) (drawsA hh k2 i2 b nb its2.toArray) hz hTI hTO ⟨h1, p⟩ ⟨h2, p2⟩ l1 l2 fun x1 x2 h' tk y1 y2 z' TO' d1 d2 hT hsz hk => ?_
    have y1 : its.toArray[i]? = some x1 := y1
    have y2 : its2.toArray[i]? = some x2 := y2
    have y1 : its[i]? = some x1 := by simpa using y1
    have y2 : its2[i]? = some x2 := by simpa using y2
    rw [hu] at y1; cases y1
    rw [hu2] at y2; cases y2
    refine ⟨_, rfl, wpAny_letOwnedTupleGo_zip (s := { s with heap := h', toks := tk }) z' fun h'' z'' sb => ?_⟩
    have hT2 : h''.get? s.heap.objs.size = some { cls := .type "tuple", data := .seq #[u, u2] } := (sb.2 _ (Nat.ne_of_gt hzl)).trans hT
    have new : ObjOk X.prog X.w (upd H s.heap.objs.size (.tup [x, y])) h'' s.heap.objs.size (.tup [x, y]) :=
      ⟨by show 2 ≤ sizeLine; decide, [u, u2], .cons ru (.cons ru2 .nil), ⟨_, hT2, rfl, _, rfl⟩⟩
    have I1 : Inv X pins σ (upd H s.heap.objs.size (.tup [x, y])) { s with heap := h'', toks := tk } :=
      I.turnedNew (ch := [z, TI, TO, i1, i2]) (fun c o hb q => (sb.2 c (fun q' => hb (by simp [q']))).trans (hk c o (fun q' => hb (by simp [q'])) (fun q' => hb (by simp [q'])) (fun q' => hb (by simp [q'])) (fun q' => hb (by simp [q'])) q)) hf (Nat.le_refl _) new
    refine ⟨.ref s.heap.objs.size, _, I1, rfl, ⟨_, x, y, rfl, I.hok.fresh (Nat.le_refl _), rfl, fun l hl => by rw [Inv.seqA_inj I hl hqx]; exact hx, fun l hl => by rw [Inv.seqA_inj I hl hqy]; exact hy⟩, ⟨z'', ?_, ⟨u, u2, ?_⟩, ?_, ?_⟩, fun c hcm => ?_⟩
    · exact (sb.2 _ D.TIz).trans (hk _ _ D.TIz D.TITO D.TIi1 D.TIi2 hTI)
    · exact (sb.2 _ D.TOz).trans TO'
    · exact d1.1.at fun o q => (sb.2 _ (Ne.symm D.zi1)).trans q
    · exact d2.1.at fun o q => (sb.2 _ (Ne.symm D.zi2)).trans q
    · have hlt : c < s.heap.objs.size := by
        have e' : c = z ∨ c = TI ∨ c = TO ∨ c = i1 ∨ c = i2 := by simpa using hcm
        rcases e' with q | q | q | q | q
        · rw [q]; exact hzl
        · rw [q]; exact Heap.lt_size hTI
        · rw [q]; exact Heap.lt_size hTO
        · rw [q]; obtain ⟨_, e1, _⟩ := h1.ob; exact Heap.lt_size e1
        · rw [q]; obtain ⟨_, e2, _⟩ := h2.ob; exact Heap.lt_size e2
      rw [upd_ne (Nat.ne_of_lt hlt)]
      exact (hf c hcm).1
  done := by
    intro X hP hw hK hc i pins s σ H E I hf st hg
    subst hP hw hK
    obtain ⟨hz, hTI, ⟨x0, y0, hTO⟩, h1, h2⟩ := st
    obtain ⟨xs, ys, hqx, hqy, g1, g2, hend⟩ := hg
    obtain ⟨its, rv, p, _⟩ := Inv.seqA I hqx
    obtain ⟨its2, rv2, p2, _⟩ := Inv.seqA I hqy
    have l1 := rv.length
    have l2 := rv2.length
    have hh : (X.A.in1).handled = none := I.ok.hd hc
    have z1 : its.toArray.size = xs.length := by rw [List.size_toArray]; exact l1.symm
    have z2 : its2.toArray.size = ys.length := by rw [List.size_toArray]; exact l2.symm
    exact wpAny_pyNext_zipD2_end D (drawsA hh k1 i1 a na its.toArray) (drawsA hh k2 i2 b nb its2.toArray) hz hTI hTO ⟨h1, p⟩ ⟨h2, p2⟩ (by omega) (by omega) (by omega) fun h' tk hk => ⟨rfl, I.turnedL (t' := tk) (ch := [z, TI, TO, i1, i2]) (fun c o hb q =>
      hk c o (fun q' => hb (by simp [q'])) (fun q' => hb (by simp [q'])) (fun q' => hb (by simp [q'])) (fun q' => hb (by simp [q'])) q) hf⟩
  self := fun A i s Q E st h => wpAny_pyIter_zip st.1 h
def iZipB (K : PySem.W.Frag) (ta : TA) : TI := fun σ H R => ta σ H fun vs H1 => ∃ k1 k2 a b xs ys, vs = [.ref a, .ref b] ∧ SqA k1 K H1 a xs ∧ SqA k2 K H1 b ys ∧ R (ItzA K k1 k2 a b) H1
theorem pi_zipB {e e2 : Expr} {ta : TA} {tpos : Pos} {elts : List Expr} {kk : Nat} (hg : Gl X "zip") (hm : X.mg "zip" = none) (ha : PA X [e, e2] ta)
    (hs : starEach [e, e2] X.env = (false, eval e X.env) :: starEach [e2] X.env) (hpl : (backTo pos (starEach [e2] X.env)).any (·.1) = false) :
    PI X (.Tuple elts kk tpos) (.Call (.Name "zip" p) [e, e2] [] pos) (iZipB X.K ta) := by
  refine ⟨fun pins s σ H R I h => ?_⟩
  refine Call_ (ld_blt I hg hm PyProof.Rows.boot_zip (PyProof.Rows.callWith_type1 (thn (ha.run pos pins s σ H _ I h) fun us s1 ⟨vs, H1, I1, r1, q1⟩ => ?_) hs hpl))
  obtain ⟨k1, k2, a, b, xs, ys, ex, hqx, hqy, q⟩ := q1
  subst ex
  cases r1 with
  | cons r rr =>
    cases rr with
    | cons r' rr =>
      cases rr
      cases r
      cases r'
      have fresh5 : ∀ c, c ∈ [s1.heap.objs.size + 4, s1.heap.objs.size + 2, s1.heap.objs.size + 3, s1.heap.objs.size, s1.heap.objs.size + 1] → FpOk X pins H1 c := fun c hcm => by
        have e' : c = s1.heap.objs.size + 4 ∨ c = s1.heap.objs.size + 2 ∨ c = s1.heap.objs.size + 3 ∨ c = s1.heap.objs.size ∨ c = s1.heap.objs.size + 1 := by simpa using hcm
        have hle : s1.heap.objs.size ≤ c := by
          rcases e' with z | z | z | z | z
          · rw [z]; exact Nat.le_add_right _ _
          · rw [z]; exact Nat.le_add_right _ _
          · rw [z]; exact Nat.le_add_right _ _
          · rw [z]; exact Nat.le_refl _
          · rw [z]; exact Nat.le_add_right _ _
        exact I1.fpOk hle (I1.hok.fresh hle)
      obtain ⟨its, rv, p1, la⟩ := Inv.seqA I1 hqx
      obtain ⟨its2, rv2, p2, lb⟩ := Inv.seqA I1 hqy
      refine zip_begins2 (beginsA k1 a its.toArray) (beginsA k2 b its2.toArray) p1 p2 fun h' hz hTI hTO h1 h2 hsz hk => wpAny_pyIter_zip hz ?_
      have I2 : Inv X pins σ H1 { s1 with heap := h' } := I1.kept (t' := s1.toks) hk
      refine ⟨s1.heap.objs.size + 4, [s1.heap.objs.size + 4, s1.heap.objs.size + 2, s1.heap.objs.size + 3, s1.heap.objs.size, s1.heap.objs.size + 1], _, _, H1, rfl, I2, turn_zipA (k1 := k1) (k2 := k2) (zip_sep2 (fp1 := [a]) (fp2 := [b]) (fun c hc => by simp at hc; rw [hc]; exact la) (fun c hc => by simp at hc; rw [hc]; exact lb)) (Nat.ne_of_lt la) (Nat.ne_of_lt (Nat.lt_succ_of_lt lb)), ⟨hz, hTI, ⟨_, _, hTO⟩, ?_, ?_⟩, fresh5, q⟩
      · cases k1 with
        | true => exact ⟨_, h1, rfl, rfl⟩
        | false => exact ⟨_, h1, rfl, rfl⟩
      · cases k2 with
        | true => exact ⟨_, h2, rfl, rfl⟩
        | false => exact ⟨_, h2, rfl, rfl⟩
/-- what items sees, as a sequence -/
theorem seq_of {K : PySem.W.Frag} {sa : Addr} {ph : List Addr} {A : Addr → Prop} {H : Hp} {v : V} {x : D} {ds : List D} (r : Rep sa ph A H v x) (e : items x = some ds) : ∃ k a, v = .ref a ∧ x = (if k then .lst ds else .tup ds) ∧ ∀ {ph : List Addr} {A : Addr → Prop} {H : Hp}, Rep sa ph A H (.ref a) x → ∃ vs, SqA k K H a vs ∧ Reps sa ph A H vs ds := by
  cases x <;> simp only [items] at e <;> try (cases e; done)
  · cases e
    cases r with
    | tup h1 r1 => exact ⟨false, _, rfl, rfl, fun {ph A H} r => by cases r with | tup h r => exact ⟨_, SqT.of h, r⟩⟩
  · cases e
    cases r with
    | lst h1 _ _ r1 => exact ⟨true, _, rfl, rfl, fun {ph A H} r => by cases r with | lst h _ _ r => exact ⟨_, SqL.of h, r⟩⟩
theorem iter_zip {K : PySem.W.Frag} {sa a b : Addr} {k1 k2 : Bool} {x y : D} {xs ys : List D} (hx : ∀ {ph : List Addr} {A : Addr → Prop} {H : Hp}, Rep sa ph A H (.ref a) x → ∃ vs, SqA k1 K H a vs ∧ Reps sa ph A H vs xs)
    (hy : ∀ {ph : List Addr} {A : Addr → Prop} {H : Hp}, Rep sa ph A H (.ref b) y → ∃ vs, SqA k2 K H b vs ∧ Reps sa ph A H vs ys) : IterR sa (ItzA K k1 k2 a b) [(.ref a, x), (.ref b, y)] ((xs.zip ys).map fun p => .tup [p.1, p.2]) := by
  intro ph A H h
  obtain ⟨vs, s1, r1⟩ := hx (h (.ref a, x) (by simp))
  obtain ⟨ws, s2, r2⟩ := hy (h (.ref b, y) (by simp))
  refine ⟨fun i d hd => ?_, vs, ws, s1, s2, ?_⟩
  · rw [List.getElem?_map] at hd
    obtain ⟨p, h1, rfl⟩ := Option.map_eq_some_iff.mp hd
    obtain ⟨g1, g2⟩ := List.getElem?_zip_eq_some.mp h1
    obtain ⟨v1, q1, q2⟩ := r1.get g1
    obtain ⟨v2, q3, q4⟩ := r2.get g2
    refine ⟨⟨vs, ws, v1, v2, s1, s2, q1, q3⟩, fun z H' yy => ?_⟩
    obtain ⟨T, z1, z2, rfl, nT, rfl, f1, f2⟩ := yy
    have e1 := f1 vs s1
    have e2 := f2 ws s2
    rw [q1] at e1
    rw [q3] at e2
    cases e1
    cases e2
    exact .inr ⟨T, _, _, rfl, nT, rfl, rfl, .cons q2 (.cons q4 .nil)⟩
  · rw [List.length_map, List.length_zip, r1.length, r2.length]
    omega
/-! ### the iterators' terms -/
theorem si_seq {tg : Expr} (ha : SE X cl a ia) : SI X cl tg a (.seq ia) := by
  refine ⟨(pi_seq ha.pe).imp fun σ H R q => ?_, ha.pl⟩
  obtain ⟨F, own, ph, ρ, μ, ds, μ', hK, I, ev, k⟩ := q
  obtain ⟨x, μ1, e1, ev⟩ := bind_ok (show (evE F.S (cl F.S) ia ρ >>= fun x => M.opt (items x)) μ = .ok ds μ' by simpa [evT] using ev)
  obtain ⟨e3, rfl⟩ := opt_ok ev
  refine ⟨F, own, ph, ρ, μ, x, _, hK, I, e1, fun ph' v H' I' g V0 => ?_⟩
  have hl : ∀ {L : List Nat}, (newL ia && ds.all D.sc) = false → L = lk ia → lostT (.seq ia) ds = L := fun {L} h1 h2 => by
    show (if (newL ia && ds.all D.sc) = true then [] else lk ia) = L
    rw [if_neg (by rw [h1]; exact Bool.false_ne_true), h2]
  cases x <;> simp only [items] at e3 <;> try (cases e3; done)
  · cases e3
    have rp := V0.rep
    cases rp with
    | tup h1 r1 =>
      refine ⟨_, rfl, .inr ⟨⟨_, SqT.of h1⟩, k ph' H' _ [(.ref _, .tup ds)] I' g (fun q hq => ?_) iter_tup⟩⟩
      simp only [List.mem_singleton] at hq
      subst hq
      by_cases hs : (newL ia && ds.all D.sc) = true
      · rw [Bool.and_eq_true] at hs
        exact .tup h1 (r1.scal hs.2)
      · rw [hl (by simpa using hs) rfl]
        exact .tup h1 r1
  · cases e3
    have rp := V0.rep
    cases rp with
    | lst h1 n1 n2 r1 =>
      refine ⟨_, rfl, .inl ⟨⟨_, SqL.of h1⟩, k ph' H' _ [(.ref _, .lst ds)] I' g (fun q hq => ?_) iter_lst⟩⟩
      simp only [List.mem_singleton] at hq
      subst hq
      by_cases hs : (newL ia && ds.all D.sc) = true
      · rw [Bool.and_eq_true] at hs
        obtain ⟨p0, vs0, e0, hp0, _, _, _⟩ := V0.new hs.1 ds rfl
        cases e0
        exact .lst h1 (I.notAv hp0) n2 (r1.scal hs.2)
      · rw [hl (by simpa using hs) rfl]
        exact .lst h1 n1 n2 r1
theorem si_rng1 {tg : Expr} (hg : Gl X "range") (hm : X.mg "range" = none) (ha : SE X cl a ia) : SI X cl tg (.Call (.Name "range" p) [a] [] pos) (.rng1 ia) := by
  have st := plain_star (X := X) (es := []) ha.pl
  refine ⟨(pi_range1 hg hm (pa_cons ha.pe pa_nil st) st).imp fun σ H R q => ?_, rfl⟩
  obtain ⟨F, own, ph, ρ, μ, ds, μ', hK, I, ev, k⟩ := q
  unfold evT at ev
  obtain ⟨x, μ1, e1, ev⟩ := bind_ok ev
  obtain ⟨e3, rfl⟩ := opt_ok ev
  obtain ⟨i, rfl⟩ : ∃ i, x = .int i := by
    cases x <;> first | exact ⟨_, rfl⟩ | cases e3
  simp only at e3
  split at e3
  · rename_i hs
    cases e3
    have hs := of_decide_eq_true hs
    refine one hK I e1 fun ph2 vx H2 I2 g2 rx => ?_
    cases rx
    refine ⟨i, rfl, hs.1, hs.2, k ph2 H2 _ [] I2 g2 (fun q hq => by cases hq) ?_⟩
    have := iter_rng (sa := F.sa) (lo := 0) (hi := i)
    rwa [Int.sub_zero] at this
  · cases e3
theorem si_rng2 {tg : Expr} (hg : Gl X "range") (hm : X.mg "range" = none) (ha : SE X cl a ia) (hb : SE X cl b ib) : SI X cl tg (.Call (.Name "range" p) [a, b] [] pos) (.rng2 ia ib) := by
  have sb := plain_star (X := X) (es := []) hb.pl
  have st := plain_star (X := X) (es := [b]) ha.pl
  refine ⟨(pi_range2 hg hm (pa_cons ha.pe (pa_cons hb.pe pa_nil sb) st) (by rw [st, sb]; rfl) (by rw [sb]; rfl)).imp fun σ H R q => ?_, rfl⟩
  obtain ⟨F, own, ph, ρ, μ, ds, μ', hK, I, ev, k⟩ := q
  unfold evT at ev
  obtain ⟨x, μ1, e1, ev⟩ := bind_ok ev
  obtain ⟨y, μ2, e2, ev⟩ := bind_ok ev
  obtain ⟨e3, rfl⟩ := opt_ok ev
  obtain ⟨i, j, rfl, rfl⟩ : ∃ i j, x = .int i ∧ y = .int j := by
    cases x <;> cases y <;> first | exact ⟨_, _, rfl, rfl⟩ | cases e3
  simp only at e3
  split at e3
  · rename_i hs
    cases e3
    rw [Bool.and_eq_true] at hs
    have h1 := of_decide_eq_true hs.1
    have h2 := of_decide_eq_true hs.2
    refine two hK I e1 e2 fun ph2 vx vy H2 I2 g2 rx ry => ?_
    cases rx
    cases ry
    exact ⟨i, j, rfl, ⟨h1.1, h1.2, h2.1, h2.2⟩, k ph2 H2 _ [] I2 g2 (fun q hq => by cases hq) iter_rng⟩
  · cases e3
theorem si_zip {elts : List Expr} {kk : Nat} {tpos : Pos} (hg : Gl X "zip") (hm : X.mg "zip" = none) (ha : SE X cl a ia) (hb : SE X cl b ib) : SI X cl (.Tuple elts kk tpos) (.Call (.Name "zip" p) [a, b] [] pos) (.zip ia ib) := by
  have sb := plain_star (X := X) (es := []) hb.pl
  have st := plain_star (X := X) (es := [b]) ha.pl
  refine ⟨(pi_zipB hg hm (pa_cons ha.pe (pa_cons hb.pe pa_nil sb) st) st (noStars (by simp [hb.pl]) pos)).imp fun σ H R q => ?_, rfl⟩
  obtain ⟨F, own, ph, ρ, μ, ds, μ', hK, I, ev, k⟩ := q
  unfold evT at ev
  obtain ⟨x, μ1, e1, ev⟩ := bind_ok ev
  obtain ⟨y, μ2, e2, ev⟩ := bind_ok ev
  obtain ⟨e3, rfl⟩ := opt_ok ev
  obtain ⟨xs, h1, e3⟩ := Option.bind_eq_some_iff.mp e3
  obtain ⟨ys, h2, rfl⟩ := Option.map_eq_some_iff.mp e3
  refine two hK I e1 e2 fun ph2 vx vy H2 I2 g2 rx ry => ?_
  obtain ⟨k1, a1, rfl, _, f1⟩ := seq_of (K := X.K) rx h1
  obtain ⟨k2, a2, rfl, _, f2⟩ := seq_of (K := X.K) ry h2
  obtain ⟨vs, s1, _⟩ := f1 rx
  obtain ⟨ws, s2, _⟩ := f2 ry
  refine ⟨k1, k2, a1, a2, vs, ws, rfl, s1, s2, k ph2 H2 _ [(.ref a1, x), (.ref a2, y)] I2 g2 (fun q hq => ?_) (iter_zip f1 f2)⟩
  simp only [List.mem_cons, List.not_mem_nil, or_false] at hq
  rcases hq with rfl | rfl
  · exact rx.weaken lkA
  · exact ry.weaken lkB
end
end Ev

set_option Elab.async false
set_option linter.all false
set_option maxRecDepth 100000
set_option maxHeartbeats 4000000
namespace Ev
open PySem L2 PyProof.Rows
section
variable {X : Cx} {cl : Calls} {a b c : Expr} {ia ib ic : IE} {pos p : Pos} {es : List Expr} {ies : IEs}
/-! ### targets -/
def gsOf : List Nat → TGs
  | [] => gNil
  | i :: is => gCons (gName i) (gsOf is)
def tgR (K : PySem.W.Frag) : Tg → TG
  | .one i => gName i
  | .many is => fun v σ H Q => gTup K is.length (gsOf is) v σ H Q ∨ gUnl K is.length (gsOf is) v σ H Q
def putsV (σ : L2.St) : List Nat → List V → L2.St
  | i :: is, v :: vs => putsV (σ.set i (some v)) is vs
  | _, _ => σ
theorem puts_ok {F : Fx} {own : Nat → Option Addr} {ph : List Addr} {μ : Mu} {H : Hp} : ∀ (is : List Nat) {ρ ρ1 : Env} {σ : L2.St} {vs : List V} {ds : List D} {Q : L2.St → Hp → Prop}, Stt F own ph ρ μ σ H → Reps F.sa ph (Av F own []) H vs ds → puts ρ is ds = some ρ1 →
    (Stt F own ph ρ1 μ (putsV σ is vs) H → Q (putsV σ is vs) H) → gsOf is vs σ H Q
  | [], ρ, ρ1, σ, vs, ds, Q, I, r, e, k => by
    cases ds with
    | nil => cases r; cases e; exact ⟨rfl, k I⟩
    | cons _ _ => cases e
  | i :: is, ρ, ρ1, σ, vs, ds, Q, I, r, e, k => by
    cases ds with
    | nil => cases e
    | cons d ds =>
      cases r with
      | cons r1 r2 => exact ⟨_, _, rfl, puts_ok is (I.put r1) r2 e k⟩
/-- the slots after a target's store -/
def tgV (σ : L2.St) (H : Hp) : Tg → V → L2.St
  | .one i, v => σ.set i (some v)
  | .many is, .ref a => (match H a with | some (.tup vs) => putsV σ is vs | some (.lst vs) => putsV σ is vs | _ => σ)
  | .many _, _ => σ
theorem puts_len {ρ ρ1 : Env} : ∀ {is : List Nat} {ds : List D}, puts ρ is ds = some ρ1 → is.length = ds.length := by
  intro is
  induction is generalizing ρ with
  | nil => intro ds e; cases ds with | nil => rfl | cons _ _ => cases e
  | cons i is ih => intro ds e; cases ds with | nil => cases e | cons d ds => exact congrArg Nat.succ (ih e)
theorem tg_ok {F : Fx} {own : Nat → Option Addr} {ph : List Addr} {μ : Mu} {H : Hp} {K : PySem.W.Frag} {tg : Tg} {ρ ρ1 : Env} {σ : L2.St} {v : V} {d : D} {Q : L2.St → Hp → Prop} (I : Stt F own ph ρ μ σ H) (r : Rep F.sa ph (Av F own []) H v d) (e : tgPut ρ tg d = some ρ1)
    (k : Stt F own ph ρ1 μ (tgV σ H tg v) H → Q (tgV σ H tg v) H) : tgR K tg v σ H Q := by
  cases tg with
  | one i =>
    cases e
    exact k (I.put r)
  | many is =>
    cases r with
    | @tup a vs ds h1 r1 =>
      have hk : tgV σ H (.many is) (.ref a) = putsV σ is vs := by unfold tgV; simp only [h1]
      rw [hk] at k
      exact .inl ⟨_, _, rfl, SqT.of h1, by rw [r1.length, puts_len e], puts_ok is I r1 e k⟩
    | @lst a vs ds h1 n1 n2 r1 =>
      have hk : tgV σ H (.many is) (.ref a) = putsV σ is vs := by unfold tgV; simp only [h1]
      rw [hk] at k
      exact .inr ⟨_, _, rfl, SqL.of h1, by rw [r1.length, puts_len e], puts_ok is I r1 e k⟩
    | non => cases e
    | bl _ => cases e
    | int _ => cases e
    | str _ => cases e
    | scr => cases e
    | mref _ => cases e
/-- a target and its term -/
inductive STg (X : Cx) : Expr → Tg → Prop
  | one {i : Nat} {x : Str} {pos : Pos} : X.N.Nodup → X.N[i]? = some x → Loc X.env.scope x → (X.fn x = true ∨ X.env.scope.names.lookup x = some .local) → STg X (.Name x pos) (.one i)
  | many {es : List Expr} {is : List Nat} {k : Nat} {pos : Pos} : X.calm = true → PGs X es (gsOf is) → es.length = is.length → es.all plainX = true → STg X (.Tuple es k pos) (.many is)
theorem assign_len {X : Cx} : ∀ {es : List Expr}, es.all plainX = true → (assignEach es X.env).length = es.length ∧ (assignEach es X.env).findIdx? (·.1) = none
  | [], _ => ⟨rfl, rfl⟩
  | e :: es, h => by
    rw [List.all_cons, Bool.and_eq_true] at h
    obtain ⟨h1, h2⟩ := assign_len (X := X) h.2
    have e1 : assignEach (e :: es) X.env = (false, assign e X.env) :: assignEach es X.env := by
      have := h.1
      cases e <;> first | rfl | (cases this; done)
    rw [e1]
    refine ⟨congrArg Nat.succ h1, ?_⟩
    rw [List.findIdx?_cons]
    simp [h2]
theorem STg.pg {tg : Expr} {t : Tg} (h : STg X tg t) : PG X tg (tgR X.K t) := by
  cases h with
  | one h1 h2 h3 h4 => exact pg_name h1 h2 h3 h4
  | @many es is k pos h1 h2 h3 h4 =>
    obtain ⟨e1, e2⟩ := assign_len (X := X) h4
    have a1 := pg_tup (pos := pos) (k := k) h1 h2 (by rw [e1, h3]) e2
    have a2 := pg_unl (pos := pos) (k := k) h1 h2 (by rw [e1, h3]) e2
    exact ⟨fun pins s σ H v u Q I r h => h.elim (a1.run pins s σ H v u Q I r) (a2.run pins s σ H v u Q I r)⟩
/-- names as targets, one after another -/
theorem pgs_names (hN : X.N.Nodup) : ∀ {es : List Expr} {is : List Nat}, (∀ j : Nat, ∀ e, es[j]? = some e → ∃ i x pos, is[j]? = some i ∧ e = .Name x pos ∧ X.N[i]? = some x ∧ Loc X.env.scope x ∧ (X.fn x = true ∨ X.env.scope.names.lookup x = some .local)) → es.length = is.length → PGs X es (gsOf is)
  | [], [], _, _ => pgs_nil
  | [], _ :: _, _, e => by cases e
  | _ :: _, [], _, e => by cases e
  | e :: es, i :: is, h, hl => by
    obtain ⟨i', x, pos, h1, rfl, h2, h3, h4⟩ := h 0 e rfl
    cases h1
    exact pgs_cons (pg_name hN h2 h3 h4) (pgs_names hN (fun j e he => h (j + 1) e he) (by simpa using hl))
theorem wipe_set {σ : L2.St} {x : Option V} {i : Nat} : ∀ {vs : List Nat}, i ∈ vs → L2.wipe (σ.set i x) vs = L2.wipe σ vs
  | [], h => by cases h
  | v :: vs, h => by
    unfold L2.wipe
    by_cases hv : i ∈ vs
    · rw [wipe_set hv]
    · have e : i = v := by rcases List.mem_cons.mp h with e | e; exact e; exact absurd e hv
      subst e
      have : L2.wipe (σ.set i x) vs = (L2.wipe σ vs).set i x := by
        clear h
        induction vs with
        | nil => rfl
        | cons w ws ih =>
          unfold L2.wipe
          rw [ih (fun z => hv (List.mem_cons_of_mem _ z)), List.set_comm _ _ (fun z => hv (by rw [z]; simp))]
      rw [this, List.set_set]
theorem wipe_idem {σ : L2.St} : ∀ {vs ws : List Nat}, (∀ v ∈ ws, v ∈ vs) → L2.wipe (L2.wipe σ ws) vs = L2.wipe σ vs
  | vs, [], _ => rfl
  | vs, w :: ws, h => by
    show L2.wipe ((L2.wipe σ ws).set w none) vs = L2.wipe σ vs
    rw [wipe_set (h w (by simp)), wipe_idem fun v hv => h v (List.mem_cons_of_mem _ hv)]
theorem wipe_puts {vs : List Nat} : ∀ {is : List Nat} {xs : List V} {σ : L2.St}, (∀ i ∈ is, i ∈ vs) → L2.wipe (putsV σ is xs) vs = L2.wipe σ vs
  | [], xs, σ, _ => by cases xs <;> rfl
  | i :: is, [], σ, _ => rfl
  | i :: is, x :: xs, σ, h => by
    show L2.wipe (putsV (σ.set i (some x)) is xs) vs = _
    rw [wipe_puts fun j hj => h j (List.mem_cons_of_mem _ hj), wipe_set (h i (by simp))]
def tgIn (vs : List Nat) : Tg → Bool
  | .one i => decide (i ∈ vs)
  | .many is => is.all fun i => decide (i ∈ vs)
theorem wipe_tg {vs : List Nat} {tg : Tg} {σ : L2.St} {H : Hp} {v : V} (h : tgIn vs tg = true) : L2.wipe (tgV σ H tg v) vs = L2.wipe σ vs := by
  cases tg with
  | one i => exact wipe_set (of_decide_eq_true h)
  | many is =>
    have hi : ∀ i ∈ is, i ∈ vs := fun i hi => of_decide_eq_true (List.all_eq_true.mp h i hi)
    cases v with
    | ref a =>
      show L2.wipe (match H a with | some (.tup vs) => putsV σ is vs | some (.lst vs) => putsV σ is vs | _ => σ) vs = _
      split
      · exact wipe_puts hi
      · exact wipe_puts hi
      · rfl
    | _ => rfl

/-! ### comprehensions -/
/-- the state within: the new list at D is not reached, what is walked is held -/
theorem Stt.inner {F : Fx} {own : Nat → Option Addr} {ph : List Addr} {ρ : Env} {μ : Mu} {σ : L2.St} {H : Hp} {D : Addr} {o : HO} {held : List (V × Ev.D)} (I : Stt F own ph ρ μ σ H) (hD : H D = none) (hh : ∀ p ∈ held, Rep F.sa ph (Av F own []) H p.1 p.2) :
    Stt { F with B := fun a => F.B a ∨ a = D, held := held ++ F.held } own ph ρ μ σ (upd H D o) := by
  have J := I.laid (o := o) hD
  have g : Grow ph H ph (upd H D o) := Grow.new hD
  have nav : ∀ a, Av { F with B := fun a => F.B a ∨ a = D, held := held ++ F.held } own [] a → Av F own [] a ∨ H a = none := fun a z => by
    rcases z with (z | z) | z
    · exact .inl (.inl z)
    · exact .inr (by rw [z]; exact hD)
    · exact .inl (.inr z)
  have pown : ∀ j, own j ≠ some D := fun j e => by
    obtain ⟨ws, e'⟩ := I.oreal j D e
    rw [hD] at e'; cases e'
  refine ⟨fun i b d h => ?_, J.lenE, J.mu, J.fr, J.old, J.phx, J.onew, J.ophi, J.oinj, J.oreal, fun a h => ?_, fun a h => ?_, fun i q e h => ?_, J.scr, fun q hq => ?_⟩
  · obtain ⟨v, h1, h2⟩ := I.slots i b d h
    refine ⟨v, h1, ?_⟩
    cases b with
    | false => exact g.repN I.mu nav h2
    | true =>
      obtain ⟨q, vs, ds, q1, q2, q3, q4, q5⟩ := h2
      exact ⟨q, vs, ds, q1, q2, q3, g.keep _ _ q4 (I.ophi i q q3), g.repsN I.mu nav q5⟩
  · rcases h with h | h
    · exact J.bdom a h
    · rw [h, upd_same]; exact fun z => by cases z
  · rcases h with h | h
    · exact J.bphi a h
    · rw [h]; exact I.notPhi hD
  · rcases h with h | h
    · exact J.onb i q e h
    · rw [h] at e; exact pown i e
  · rcases List.mem_append.mp hq with hq | hq
    · exact g.repN I.mu nav (hh q hq)
    · exact g.repN I.mu nav (I.held q hq)
/-- a list that nothing reaches is changed -/
theorem Stt.updB {F : Fx} {own : Nat → Option Addr} {ph : List Addr} {ρ : Env} {μ : Mu} {σ : L2.St} {H : Hp} {D : Addr} {xs ys : List V} (I : Stt F own ph ρ μ σ H) (hB : F.B D) (hD : H D = some (.lst xs)) (h0 : F.H0 D = none) : Stt F own ph ρ μ σ (upd H D (.lst ys)) := by
  have kT : ∀ a vs, H a = some (.tup vs) → upd H D (.lst ys) a = some (.tup vs) := fun a vs h => by
    rw [upd_ne (fun z => by subst z; rw [h] at hD; cases hD)]; exact h
  have neA : ∀ {L : List Nat} {a}, ¬ Av F own L a → a ≠ D := fun {L a} n z => n (.inl (by rw [z]; exact hB))
  have rep : ∀ {L : List Nat} {v : V} {d : Ev.D}, Rep F.sa ph (Av F own L) H v d → Rep F.sa ph (Av F own L) (upd H D (.lst ys)) v d := fun {L v d} r =>
    Rep.mono kT (fun a vs h n1 n2 => ⟨by rw [upd_ne (neA n1)]; exact h, n1, n2⟩) (fun _ _ z => z) d v r
  have reps : ∀ {L : List Nat} {v : List V} {d : List Ev.D}, Reps F.sa ph (Av F own L) H v d → Reps F.sa ph (Av F own L) (upd H D (.lst ys)) v d := fun {L v d} r =>
    Reps.mono kT (fun a vs h n1 n2 => ⟨by rw [upd_ne (neA n1)]; exact h, n1, n2⟩) (fun _ _ z => z) d v r
  have repT : ∀ {v : List V} {d : List Ev.D}, Reps F.sa ph (fun _ => True) H v d → Reps F.sa ph (fun _ => True) (upd H D (.lst ys)) v d := fun {v d} r =>
    Reps.mono kT (fun a vs h n1 n2 => absurd trivial n1) (fun _ _ z => z) d v r
  have some' : ∀ {a}, H a ≠ none → upd H D (.lst ys) a ≠ none := fun {a} h z => by
    by_cases q : a = D
    · subst q; rw [upd_same] at z; cases z
    · rw [upd_ne q] at z; exact h z
  refine ⟨fun i b d h => ?_, I.lenE, ⟨I.mu.len, I.mu.nd, fun n a mo h1 h2 => ?_⟩, fun a o h n => ?_, fun a o h => some' (I.old a o h), I.phx, I.onew, I.ophi, I.oinj, fun i q h => ?_, fun a h => some' (I.bdom a h), I.bphi, I.onb, ?_, fun q hq => rep (I.held q hq)⟩
  · obtain ⟨v, h1, h2⟩ := I.slots i b d h
    refine ⟨v, h1, ?_⟩
    cases b with
    | false => exact rep h2
    | true =>
      obtain ⟨q, vs, ds, q1, q2, q3, q4, q5⟩ := h2
      exact ⟨q, vs, ds, q1, q2, q3, by rw [upd_ne (fun z => I.onb i q q3 (by rw [z]; exact hB))]; exact q4, reps q5⟩
  · have r := I.mu.mo n a mo h1 h2
    cases mo with
    | lst ds =>
      obtain ⟨vs, q1, q2⟩ := r
      exact ⟨vs, by rw [upd_ne (fun z => I.bphi D hB (by rw [← z]; exact List.mem_of_getElem? h1))]; exact q1, repT q2⟩
  · rw [upd_ne (fun z => by subst z; rw [h0] at h; cases h)]
    exact I.fr a o h n
  · obtain ⟨vs, q1⟩ := I.oreal i q h
    exact ⟨vs, by rw [upd_ne (fun z => I.onb i q h (by rw [z]; exact hB))]; exact q1⟩
  · rcases I.scr with ⟨ob, q⟩ | q
    · exact .inl ⟨ob, by rw [upd_ne (fun z => by rw [z, hD] at q; cases q)]; exact q⟩
    · exact .inr q
theorem Grow.updN {ph ph' : List Addr} {H H' : Hp} {D : Addr} {o : HO} (g : Grow ph H ph' H') (hD : H D = Option.none) : Grow ph H ph' (upd H' D o) :=
  ⟨fun a u h n => by rw [upd_ne (ne_of_none h hD)]; exact g.keep a u h n, g.ext, fun a u h => by rw [upd_ne (ne_of_none h hD)]; exact g.old a u h⟩
/-- the test of a clause -/
def tCd (K : PySem.W.Frag) (cl : Calls) : IO → TT
  | .none => tYes
  | .some e => tT K cl e
theorem compM_cons {f : D → M (Option D)} {d : D} {ds rs : List D} {μ μ' : Mu} (h : compM f (d :: ds) μ = .ok rs μ') : ∃ r μ1 t, f d μ = .ok r μ1 ∧ compM f ds μ1 = .ok t μ' ∧ rs = (match r with | some d => d :: t | none => t) := by
  obtain ⟨r, μ1, e1, h⟩ := bind_ok (show (f d >>= fun r => compM f ds >>= fun rs => pure (match r with | some d => d :: rs | none => rs)) μ = .ok rs μ' from h)
  obtain ⟨t, μ2, e2, h⟩ := bind_ok h
  obtain ⟨h1, h2⟩ := pure_ok h
  subst h2
  exact ⟨r, μ1, t, e1, e2, h1.symm⟩
theorem lostT_sub {it : IT} {ds : List D} : ∀ i ∈ lostT it ds, i ∈ lkT it := by
  intro i h
  cases it with
  | seq a =>
    have h : i ∈ (if (newL a && ds.all D.sc) = true then [] else lk a) := h
    by_cases q : (newL a && ds.all D.sc) = true
    · rw [if_pos q] at h; cases h
    · rw [if_neg q] at h; exact h
  | rng1 a => exact h
  | rng2 a b => exact h
  | zip a b => exact h
  | enum a => exact h
theorem Reps.updB {F : Fx} {own : Nat → Option Addr} {ph : List Addr} {H : Hp} {D : Addr} {xs ys : List V} {L : List Nat} {vs : List V} {ds : List Ev.D} (r : Reps F.sa ph (Av F own L) H vs ds) (hB : F.B D) (hD : H D = some (.lst xs)) : Reps F.sa ph (Av F own L) (upd H D (.lst ys)) vs ds :=
  Reps.mono (fun a vs h => by rw [upd_ne (fun z => by subst z; rw [h] at hD; cases hD)]; exact h) (fun a vs h n1 n2 => ⟨by rw [upd_ne (fun z => n1 (.inl (by rw [z]; exact hB)))]; exact h, n1, n2⟩) (fun _ _ z => z) ds vs r
theorem cond_ok {F : Fx} {own : Nat → Option Addr} {ph : List Addr} {ρ : Env} {μ μ' : Mu} {σ : L2.St} {H : Hp} {io : IO} {kb : Bool} {Q : Bool → Hp → Prop} {K : PySem.W.Frag} (hK : F.K = K) (S : Stt F own ph ρ μ σ H) (e : evC F.S (cl F.S) io ρ μ = .ok kb μ')
    (k : ∀ ph' H', Stt F own ph' ρ μ' σ H' → Grow ph H ph' H' → Q kb H') : tCd K cl io σ H Q := by
  cases io with
  | none =>
    obtain ⟨rfl, rfl⟩ := pure_ok (show (pure true : M Bool) μ = .ok kb μ' by simpa [evC] using e)
    exact k ph H S (Grow.refl _ _)
  | some ie =>
    obtain ⟨x, μ1, e1, e⟩ := bind_ok (show (evE F.S (cl F.S) ie ρ >>= fun x => M.opt (truth x)) μ = .ok kb μ' by simpa [evC] using e)
    obtain ⟨e2, rfl⟩ := opt_ok e
    rw [truth_bl e2] at e1
    exact ⟨F, own, ph, ρ, μ, kb, _, hK, S, e1, k⟩
/-- the yielded item, whatever it is -/
theorem yld_ok {F : Fx} {own : Nat → Option Addr} {ph : List Addr} {ρ : Env} {μ : Mu} {σ : L2.St} {H H' : Hp} {x : V} {d : D} (S : Stt F own ph ρ μ σ H)
    (h : (H' = H ∧ Rep F.sa ph (Av F own []) H x d) ∨ ∃ T vs es, x = .ref T ∧ H T = none ∧ H' = upd H T (.tup vs) ∧ d = .tup es ∧ Reps F.sa ph (Av F own []) H vs es) :
    Stt F own ph ρ μ σ H' ∧ Grow ph H ph H' ∧ Rep F.sa ph (Av F own []) H' x d := by
  rcases h with ⟨rfl, r⟩ | ⟨T, vs, es, rfl, nT, rfl, rfl, r⟩
  · exact ⟨S, Grow.refl _ _, r⟩
  · exact ⟨S.laid nT, Grow.new nT, .tup upd_same ((Grow.new nT).reps S.mu r)⟩
theorem comp_main {K : PySem.W.Frag} {vs : List Nat} {t : Tg} {it : IT} {cond : IO} {ielt : IE} (hin : tgIn vs t = true) {σ : L2.St} {H : Hp} {Q : VK} (q : tE K cl (.comp vs t it cond ielt) σ H Q) :
    tLc (tI K cl it) (tgR K t) (tCd K cl cond) (tE K cl ielt) vs σ H Q := by
  obtain ⟨F, own, ph, ρ, μ, d, μ', hK, I, ev, k⟩ := q
  unfold evE at ev
  obtain ⟨ds, μ1, e1, ev⟩ := bind_ok ev
  obtain ⟨rs, μ2, e2, ev⟩ := bind_ok ev
  split at ev
  · rename_i hz
    obtain ⟨rfl, rfl⟩ := pure_ok ev
    refine ⟨F, own, ph, ρ, μ, ds, μ1, hK, I, e1, fun ph1 H1 J held I1 g1 hh hit => ?_⟩
    intro D hD
    have J0 : Stt F (owns own (lkT it)) ph1 (thaw (wipeE ρ vs) (lkT it)) μ1 (L2.wipe σ vs) H1 := (I1.wipe vs).thaw (lkT it)
    have hh0 : ∀ p ∈ held, Rep F.sa ph1 (Av F (owns own (lkT it)) []) H1 p.1 p.2 := fun p hp => (hh p hp).weaken fun a z => av_sub lostT_sub (av_owns.mp z)
    have J1 := J0.inner (o := .lst []) hD hh0
    generalize hF : ({ F with B := fun a => F.B a ∨ a = D, held := held ++ F.held } : Fx) = F' at J1
    have eS : F'.S = F.S := by rw [← hF]
    have eK : F'.K = K := by rw [← hF]; exact hK
    have ea : F'.sa = F.sa := by rw [← hF]
    have eB : F'.B D := by rw [← hF]; exact .inr rfl
    have e0 : F'.H0 D = none := by
      rw [← hF]
      cases q : F.H0 D with
      | none => rfl
      | some o => exact absurd hD (I1.old D o q)
    have eheld : ∀ p ∈ held, p ∈ F'.held := fun p hp => by rw [← hF]; exact List.mem_append_left _ hp
    have av' : ∀ a, Av F own (lkT it ++ lk ielt) a ∨ a = D → Av F' (owns own (lkT it)) (lk ielt) a := fun a z => by
      rw [← hF]
      rcases z with (z | ⟨j, z1, z2⟩) | z
      · exact .inl (.inl z)
      · refine .inr ⟨j, ?_, fun q => z2 (List.mem_append_right _ q)⟩
        unfold owns
        rw [if_neg fun q => z2 (List.mem_append_left _ q)]
        exact z1
      · exact .inl (.inr z)
    rw [← ea] at hit
    refine ⟨fun i m H' => m = ds.length - i ∧ i ≤ ds.length ∧ ∃ ph' μi accV acc rest, Stt F' (owns own (lkT it)) ph' (thaw (wipeE ρ vs) (lkT it)) μi (L2.wipe σ vs) H' ∧ Grow ph1 H1 ph' H' ∧ H' D = some (.lst accV) ∧
        Reps F'.sa ph' (Av F' (owns own (lkT it)) (lk ielt)) H' accV acc ∧ compM (fun d => M.opt (tgPut (thaw (wipeE ρ vs) (lkT it)) t d) >>= fun ρ1 =>
      evC F.S (cl F.S) cond ρ1 >>= fun k => if k = true then evE F.S (cl F.S) ielt ρ1 >>= fun x => pure (some x) else pure none) (ds.drop i) μi = .ok rest μ2 ∧ rs = acc ++ rest,
      ⟨ds.length, rfl, Nat.zero_le _, ph1, μ1, [], [], rs, J1, (Grow.new hD), upd_same, .nil, e2, rfl⟩, ?_⟩
    rintro i m H' ⟨rfl, hi, ph', μi, accV, acc, rest, S, g, hDl, ra, ec, er⟩
    obtain ⟨fgo, fstop⟩ := hit ph' (Av F' (owns own (lkT it)) []) H' fun p hp => S.held p (eheld p hp)
    by_cases hlt : i < ds.length
    · have hd : ds[i]? = some ds[i] := List.getElem?_eq_getElem hlt
      rw [List.drop_eq_getElem_cons hlt] at ec
      obtain ⟨r, μ3, tl, f1, f2, f3⟩ := compM_cons ec
      obtain ⟨ρ1, μ4, f4, f1⟩ := bind_ok f1
      obtain ⟨f4', f4''⟩ := opt_ok f4
      subst f4''
      obtain ⟨kb, μ5, f5, f1⟩ := bind_ok f1
      refine .inr ⟨(fgo i _ hd).1, _, fun H'' p' => ⟨ds.length - (i + 1), by omega, rfl, hlt, p'⟩, fun x H2 y => ?_⟩
      obtain ⟨S2, g2, rx⟩ := yld_ok S ((fgo i _ hd).2 x H2 y)
      refine tg_ok S2 rx f4' fun S3 => ⟨by rw [wipe_tg hin, wipe_idem fun v hv => hv], ?_⟩
      rw [← eS] at f5 f1
      refine cond_ok eK S3 f5 fun ph3 H3 S4 g3 => ?_
      have hD3 : ∀ {ph3 : List Addr} {H3 : Hp}, Grow ph' H' ph3 H3 → H3 D = some (.lst accV) := fun g => g.keep D _ hDl (S.bphi D eB)
      cases kb with
      | false =>
        obtain ⟨h1, h2⟩ := pure_ok f1
        subst h2
        subst h1
        rw [if_neg Bool.false_ne_true]
        have gg := g2.trans g3
        exact ⟨ph3, _, accV, acc, tl, S.grow gg S4.mu, g.trans gg, hD3 gg, gg.reps S.mu ra, f2, by rw [er, f3]⟩
      | true =>
        obtain ⟨xd, μ6, f6, f1⟩ := bind_ok f1
        obtain ⟨h1, h2⟩ := pure_ok f1
        subst h2
        subst h1
        rw [if_pos rfl]
        refine ⟨F', owns own (lkT it), ph3, ρ1, _, xd, _, eK, S4, f6, fun ph5 v H5 S5 g5 V5 => ?_⟩
        have gg := (g2.trans g3).trans g5
        have hz' : acc.length < 1000000 := by
          rw [er, f3, List.length_append] at hz
          simp only [List.length_cons] at hz
          omega
        refine ⟨accV, hD3 gg, by rw [ra.length]; exact Nat.lt_of_lt_of_le hz' million, ph5, _, accV ++ [v], acc ++ [xd], tl, (S.grow gg S5.mu).updB eB (hD3 gg) e0, (g.trans gg).updN hD, upd_same, ?_, f2, by rw [er, f3, List.append_assoc]; rfl⟩
        exact Reps.updB ((gg.reps S.mu ra).append (.cons V5.rep .nil)) eB (hD3 gg)
    · have e : i = ds.length := by omega
      subst e
      rw [List.drop_length] at ec
      obtain ⟨h1, h2⟩ := pure_ok (show (pure [] : M (List Ev.D)) μi = .ok rest μ2 from ec)
      subst h1 h2
      rw [List.append_nil] at er
      subst er
      refine .inl ⟨fstop, ?_⟩
      have gx := g1.trans g
      rw [ea] at ra
      refine k ph' _ H' (I1.grow g (ea ▸ S.mu)) gx ⟨.lst hDl (I1.notAv hD) (S.bphi D eB) (ra.weaken fun a z => av' a (.inl z)), fun _ es e => ?_⟩
      cases e
      exact ⟨D, accV, rfl, g1.none hD, hDl, S.bphi D eB, ra.weaken fun a z => av' a z⟩
  · cases ev
/-- name = [..]: the model stores within the comprehension where the name is a plain local -/
def swB (scope : Scope) (pos : Pos) (y : Str) (py : Pos) (env : PySem.Env) : Bool := env.blockKind == .function && env.kindOf y == some .local && py.line == pos.line && !(scope.names.any fun (n, k) => n == y && (k == .local || k == .cell))
theorem sw_eq {elt : Expr} {gs : List Comprehension} {scope : Scope} {pos py : Pos} {y : Str} {l : Nat} {env : PySem.Env} : swapsWith (.ListComp elt gs scope pos) (some (.Name y py)) l env = pure (swB scope pos y py env) := rfl
theorem asg_by {elt : Expr} {gs : List Comprehension} {scope : Scope} {te : TE} (h : PE X (.ListComp elt gs scope pos) te)
    (h2 : ∀ (i : Nat) (y : Str) (py spos : Pos), X.N[i]? = some y → X.env.scope.names.lookup y = some .local → swapsWith (.ListComp elt gs scope pos) (some (.Name y py)) spos.line X.env = pure true → PS X (.Assign [.Name y py] (.ListComp elt gs scope pos) spos) (tAsg te (gName i))) :
    ∀ (i : Nat) (y : Str) (py spos : Pos), X.N.Nodup → X.N[i]? = some y → Loc X.env.scope y → (X.fn y = true ∨ X.env.scope.names.lookup y = some .local) → PS X (.Assign [.Name y py] (.ListComp elt gs scope pos) spos) (tAsg te (gName i)) := by
  intro i y py spos hN hi hl hf
  by_cases hs : swB scope pos y py X.env = true
  · have hk : X.env.kindOf y = some .local := by
      unfold swB at hs
      simp only [Bool.and_eq_true] at hs
      exact eq_of_beq hs.1.1.2
    exact h2 i y py spos hi hk (by rw [sw_eq, hs])
  · have hs' : swB scope pos y py X.env = false := by simpa using hs
    exact ps_set hN hi hl h (by rw [sw_eq, hs']) hf
theorem s_comp {elt tg iter : Expr} {ifs : List Expr} {scope : Scope} {ownN : List (Str × Nat)} {vs : List Nat} {t : Tg} {it : IT} {cond : IO} {ielt : IE} (hc : X.calm = true) (hN : X.N.Nodup) (hi : SI X cl tg iter it) (ok : BlkOk X.N X.env.scope scope ownN) (hv : ownN.map (·.2) = vs) (hin : tgIn vs t = true)
    (hg : ∀ (s : Shared) (H : Hp) (C : Addr) (c : List (Str × Addr)) (fp : List Addr), PG (X.blk s H scope (compEnvC scope c C X.env) fp) tg (tgR X.K t)) (ht : ∀ (s : Shared) (H : Hp) (C : Addr) (c : List (Str × Addr)) (fp : List Addr), PTs (X.blk s H scope (compEnvC scope c C X.env) fp) ifs (tCd X.K cl cond))
    (he : ∀ (s : Shared) (H : Hp) (C : Addr) (c : List (Str × Addr)) (fp : List Addr), PE (X.blk s H scope (compEnvC scope c C X.env) fp) elt (tE X.K cl ielt)) :
    SE X cl (.ListComp elt [⟨tg, iter, ifs, 0⟩] scope pos) (.comp vs t it cond ielt) := by
  subst hv
  have h : PE X (.ListComp elt [⟨tg, iter, ifs, 0⟩] scope pos) (tE X.K cl (.comp (ownN.map (·.2)) t it cond ielt)) := (pe_lc hc hN hi.pi ok hg ht he (plain_fold hi.pl)).imp fun σ H Q q => comp_main hin q
  refine ⟨h, fun _ => pt_of h, rfl, fun _ => asg_by h fun i y py spos hy hl hs => ?_⟩
  exact (ps_setLc hc hN hy hl hs hi.pi ok hg ht he (plain_fold hi.pl)).imp fun D σ H q => comp_main hin q
/-! ### two clauses -/
theorem compM2_cons {f : D → M (List D)} {d : D} {ds rs : List D} {μ μ' : Mu} (h : compM2 f (d :: ds) μ = .ok rs μ') : ∃ r μ1 t, f d μ = .ok r μ1 ∧ compM2 f ds μ1 = .ok t μ' ∧ rs = r ++ t := by
  obtain ⟨r, μ1, e1, h⟩ := bind_ok (show (f d >>= fun r => compM2 f ds >>= fun rs => pure (r ++ rs)) μ = .ok rs μ' from h)
  obtain ⟨t, μ2, e2, h⟩ := bind_ok h
  obtain ⟨h1, h2⟩ := pure_ok h
  subst h2
  exact ⟨r, μ1, t, e1, e2, h1.symm⟩
theorem comp2_main {K : PySem.W.Frag} {vs vs1 : List Nat} {t t1 : Tg} {it it1 : IT} {ielt : IE} (hin : tgIn vs t = true) (hin1 : tgIn vs1 t1 = true) {σ : L2.St} {H : Hp} {Q : VK} (q : tE K cl (.comp2 vs vs1 t it t1 it1 ielt) σ H Q) :
    tLc2 (tI K cl it) (tgR K t) tYes (tI K cl it1) (tgR K t1) tYes (tE K cl ielt) vs vs1 σ H Q := by
  obtain ⟨F, own, ph, ρ, μ, d, μ', hK, I, ev, k⟩ := q
  unfold evE at ev
  obtain ⟨ds, μ1, e1, ev⟩ := bind_ok ev
  obtain ⟨rs, μ2, e2, ev⟩ := bind_ok ev
  split at ev
  · rename_i hz
    obtain ⟨rfl, rfl⟩ := pure_ok ev
    refine ⟨F, own, ph, ρ, μ, ds, μ1, hK, I, e1, fun ph1 H1 J held I1 g1 hh hit => ?_⟩
    intro D hD
    have J0 : Stt F (owns own (lkT it)) ph1 (thaw (wipeE ρ vs) (lkT it)) μ1 (L2.wipe σ vs) H1 := (I1.wipe vs).thaw (lkT it)
    have hh0 : ∀ p ∈ held, Rep F.sa ph1 (Av F (owns own (lkT it)) []) H1 p.1 p.2 := fun p hp => (hh p hp).weaken fun a z => av_sub lostT_sub (av_owns.mp z)
    have J1 := J0.inner (o := .lst []) hD hh0
    generalize hF : ({ F with B := fun a => F.B a ∨ a = D, held := held ++ F.held } : Fx) = F' at J1
    have eS : F'.S = F.S := by rw [← hF]
    have eK : F'.K = K := by rw [← hF]; exact hK
    have ea : F'.sa = F.sa := by rw [← hF]
    have eB : F'.B D := by rw [← hF]; exact .inr rfl
    have e0 : F'.H0 D = none := by
      rw [← hF]
      cases q : F.H0 D with
      | none => rfl
      | some o => exact absurd hD (I1.old D o q)
    have eheld : ∀ p ∈ held, p ∈ F'.held := fun p hp => by rw [← hF]; exact List.mem_append_left _ hp
    have av' : ∀ a, Av F own (lkT it ++ (lkT it1 ++ lk ielt)) a ∨ a = D → Av F' (owns own (lkT it)) (lkT it1 ++ lk ielt) a := fun a z => by
      rw [← hF]
      rcases z with (z | ⟨j, z1, z2⟩) | z
      · exact .inl (.inl z)
      · refine .inr ⟨j, ?_, fun q => z2 (List.mem_append_right _ q)⟩
        unfold owns
        rw [if_neg fun q => z2 (List.mem_append_left _ q)]
        exact z1
      · exact .inl (.inr z)
    rw [← ea] at hit
    refine ⟨fun i m H' => m = ds.length - i ∧ i ≤ ds.length ∧ ∃ ph' μi accV acc rest, Stt F' (owns own (lkT it)) ph' (thaw (wipeE ρ vs) (lkT it)) μi (L2.wipe σ vs) H' ∧ Grow ph1 H1 ph' H' ∧ H' D = some (.lst accV) ∧
        Reps F'.sa ph' (Av F' (owns own (lkT it)) (lkT it1 ++ lk ielt)) H' accV acc ∧ compM2 (fun d => M.opt (tgPut (thaw (wipeE ρ vs) (lkT it)) t d) >>= fun ρ1 =>
      evT F.S (cl F.S) it1 ρ1 >>= fun es => compM (fun e => M.opt (tgPut (thaw (wipeE ρ1 vs1) (lkT it1)) t1 e) >>= fun ρ2 => evE F.S (cl F.S) ielt ρ2 >>= fun x => pure (some x)) es) (ds.drop i) μi = .ok rest μ2 ∧ rs = acc ++ rest,
      ⟨ds.length, rfl, Nat.zero_le _, ph1, μ1, [], [], rs, J1, (Grow.new hD), upd_same, .nil, e2, rfl⟩, ?_⟩
    rintro i m H' ⟨rfl, hi, ph', μi, accV, acc, rest, S, g, hDl, ra, ec, er⟩
    obtain ⟨fgo, fstop⟩ := hit ph' (Av F' (owns own (lkT it)) []) H' fun p hp => S.held p (eheld p hp)
    by_cases hlt : i < ds.length
    · have hd : ds[i]? = some ds[i] := List.getElem?_eq_getElem hlt
      rw [List.drop_eq_getElem_cons hlt] at ec
      obtain ⟨r, μ3, tl, f1, f2, f3⟩ := compM2_cons ec
      obtain ⟨ρ1, μ4, f4, f1⟩ := bind_ok f1
      obtain ⟨f4', f4''⟩ := opt_ok f4
      subst f4''
      obtain ⟨es, μ5, f5, f1⟩ := bind_ok f1
      refine .inr ⟨(fgo i _ hd).1, _, fun H'' p' => ⟨ds.length - (i + 1), by omega, rfl, hlt, p'⟩, fun x H2 y => ?_⟩
      obtain ⟨S2, g2, rx⟩ := yld_ok S ((fgo i _ hd).2 x H2 y)
      refine tg_ok S2 rx f4' fun S3 => ⟨by rw [wipe_tg hin, wipe_idem fun v hv => hv], ?_⟩
      rw [← eS] at f5 f1
      simp only [tYes, if_true]
      -- the inner walk
      refine ⟨F', owns own (lkT it), ph', ρ1, _, es, μ5, eK, S3, f5, fun ph3 H3 J3 held3 S4 g3 hh3 hit3 => ?_⟩
      generalize hσ : tgV (L2.wipe σ vs) H2 t x = σ1 at S3 S4
      have T0 : Stt F' (owns (owns own (lkT it)) (lkT it1)) ph3 (thaw (wipeE ρ1 vs1) (lkT it1)) μ5 (L2.wipe σ1 vs1) H3 := (S4.wipe vs1).thaw (lkT it1)
      have hh4 : ∀ p ∈ held3, Rep F'.sa ph3 (Av F' (owns (owns own (lkT it)) (lkT it1)) []) H3 p.1 p.2 := fun p hp => (hh3 p hp).weaken fun a z => av_sub lostT_sub (av_owns.mp z)
      have T1 : Stt { F' with held := held3 ++ F'.held } (owns (owns own (lkT it)) (lkT it1)) ph3 (thaw (wipeE ρ1 vs1) (lkT it1)) μ5 (L2.wipe σ1 vs1) H3 :=
        ⟨T0.slots, T0.lenE, T0.mu, T0.fr, T0.old, T0.phx, T0.onew, T0.ophi, T0.oinj, T0.oreal, T0.bdom, T0.bphi, T0.onb, T0.scr, fun p hp => (List.mem_append.mp hp).elim (hh4 p) (T0.held p)⟩
      generalize hF2 : ({ F' with held := held3 ++ F'.held } : Fx) = F2 at T1
      have eS2 : F2.S = F'.S := by rw [← hF2]
      have eK2 : F2.K = K := by rw [← hF2]; exact eK
      have ea2 : F2.sa = F'.sa := by rw [← hF2]
      have eB2 : F2.B D := by rw [← hF2]; exact eB
      have e02 : F2.H0 D = none := by rw [← hF2]; exact e0
      have eheld2 : ∀ p ∈ held3, p ∈ F2.held := fun p hp => by rw [← hF2]; exact List.mem_append_left _ hp
      have av2 : ∀ a, Av F' (owns own (lkT it)) (lkT it1 ++ lk ielt) a → Av F2 (owns (owns own (lkT it)) (lkT it1)) (lk ielt) a := fun a z => by
        rw [← hF2]
        rcases z with z | ⟨j, z1, z2⟩
        · exact .inl z
        · refine .inr ⟨j, ?_, fun q => z2 (List.mem_append_right _ q)⟩
          show owns (owns own (lkT it)) (lkT it1) j = some a
          unfold owns
          rw [if_neg fun q => z2 (List.mem_append_left _ q)]
          exact z1
      rw [← ea2] at hit3
      have hg03 : Grow ph' H' ph3 H3 := g2.trans g3
      refine ⟨fun j m H' => m = es.length - j ∧ j ≤ es.length ∧ ∃ ph4 μj accW acc2 rest2, Stt F2 (owns (owns own (lkT it)) (lkT it1)) ph4 (thaw (wipeE ρ1 vs1) (lkT it1)) μj (L2.wipe σ1 vs1) H' ∧ Stt F' (owns own (lkT it)) ph4 (thaw (wipeE ρ vs) (lkT it)) μj (L2.wipe σ vs) H' ∧ Grow ph1 H1 ph4 H' ∧ H' D = some (.lst accW) ∧
          Reps F'.sa ph4 (Av F' (owns own (lkT it)) (lkT it1 ++ lk ielt)) H' accW acc2 ∧ compM (fun e => M.opt (tgPut (thaw (wipeE ρ1 vs1) (lkT it1)) t1 e) >>= fun ρ2 => evE F'.S (cl F'.S) ielt ρ2 >>= fun x => pure (some x)) (es.drop j) μj = .ok rest2 μ3 ∧ acc ++ r = acc2 ++ rest2,
        ⟨es.length, rfl, Nat.zero_le _, ph3, μ5, accV, acc, r, T1, S.grow hg03 S4.mu, g.trans hg03, hg03.keep D _ hDl (S.bphi D eB), hg03.reps S.mu ra, f1, rfl⟩, ?_⟩
      rintro j m H5 ⟨rfl, hj, ph4, μj, accW, acc2, rest2, U, W5, g5, hD5, ra5, ec5, er5⟩
      obtain ⟨fgo5, fstop5⟩ := hit3 ph4 (Av F2 (owns (owns own (lkT it)) (lkT it1)) []) H5 fun p hp => U.held p (eheld2 p hp)
      by_cases hlt5 : j < es.length
      · have hd5 : es[j]? = some es[j] := List.getElem?_eq_getElem hlt5
        rw [List.drop_eq_getElem_cons hlt5] at ec5
        obtain ⟨r5, μ7, tl5, b1, b2, b3⟩ := compM_cons ec5
        obtain ⟨ρ2, μ8, b4, b1⟩ := bind_ok b1
        obtain ⟨b4', b4''⟩ := opt_ok b4
        subst b4''
        obtain ⟨xd, μ9, b5, b1⟩ := bind_ok b1
        obtain ⟨h1, h2⟩ := pure_ok b1
        subst h2
        subst h1
        refine .inr ⟨(fgo5 j _ hd5).1, _, fun H'' p' => ⟨es.length - (j + 1), by omega, rfl, hlt5, p'⟩, fun x5 H6 y5 => ?_⟩
        obtain ⟨U2, g6, rx5⟩ := yld_ok U ((fgo5 j _ hd5).2 x5 H6 y5)
        refine tg_ok U2 rx5 b4' fun U3 => ⟨by rw [wipe_tg hin1, wipe_idem fun v hv => hv], ?_⟩
        rw [← eS2] at b5
        refine ⟨F2, owns (owns own (lkT it)) (lkT it1), ph4, ρ2, _, xd, _, eK2, U3, b5, fun ph7 v H7 U7 g7 V7 => ?_⟩
        have gg := g6.trans g7
        have hD7 : H7 D = some (.lst accW) := gg.keep D _ hD5 (U.bphi D eB2)
        have M7 : MuOk F'.sa ph7 H7 _ := ea2 ▸ U7.mu
        have hz' : acc2.length < 1000000 := by
          have q1 := congrArg List.length er5
          rw [b3] at q1
          rw [er, f3, List.length_append, List.length_append] at hz
          simp only [List.length_append, List.length_cons] at q1
          omega
        refine ⟨accW, hD7, by rw [ra5.length]; exact Nat.lt_of_lt_of_le hz' million, ph7, _, accW ++ [v], acc2 ++ [xd], tl5, (U.grow gg U7.mu).updB eB2 hD7 e02, (W5.grow gg M7).updB eB hD7 e0, (g5.trans gg).updN hD, upd_same, ?_, b2, by rw [er5, b3, List.append_assoc]; rfl⟩
        have rv : Rep F'.sa ph7 (Av F' (owns own (lkT it)) (lkT it1 ++ lk ielt)) H7 v xd := by
          have := V7.rep
          rw [ea2] at this
          exact this.weaken av2
        exact Reps.updB ((gg.reps W5.mu ra5).append (.cons rv .nil)) eB hD7
      · have e : j = es.length := by omega
        subst e
        rw [List.drop_length] at ec5
        obtain ⟨h1, h2⟩ := pure_ok (show (pure [] : M (List Ev.D)) μj = .ok rest2 μ3 from ec5)
        subst h1 h2
        rw [List.append_nil] at er5
        refine .inl ⟨fstop5, ph4, _, accW, acc2, tl, W5, g5, hD5, ra5, f2, ?_⟩
        rw [er, f3, ← List.append_assoc, er5]
    · have e : i = ds.length := by omega
      subst e
      rw [List.drop_length] at ec
      obtain ⟨h1, h2⟩ := pure_ok (show (pure [] : M (List Ev.D)) μi = .ok rest μ2 from ec)
      subst h1 h2
      rw [List.append_nil] at er
      subst er
      refine .inl ⟨fstop, ?_⟩
      have gx := g1.trans g
      rw [ea] at ra
      refine k ph' _ H' (I1.grow g (ea ▸ S.mu)) gx ⟨.lst hDl (I1.notAv hD) (S.bphi D eB) (ra.weaken fun a z => av' a (.inl z)), fun _ es e => ?_⟩
      cases e
      exact ⟨D, accV, rfl, g1.none hD, hDl, S.bphi D eB, ra.weaken fun a z => av' a z⟩
  · cases ev
theorem s_comp2 {elt tg iter tg1 iter1 : Expr} {scope : Scope} {ownN : List (Str × Nat)} {vs vs1 : List Nat} {t t1 : Tg} {it it1 : IT} {ielt : IE} (hc : X.calm = true) (hN : X.N.Nodup) (hi : SI X cl tg iter it) (ok : BlkOk X.N X.env.scope scope ownN) (hv : ownN.map (·.2) = vs) (hv1 : ∀ i ∈ vs1, i ∈ vs) (hin : tgIn vs t = true) (hin1 : tgIn vs1 t1 = true)
    (hg : ∀ (s : Shared) (H : Hp) (C : Addr) (c : List (Str × Addr)) (fp : List Addr), PG (X.blk s H scope (compEnvC scope c C X.env) fp) tg (tgR X.K t))
    (hi1 : ∀ (s : Shared) (H : Hp) (C : Addr) (c : List (Str × Addr)) (fp : List Addr), PI (X.blk s H scope (compEnvC scope c C X.env) fp) tg1 iter1 (tI X.K cl it1)) (hp1 : plainX iter1 = true)
    (hg1 : ∀ (s : Shared) (H : Hp) (C : Addr) (c : List (Str × Addr)) (fp : List Addr), PG (X.blk s H scope (compEnvC scope c C X.env) fp) tg1 (tgR X.K t1))
    (he : ∀ (s : Shared) (H : Hp) (C : Addr) (c : List (Str × Addr)) (fp : List Addr), PE (X.blk s H scope (compEnvC scope c C X.env) fp) elt (tE X.K cl ielt)) :
    SE X cl (.ListComp elt [⟨tg, iter, [], 0⟩, ⟨tg1, iter1, [], 0⟩] scope pos) (.comp2 vs vs1 t it t1 it1 ielt) := by
  subst hv
  have hs1 : ∀ env x, foldedSetIterable iter1 env x = pure x := fun env x => by cases iter1 <;> first | rfl | (cases hp1; done)
  have h : PE X (.ListComp elt [⟨tg, iter, [], 0⟩, ⟨tg1, iter1, [], 0⟩] scope pos) (tE X.K cl (.comp2 (ownN.map (·.2)) vs1 t it t1 it1 ielt)) :=
    (pe_lc2 hc hN hi.pi ok hv1 hg (fun _ _ _ _ _ => pts_nil) hi1 hg1 (fun _ _ _ _ _ => pts_nil) he (plain_fold hi.pl) hs1).imp fun σ H Q q => comp2_main hin hin1 q
  refine ⟨h, fun _ => pt_of h, rfl, fun _ => asg_by h fun i y py spos hy hl hs => ?_⟩
  exact (ps_setLc2 hc hN hy hl hs hi.pi ok hv1 hg (fun _ _ _ _ _ => pts_nil) hi1 hg1 (fun _ _ _ _ _ => pts_nil) he (plain_fold hi.pl) hs1).imp fun D σ H q => comp2_main hin hin1 q
end
end Ev

set_option Elab.async false
set_option linter.all false
set_option maxRecDepth 100000
set_option maxHeartbeats 4000000
namespace Ev
open PySem L2 PyProof.Rows
section
variable {F : Fx} {own : Nat → Option Addr} {ph ph' : List Addr} {ρ : Env} {μ μ' : Mu} {σ : L2.St} {H H' : Hp}
/-! ### changes of an own list, of an object -/
theorem Stt.updO {x : Nat} {p : Addr} {xs ys : List V} {es : List D} (I : Stt F own ph ρ μ σ H) (ho : own x = some p) (hs : σ[x]? = some (some (.ref p))) (hp : H p = some (.lst xs)) (r : Reps F.sa ph (Av F own []) H ys es) :
    Stt F own ph (ρ.set x (some (true, .lst es))) μ σ (upd H p (.lst ys)) := by
  have hav : Av F own [] p := .inr ⟨x, ho, by simp⟩
  have kT : ∀ a vs, H a = some (.tup vs) → upd H p (.lst ys) a = some (.tup vs) := fun a vs h => by
    rw [upd_ne (fun z => by subst z; rw [h] at hp; cases hp)]; exact h
  have neA : ∀ {a}, ¬ Av F own [] a → a ≠ p := fun {a} n z => n (by rw [z]; exact hav)
  have rep : ∀ {v : V} {d : Ev.D}, Rep F.sa ph (Av F own []) H v d → Rep F.sa ph (Av F own []) (upd H p (.lst ys)) v d := fun {v d} r =>
    Rep.mono kT (fun a vs h n1 n2 => ⟨by rw [upd_ne (neA n1)]; exact h, n1, n2⟩) (fun _ _ z => z) d v r
  have reps : ∀ {v : List V} {d : List Ev.D}, Reps F.sa ph (Av F own []) H v d → Reps F.sa ph (Av F own []) (upd H p (.lst ys)) v d := fun {v d} r =>
    Reps.mono kT (fun a vs h n1 n2 => ⟨by rw [upd_ne (neA n1)]; exact h, n1, n2⟩) (fun _ _ z => z) d v r
  have repT : ∀ {v : List V} {d : List Ev.D}, Reps F.sa ph (fun _ => True) H v d → Reps F.sa ph (fun _ => True) (upd H p (.lst ys)) v d := fun {v d} r =>
    Reps.mono kT (fun a vs h n1 n2 => absurd trivial n1) (fun _ _ z => z) d v r
  have some' : ∀ {a}, H a ≠ none → upd H p (.lst ys) a ≠ none := fun {a} h z => by
    by_cases q : a = p
    · subst q; rw [upd_same] at z; cases z
    · rw [upd_ne q] at z; exact h z
  refine ⟨fun i b d h => ?_, by rw [List.length_set]; exact I.lenE, ⟨I.mu.len, I.mu.nd, fun n a mo h1 h2 => ?_⟩, fun a o h n => ?_, fun a o h => some' (I.old a o h), I.phx, I.onew, I.ophi, I.oinj, fun i q h => ?_, fun a h => some' (I.bdom a h), I.bphi, I.onb, ?_, fun q hq => rep (I.held q hq)⟩
  · by_cases hi : x = i
    · subst hi
      by_cases hl : x < ρ.length
      · rw [List.getElem?_set_self hl] at h
        cases h
        exact ⟨.ref p, hs, p, ys, es, rfl, rfl, ho, upd_same, reps r⟩
      · rw [List.getElem?_set, if_pos rfl, if_neg hl] at h; cases h
    · rw [List.getElem?_set_ne hi] at h
      obtain ⟨v, h1, h2⟩ := I.slots i b d h
      refine ⟨v, h1, ?_⟩
      cases b with
      | false => exact rep h2
      | true =>
        obtain ⟨q, vs, ds, q1, q2, q3, q4, q5⟩ := h2
        exact ⟨q, vs, ds, q1, q2, q3, by rw [upd_ne (fun z => hi (I.oinj x i p ho (by rw [← z]; exact q3)))]; exact q4, reps q5⟩
  · have r := I.mu.mo n a mo h1 h2
    cases mo with
    | lst ds =>
      obtain ⟨vs, q1, q2⟩ := r
      exact ⟨vs, by rw [upd_ne (fun z => I.ophi x p ho (by rw [← z]; exact List.mem_of_getElem? h1))]; exact q1, repT q2⟩
  · rw [upd_ne (fun z => by subst z; rw [I.onew x a ho] at h; cases h)]
    exact I.fr a o h n
  · by_cases e : q = p
    · subst e; exact ⟨ys, upd_same⟩
    · obtain ⟨vs, q1⟩ := I.oreal i q h
      exact ⟨vs, by rw [upd_ne e]; exact q1⟩
  · rcases I.scr with ⟨ob, q⟩ | q
    · exact .inl ⟨ob, by rw [upd_ne (fun z => by rw [z, hp] at q; cases q)]; exact q⟩
    · exact .inr q
theorem Stt.updM {n : Nat} {a : Addr} {vs ys : List V} {es : List D} (I : Stt F own ph ρ μ σ H) (hn : ph[n]? = some a) (hp : H a = some (.lst vs)) (r : Reps F.sa ph (fun _ => True) H ys es) :
    Stt F own ph ρ (μ.set n (.lst es)) σ (upd H a (.lst ys)) := by
  have hm : a ∈ ph := List.mem_of_getElem? hn
  have kT : ∀ b vs, H b = some (.tup vs) → upd H a (.lst ys) b = some (.tup vs) := fun b vs h => by
    rw [upd_ne (fun z => by subst z; rw [h] at hp; cases hp)]; exact h
  have rep : ∀ {A : Addr → Prop} {v : V} {d : Ev.D}, Rep F.sa ph A H v d → Rep F.sa ph A (upd H a (.lst ys)) v d := fun {A v d} r =>
    Rep.mono kT (fun b vs h n1 n2 => ⟨by rw [upd_ne (fun z => n2 (by rw [z]; exact hm))]; exact h, n1, n2⟩) (fun _ _ z => z) d v r
  have reps : ∀ {A : Addr → Prop} {v : List V} {d : List Ev.D}, Reps F.sa ph A H v d → Reps F.sa ph A (upd H a (.lst ys)) v d := fun {A v d} r =>
    Reps.mono kT (fun b vs h n1 n2 => ⟨by rw [upd_ne (fun z => n2 (by rw [z]; exact hm))]; exact h, n1, n2⟩) (fun _ _ z => z) d v r
  have some' : ∀ {b}, H b ≠ none → upd H a (.lst ys) b ≠ none := fun {b} h z => by
    by_cases q : b = a
    · subst q; rw [upd_same] at z; cases z
    · rw [upd_ne q] at z; exact h z
  refine ⟨fun i b d h => ?_, I.lenE, ⟨by rw [List.length_set]; exact I.mu.len, I.mu.nd, fun k b mo h1 h2 => ?_⟩, fun b o h q => ?_, fun b o h => some' (I.old b o h), I.phx, I.onew, I.ophi, I.oinj, fun i q h => ?_, fun b h => some' (I.bdom b h), I.bphi, I.onb, ?_, fun q hq => rep (I.held q hq)⟩
  · obtain ⟨v, h1, h2⟩ := I.slots i b d h
    refine ⟨v, h1, ?_⟩
    cases b with
    | false => exact rep h2
    | true =>
      obtain ⟨q, vs, ds, q1, q2, q3, q4, q5⟩ := h2
      exact ⟨q, vs, ds, q1, q2, q3, by rw [upd_ne (fun z => I.ophi i q q3 (by rw [z]; exact hm))]; exact q4, reps q5⟩
  · by_cases e : n = k
    · subst e
      rw [hn] at h1
      cases h1
      rw [List.getElem?_set_self (by rw [← I.mu.len]; exact (List.getElem?_eq_some_iff.mp hn).1)] at h2
      cases h2
      exact ⟨ys, upd_same, reps r⟩
    · rw [List.getElem?_set_ne e] at h2
      have r := I.mu.mo k b mo h1 h2
      have ne : b ≠ a := fun z => by
        subst z
        obtain ⟨l1, e1⟩ := List.getElem?_eq_some_iff.mp hn
        obtain ⟨l2, e2⟩ := List.getElem?_eq_some_iff.mp h1
        exact e ((List.getElem_inj I.mu.nd).mp (e1.trans e2.symm))
      cases mo with
      | lst ds =>
        obtain ⟨vs, q1, q2⟩ := r
        exact ⟨vs, by rw [upd_ne ne]; exact q1, reps q2⟩
  · rw [upd_ne (fun z => ?_)]
    · exact I.fr b o h q
    · subst z
      obtain ⟨nw, e1, e2⟩ := I.phx
      rw [e1] at hm
      rcases List.mem_append.mp hm with z | z
      · exact q z
      · rw [e2 b z] at h; cases h
  · obtain ⟨vs, q1⟩ := I.oreal i q h
    exact ⟨vs, by rw [upd_ne (fun z => I.ophi i q h (by rw [z]; exact hm))]; exact q1⟩
  · rcases I.scr with ⟨ob, q⟩ | q
    · exact .inl ⟨ob, by rw [upd_ne (fun z => by rw [z, hp] at q; cases q)]; exact q⟩
    · exact .inr q
/-- a new object -/
theorem Stt.newObj {i : Nat} {p : Addr} (I0 : Stt F own ph ρ μ σ H) (I : Stt F own ph ρ μ σ H') (g : Grow ph H ph H') (hp : H p = none) (hH : H' p = some (.lst [])) :
    Stt F own (ph ++ [p]) (ρ.set i (some (false, .mref μ.length))) (μ ++ [.lst []]) (σ.set i (some (.ref p))) H' := by
  have g2 : Grow ph H (ph ++ [p]) H' := ⟨g.keep, ⟨[p], rfl, fun a ha => by rw [List.mem_singleton.mp ha]; exact hp⟩, g.old⟩
  have hn : p ∉ ph := I0.notPhi hp
  have hM : MuOk F.sa (ph ++ [p]) H' (μ ++ [.lst []]) := by
    refine ⟨by rw [List.length_append, List.length_append, I.mu.len]; rfl, ?_, fun n a mo h1 h2 => ?_⟩
    · rw [List.nodup_append]
      refine ⟨I.mu.nd, by simp, fun a ha b hb => ?_⟩
      rw [List.mem_singleton.mp hb]
      exact fun z => hn (by rw [← z]; exact ha)
    · by_cases hl : n < ph.length
      · rw [List.getElem?_append_left hl] at h1
        rw [List.getElem?_append_left (by rw [← I.mu.len]; exact hl)] at h2
        have r0 := I0.mu.mo n a mo h1 h2
        have r := I.mu.mo n a mo h1 h2
        cases mo with
        | lst ds =>
          obtain ⟨vs, q1, q2⟩ := r
          refine ⟨vs, q1, Reps.mono (fun _ _ h => h) (fun _ _ _ n1 _ => absurd trivial n1) (fun m b h => ?_) ds vs q2⟩
          rw [List.getElem?_append_left (List.getElem?_eq_some_iff.mp h).1]; exact h
      · rw [List.getElem?_append_right (by omega)] at h1
        rw [List.getElem?_append_right (by rw [← I.mu.len]; omega), ← I.mu.len] at h2
        cases q : n - ph.length with
        | zero =>
          rw [q] at h1 h2
          cases h1
          cases h2
          exact ⟨[], hH, .nil⟩
        | succ k => rw [q] at h1; simp at h1
  have J := I0.grow g2 hM
  exact J.put (.mref (by rw [← I.mu.len, List.getElem?_append_right (Nat.le_refl _)]; simp))
theorem Val.lost {e : IE} {v : V} {d : D} (I0 : Stt F own ph ρ μ σ H) (V0 : Val F own (lk e) (newL e) H ph' H' v d) : Rep F.sa ph' (Av F own (lost e d)) H' v d := by
  unfold Ev.lost
  by_cases hs : (d.sc || newL e && d.flat) = true
  · rw [if_pos hs]
    by_cases hd : d.sc = true
    · exact V0.rep.scal hd
    · have q : (newL e && d.flat) = true := by
        rcases Bool.or_eq_true_iff.mp hs with q | q
        · exact absurd q hd
        · exact q
      rw [Bool.and_eq_true] at q
      cases d with
      | lst ds =>
        obtain ⟨p, vs, rfl, hp, hH, hn, r⟩ := V0.new q.1 ds rfl
        exact .lst hH (I0.notAv hp) hn (Reps.scal q.2 r)
      | tup ds => simp [D.flat, D.sc] at q
      | scr => simp [D.flat, D.sc] at q
      | mref n => simp [D.flat, D.sc] at q
      | non => exact absurd rfl hd
      | bl b => exact absurd rfl hd
      | int b => exact absurd rfl hd
      | str b => exact absurd rfl hd
  · rw [if_neg hs]
    exact V0.rep
/-- a new list that is not yet anyone's is kept clear of -/
theorem Stt.guard {p : Addr} {vs : List V} (I0 : Stt F own ph ρ μ σ H) (I : Stt F own ph' ρ μ' σ H') (g : Grow ph H ph' H') (hp : H p = none) (hH : H' p = some (.lst vs)) (hn : p ∉ ph') : Stt { F with B := fun a => F.B a ∨ a = p } own ph' ρ μ' σ H' := by
  have nav : ∀ a, Av { F with B := fun a => F.B a ∨ a = p } own [] a → Av F own [] a ∨ H a = none := fun a z => by
    rcases z with (z | z) | z
    · exact .inl (.inl z)
    · exact .inr (by rw [z]; exact hp)
    · exact .inl (.inr z)
  have pown : ∀ j, own j ≠ some p := fun j e => by
    obtain ⟨ws, e'⟩ := I0.oreal j p e
    rw [hp] at e'; cases e'
  refine ⟨fun i b d h => ?_, I.lenE, I.mu, I.fr, I.old, I.phx, I.onew, I.ophi, I.oinj, I.oreal, fun a h => ?_, fun a h => ?_, fun i q e h => ?_, I.scr, fun q hq => g.repN I0.mu nav (I0.held q hq)⟩
  · obtain ⟨v, h1, h2⟩ := I0.slots i b d h
    refine ⟨v, h1, ?_⟩
    cases b with
    | false => exact g.repN I0.mu nav h2
    | true =>
      obtain ⟨q, vs, ds, q1, q2, q3, q4, q5⟩ := h2
      exact ⟨q, vs, ds, q1, q2, q3, g.keep _ _ q4 (I0.ophi i q q3), g.repsN I0.mu nav q5⟩
  · rcases h with h | h
    · exact I.bdom a h
    · rw [h, hH]; exact fun z => by cases z
  · rcases h with h | h
    · exact I.bphi a h
    · rw [h]; exact hn
  · rcases h with h | h
    · exact I.onb i q e h
    · rw [h] at e; exact pown i e
/-- .. and becomes a slot's own -/
theorem Stt.take {i : Nat} {p : Addr} {vs : List V} {ds : List D} (I : Stt { F with B := fun a => F.B a ∨ a = p } own ph ρ μ σ H) (h0 : F.H0 p = none) (hb : ¬ F.B p) (hH : H p = some (.lst vs)) (r : Reps F.sa ph (fun a => Av F own [] a ∨ a = p) H vs ds) :
    Stt F (fun j => if j = i then some p else own j) ph (ρ.set i (some (true, .lst ds))) μ (σ.set i (some (.ref p))) H := by
  have look : ∀ {j a}, (if j = i then some p else own j) = some a → (j = i ∧ a = p) ∨ (j ≠ i ∧ own j = some a) := fun {j a} z => by
    by_cases hj : j = i
    · rw [if_pos hj] at z; cases z; exact .inl ⟨hj, rfl⟩
    · rw [if_neg hj] at z; exact .inr ⟨hj, z⟩
  have nav : ∀ a, Av F (fun j => if j = i then some p else own j) [] a → Av { F with B := fun a => F.B a ∨ a = p } own [] a := fun a z => by
    rcases z with z | ⟨j, z, _⟩
    · exact .inl (.inl z)
    · rcases look z with ⟨_, q⟩ | ⟨_, q⟩
      · exact .inl (.inr q)
      · exact .inr ⟨j, q, by simp⟩
  have pown : ∀ j, own j ≠ some p := fun j e => I.onb j p e (.inr rfl)
  refine ⟨fun j b d h => ?_, by rw [List.length_set, List.length_set]; exact I.lenE, I.mu, I.fr, I.old, I.phx, fun j q e => ?_, fun j q e => ?_, fun j k q e1 e2 => ?_, fun j q e => ?_, fun a h => I.bdom a (.inl h), fun a h => I.bphi a (.inl h), fun j q e h => ?_, I.scr, fun q hq => (I.held q hq).weaken nav⟩
  · by_cases hj : i = j
    · subst hj
      by_cases hl : i < ρ.length
      · rw [List.getElem?_set_self hl] at h
        cases h
        refine ⟨.ref p, List.getElem?_set_self (by rw [← I.lenE]; exact hl), p, vs, ds, rfl, rfl, if_pos rfl, hH, r.weaken fun a z => ?_⟩
        rcases nav a z with (z | z) | z
        · exact .inl (.inl z)
        · exact .inr z
        · exact .inl (.inr z)
      · rw [List.getElem?_set, if_pos rfl, if_neg hl] at h; cases h
    · rw [List.getElem?_set_ne hj] at h
      obtain ⟨w, h1, h2⟩ := I.slots j b d h
      refine ⟨w, by rw [List.getElem?_set_ne hj]; exact h1, ?_⟩
      cases b with
      | false => exact Rep.weaken nav h2
      | true =>
        obtain ⟨q, ws, es, q1, q2, q3, q4, q5⟩ := h2
        exact ⟨q, ws, es, q1, q2, by show (if j = i then some p else own j) = some q; rw [if_neg (Ne.symm hj)]; exact q3, q4, q5.weaken nav⟩
  · rcases look e with ⟨_, rfl⟩ | ⟨_, q'⟩
    · exact h0
    · exact I.onew j q q'
  · rcases look e with ⟨_, rfl⟩ | ⟨_, q'⟩
    · exact I.bphi q (.inr rfl)
    · exact I.ophi j q q'
  · rcases look e1 with ⟨a1, rfl⟩ | ⟨a1, q1⟩ <;> rcases look e2 with ⟨a2, a3⟩ | ⟨a2, q2⟩
    · rw [a1, a2]
    · exact absurd q2 (pown k)
    · subst a3; exact absurd q1 (pown j)
    · exact I.oinj j k q q1 q2
  · rcases look e with ⟨_, rfl⟩ | ⟨_, q'⟩
    · exact ⟨vs, hH⟩
    · exact I.oreal j q q'
  · rcases look e with ⟨a1, rfl⟩ | ⟨_, q'⟩
    · exact hb h
    · exact I.onb j q q' (.inl h)
/-- Stt.bind with the owners told -/
theorem Stt.bind' (I0 : Stt F own ph ρ μ σ H) (I : Stt F own ph' ρ μ' σ H') (g : Grow ph H ph' H') {e : IE} {i : Nat} {v : V} {d : D} (V0 : Val F own (lk e) (newL e) H ph' H' v d) :
    ∃ own', (∀ j a, own' j = some a → (own j = some a ∧ j ∉ lost e d) ∨ H a = none) ∧ Stt F own' ph' (bindTo ρ i e d) μ' (σ.set i (some v)) H' := by
  have J0 := I0.thaw (Ev.lost e d)
  have J := I.thaw (Ev.lost e d)
  unfold bindTo
  by_cases hN : (newL e && d.isL) = true
  · rw [hN]
    rw [Bool.and_eq_true] at hN
    cases d with
    | lst ds =>
      obtain ⟨p, vs, rfl, hp, hH, hn, r⟩ := V0.new hN.1 ds rfl
      refine ⟨_, fun j a e => ?_, J0.ownNew J g hp hH hn ?_⟩
      · by_cases hj : j = i
        · rw [if_pos hj] at e; cases e; exact .inr hp
        · rw [if_neg hj] at e; exact .inl (owns_some e)
      · by_cases hf : (D.lst ds).flat = true
        · exact Reps.scal hf r
        · have e1 : Ev.lost e (.lst ds) = lk e := by
            unfold Ev.lost
            rw [if_neg]
            intro z
            simp only [D.sc, Bool.false_or, Bool.and_eq_true] at z
            exact hf z.2
          rw [e1]
          exact r.weaken fun a z => z.imp (fun q => av_owns.mp q) id
    | _ => cases hN.2
  · have hN' : (newL e && d.isL) = false := by simpa using hN
    rw [hN']
    exact ⟨_, fun j a e => .inl (owns_some e), J.put ((V0.lost I0).weaken fun a z => av_owns.mp z)⟩
theorem Val.later {ph2 : List Addr} {H2 : Hp} {L : List Nat} {nw : Bool} {v : V} {d : D} (V0 : Val F own L nw H ph' H' v d) (g : Grow ph' H' ph2 H2) (M : MuOk F.sa ph' H' μ') : Val F own L nw H ph2 H2 v d := by
  refine ⟨g.rep M V0.rep, fun h ds e => ?_⟩
  obtain ⟨p, vs, h1, h2, h3, h4, h5⟩ := V0.new h ds e
  exact ⟨p, vs, h1, h2, g.keep _ _ h3 h4, g.notin h3 h4, g.reps M h5⟩
theorem Stt.unheld {held : List (V × D)} (I : Stt { F with held := held ++ F.held } own ph ρ μ σ H) : Stt F own ph ρ μ σ H :=
  ⟨I.slots, I.lenE, I.mu, I.fr, I.old, I.phx, I.onew, I.ophi, I.oinj, I.oreal, I.bdom, I.bphi, I.onb, I.scr, fun p hp => I.held p (List.mem_append_right _ hp)⟩
end

/-! ### readings of statements -/
/-- how a run ends -/
def EndR (F : Fx) (E : Ends) (μ : Mu) (ρ : Env) : Fl → Prop
  | .next => ∀ own ph σ H, Stt F own ph ρ μ σ H → E.nx σ H
  | .cont => ∀ own ph σ H, Stt F own ph ρ μ σ H → E.ct σ H
  | .ret d => ∀ own ph σ H v, Stt F own ph ρ μ σ H → Rep F.sa ph F.B H v d → E.rt v H
def tS (K : PySem.W.Frag) (cl : Calls) (s : IS) : TS := fun E σ H => ∃ F own ph ρ μ fl ρ' μ', F.K = K ∧ Stt F own ph ρ μ σ H ∧ evS F.S (cl F.S) s ρ μ = .ok (fl, ρ') μ' ∧ EndR F E μ' ρ' fl
def tSs (K : PySem.W.Frag) (cl : Calls) (s : ISs) : TS := fun E σ H => ∃ F own ph ρ μ fl ρ' μ', F.K = K ∧ Stt F own ph ρ μ σ H ∧ evSs F.S (cl F.S) s ρ μ = .ok (fl, ρ') μ' ∧ EndR F E μ' ρ' fl
section
variable {X : Cx} {cl : Calls} {a b c e : Expr} {ia ib ic ie : IE} {pos p px py : Pos} {st : Stmt} {rest : List Stmt} {s : IS} {ss ss' : ISs} {i j : Nat} {x y : Str}
theorem ss_nil : PSs X [] (tSs X.K cl .nil) := pss_nil.imp fun E σ H q => by
  obtain ⟨F, own, ph, ρ, μ, fl, ρ', μ', hK, I, ev, k⟩ := q
  unfold evSs at ev
  obtain ⟨h1, rfl⟩ := pure_ok ev
  cases h1
  exact k own ph σ H I
theorem ss_cons (h1 : PS X st (tS X.K cl s)) (h2 : PSs X rest (tSs X.K cl ss)) : PSs X (st :: rest) (tSs X.K cl (.cons s ss)) := (pss_cons h1 h2).imp fun E σ H q => by
  obtain ⟨F, own, ph, ρ, μ, fl, ρ', μ', hK, I, ev, k⟩ := q
  unfold evSs at ev
  obtain ⟨⟨fl1, ρ1⟩, μ1, e1, ev⟩ := bind_ok ev
  refine ⟨F, own, ph, ρ, μ, fl1, ρ1, μ1, hK, I, e1, ?_⟩
  cases fl1 with
  | next => exact fun own' ph' σ' H' I' => ⟨F, own', ph', ρ1, μ1, fl, ρ', μ', hK, I', ev, k⟩
  | cont =>
    obtain ⟨h, rfl⟩ := pure_ok ev
    cases h
    exact k
  | ret d =>
    obtain ⟨h, rfl⟩ := pure_ok ev
    cases h
    exact k
theorem noswap {tg : Option Expr} {l : Nat} (h : plainX e = true) (hc : isComp e = false) : swapsWith e tg l X.env = pure false := by
  cases e <;> first | rfl | (cases h; done) | (cases hc; done)
theorem ss_assign (h : SE X cl e ie) (hN : X.N.Nodup) (hi : X.N[i]? = some y) (hl : Loc X.env.scope y) (hf : X.fn y = true ∨ X.env.scope.names.lookup y = some .local) : PS X (.Assign [.Name y py] e pos) (tS X.K cl (.assign i ie)) := by
  have h0 : PS X (.Assign [.Name y py] e pos) (tAsg (tE X.K cl ie) (gName i)) := by
    by_cases hc : isComp e = true
    · exact h.asg hc i y py pos hN hi hl hf
    · exact ps_set hN hi hl h.pe (noswap h.pl (by simpa using hc)) hf
  refine h0.imp fun E σ H q => ?_
  obtain ⟨F, own, ph, ρ, μ, fl, ρ', μ', hK, I, ev, k⟩ := q
  unfold evS at ev
  obtain ⟨d, μ1, e1, ev⟩ := bind_ok ev
  obtain ⟨h1, rfl⟩ := pure_ok ev
  cases h1
  refine ⟨F, own, ph, ρ, μ, d, _, hK, I, e1, fun ph' v H' I' g V0 => ?_⟩
  obtain ⟨own', _, J⟩ := I.bind' I' g (i := i) V0
  exact k own' ph' _ H' J
theorem ss_newRef (hN : X.N.Nodup) (hi : X.N[i]? = some y) (hl : Loc X.env.scope y) (hf : X.fn y = true ∨ X.env.scope.names.lookup y = some .local) : PS X (.Assign [.Name y py] (.List [] p) pos) (tS X.K cl (.newRef i)) := by
  refine (ps_set hN hi hl (s_lst (cl := cl) sa_nil).pe rfl hf).imp fun E σ H q => ?_
  obtain ⟨F, own, ph, ρ, μ, fl, ρ', μ', hK, I, ev, k⟩ := q
  unfold evS at ev
  cases ev
  refine ⟨F, own, ph, ρ, μ, .lst [], μ, hK, I, by simp [evE, evEs]; rfl, fun ph' v H' I' g V0 => ?_⟩
  obtain ⟨q, vs, rfl, hp, hH, hn, r⟩ := V0.new rfl [] rfl
  cases r
  have e : ph' = ph := by
    obtain ⟨nw, e1, _⟩ := g.ext
    have h1 := I'.mu.len
    have h2 := I.mu.len
    rw [e1, List.length_append] at h1
    have : nw = [] := List.length_eq_zero_iff.mp (by omega)
    rw [e1, this, List.append_nil]
  subst e
  exact k own _ _ H' (I.newObj I' g hp hH)
theorem ss_expr (h : SE X cl e ie) (hc : isComp e = false) : PS X (.Expr e pos) (tS X.K cl (.expr ie)) := by
  refine (ps_expr h.pe (noswap h.pl hc)).imp fun E σ H q => ?_
  obtain ⟨F, own, ph, ρ, μ, fl, ρ', μ', hK, I, ev, k⟩ := q
  unfold evS at ev
  obtain ⟨d, μ1, e1, ev⟩ := bind_ok ev
  obtain ⟨h1, rfl⟩ := pure_ok ev
  cases h1
  exact ⟨F, own, ph, ρ, μ, d, _, hK, I, e1, fun ph' v H' I' g V0 => k own ph' σ H' I'⟩
theorem ss_ret (h : SE X cl e ie) : PS X (.Return (some e) pos) (tS X.K cl (.ret ie)) := by
  refine (ps_ret h.pe).imp fun E σ H q => ?_
  obtain ⟨F, own, ph, ρ, μ, fl, ρ', μ', hK, I, ev, k⟩ := q
  unfold evS at ev
  obtain ⟨d, μ1, e1, ev⟩ := bind_ok ev
  obtain ⟨h1, rfl⟩ := pure_ok ev
  cases h1
  exact ⟨F, own, ph, ρ, μ, d, _, hK, I, e1, fun ph' v H' I' g V0 => k own ph' σ H' v I' (V0.rep.weaken fun a z => .inl z)⟩
theorem ss_raise {c : Nat} : PS X st (tS X.K cl (.raise c)) := by
  refine ps_never.imp fun E σ H q => ?_
  obtain ⟨F, own, ph, ρ, μ, fl, ρ', μ', hK, I, ev, k⟩ := q
  unfold evS at ev
  cases ev
theorem ss_cont : PS X (.Continue pos) (tS X.K cl .cont) := by
  refine ps_continue.imp fun E σ H q => ?_
  obtain ⟨F, own, ph, ρ, μ, fl, ρ', μ', hK, I, ev, k⟩ := q
  unfold evS at ev
  obtain ⟨h1, rfl⟩ := pure_ok ev
  cases h1
  exact k own ph σ H I
theorem ss_ite {as bs : List Stmt} (hc : SE X cl c ic) (ht : tst ic = true) (ha : PSs X as (tSs X.K cl ss)) (hb : PSs X bs (tSs X.K cl ss')) : PS X (.If c as bs pos) (tS X.K cl (.ite ic ss ss')) := by
  refine (ps_if (hc.pt ht) ha hb).imp fun E σ H q => ?_
  obtain ⟨F, own, ph, ρ, μ, fl, ρ', μ', hK, I, ev, k⟩ := q
  unfold evS at ev
  obtain ⟨x, μ1, e1, ev⟩ := bind_ok ev
  obtain ⟨kb, μ2, e2, ev⟩ := bind_ok ev
  obtain ⟨e2', rfl⟩ := opt_ok e2
  rw [truth_bl e2'] at e1
  refine ⟨F, own, ph, ρ, μ, kb, _, hK, I, e1, fun ph' H' I' g => ?_⟩
  cases kb with
  | true => exact ⟨F, own, ph', ρ, _, fl, ρ', μ', hK, I', ev, k⟩
  | false => exact ⟨F, own, ph', ρ, _, fl, ρ', μ', hK, I', ev, k⟩
theorem ss_while {n : Nat} {body : List Stmt} (hp : PassesOwn (model X.prog X.w) X.A X.env X.xe) (hc : SE X cl c ic) (ht : tst ic = true) (hb : PSs X body (tSs X.K cl ss)) : PS X (.While c body [] pos) (tS X.K cl (.while_ n ic ss)) := by
  refine (ps_while hp (hc.pt ht) hb).imp fun E σ H q => ?_
  obtain ⟨F, own, ph, ρ, μ, fl, ρ', μ', hK, I, ev, k⟩ := q
  unfold evS at ev
  refine ⟨fun m σ H => ∃ own ph ρ μ, Stt F own ph ρ μ σ H ∧ whileM (fun ρ => evE F.S (cl F.S) ic ρ >>= fun x => M.opt (truth x)) (fun ρ => evSs F.S (cl F.S) ss ρ) m ρ μ = .ok (fl, ρ') μ', ⟨n, own, ph, ρ, μ, I, ev⟩, ?_⟩
  rintro m σ H ⟨own, ph, ρ, μ, I, ev⟩
  cases m with
  | zero => cases ev
  | succ m =>
    unfold whileM at ev
    obtain ⟨kb, μ1, e1, ev⟩ := bind_ok ev
    obtain ⟨x, μ2, e5, e2⟩ := bind_ok e1
    obtain ⟨e2', rfl⟩ := opt_ok e2
    rw [truth_bl e2'] at e5
    refine ⟨F, own, ph, ρ, μ, kb, _, hK, I, e5, fun ph' H' I' g => ?_⟩
    cases kb with
    | false =>
      obtain ⟨h1, rfl⟩ := pure_ok (show (pure (Fl.next, ρ) : M (Fl × Env)) _ = _ from ev)
      cases h1
      exact k own ph' σ H' I'
    | true =>
      obtain ⟨⟨fl1, ρ1⟩, μ3, e3, ev⟩ := bind_ok (show (evSs F.S (cl F.S) ss ρ >>= fun p => match p.1 with
      | .next => whileM (fun ρ => evE F.S (cl F.S) ic ρ >>= fun x => M.opt (truth x)) (fun ρ => evSs F.S (cl F.S) ss ρ) m p.2
      | .cont => whileM (fun ρ => evE F.S (cl F.S) ic ρ >>= fun x => M.opt (truth x)) (fun ρ => evSs F.S (cl F.S) ss ρ) m p.2
      | .ret d => pure (.ret d, p.2)) _ = _ from ev)
      refine ⟨fun σ H => ∃ own ph ρ μ, Stt F own ph ρ μ σ H ∧ whileM (fun ρ => evE F.S (cl F.S) ic ρ >>= fun x => M.opt (truth x)) (fun ρ => evSs F.S (cl F.S) ss ρ) m ρ μ = .ok (fl, ρ') μ', fun σ' H' h => ⟨m, Nat.lt_succ_self _, h⟩, F, own, ph', ρ, _, fl1, ρ1, μ3, hK, I', e3, ?_⟩
      cases fl1 with
      | next => exact fun own ph σ H I => ⟨own, ph, ρ1, μ3, I, ev⟩
      | cont => exact fun own ph σ H I => ⟨own, ph, ρ1, μ3, I, ev⟩
      | ret d =>
        obtain ⟨h, rfl⟩ := pure_ok (show (pure (Fl.ret d, ρ1) : M (Fl × Env)) _ = _ from ev)
        cases h
        exact k
theorem ss_for {tg iter : Expr} {t : Tg} {it : IT} {body : List Stmt} (hp : PassesOwn (model X.prog X.w) X.A X.env X.xe) (hc : X.calm = true) (hi : SI X cl tg iter it) (hg : STg X tg t) (hb : PSs X body (tSs X.K cl ss)) : PS X (.For tg iter body [] pos) (tS X.K cl (.for_ t it ss)) := by
  refine (ps_for hp hc hi.pi hg.pg hb (plain_fold hi.pl)).imp fun E σ H q => ?_
  obtain ⟨F, own, ph, ρ, μ, fl, ρ', μ', hK, I, ev, k⟩ := q
  unfold evS at ev
  obtain ⟨ds, μ1, e1, ev⟩ := bind_ok ev
  refine ⟨F, own, ph, ρ, μ, ds, μ1, hK, I, e1, fun ph1 H1 J held I1 g1 hh hit => ?_⟩
  have T0 := I1.thaw (lostT it ds)
  have T1 : Stt { F with held := held ++ F.held } (owns own (lostT it ds)) ph1 (thaw ρ (lostT it ds)) μ1 σ H1 :=
    ⟨T0.slots, T0.lenE, T0.mu, T0.fr, T0.old, T0.phx, T0.onew, T0.ophi, T0.oinj, T0.oreal, T0.bdom, T0.bphi, T0.onb, T0.scr, fun p hp => (List.mem_append.mp hp).elim (fun z => (hh p z).weaken fun a q => av_owns.mp q) (T0.held p)⟩
  refine ⟨fun i m σ H => m = ds.length - i ∧ i ≤ ds.length ∧ ∃ own ph ρ μ, Stt { F with held := held ++ F.held } own ph ρ μ σ H ∧ forM (fun d ρ => M.opt (tgPut ρ t d) >>= fun ρ1 => evSs F.S (cl F.S) ss ρ1) (ds.drop i) ρ μ = .ok (fl, ρ') μ',
    ⟨ds.length, rfl, Nat.zero_le _, _, _, _, _, T1, ev⟩, ?_⟩
  rintro i m σ H ⟨rfl, hi, own, ph, ρ, μ, I, ev⟩
  obtain ⟨fgo, fstop⟩ := hit ph (Av { F with held := held ++ F.held } own []) H fun p hp => I.held p (List.mem_append_left _ hp)
  by_cases hlt : i < ds.length
  · have hd : ds[i]? = some ds[i] := List.getElem?_eq_getElem hlt
    rw [List.drop_eq_getElem_cons hlt] at ev
    unfold forM at ev
    obtain ⟨⟨fl1, ρ1⟩, μ3, e3, ev⟩ := bind_ok ev
    obtain ⟨ρ2, μ4, e4, e3⟩ := bind_ok e3
    obtain ⟨e4', rfl⟩ := opt_ok e4
    refine .inr ⟨(fgo i _ hd).1, fun σ H => ∃ own ph ρ μ, Stt { F with held := held ++ F.held } own ph ρ μ σ H ∧ forM (fun d ρ => M.opt (tgPut ρ t d) >>= fun ρ1 => evSs F.S (cl F.S) ss ρ1) (ds.drop (i + 1)) ρ μ = .ok (fl, ρ') μ', fun σ' H' h => ⟨ds.length - (i + 1), by omega, rfl, hlt, h⟩, fun x H2 yy => ?_⟩
    obtain ⟨S2, g2, rx⟩ := yld_ok I ((fgo i _ hd).2 x H2 yy)
    refine tg_ok S2 rx e4' fun S3 => ⟨{ F with held := held ++ F.held }, own, ph, ρ2, _, fl1, ρ1, μ3, hK, S3, e3, ?_⟩
    cases fl1 with
    | next => exact fun own ph σ H I => ⟨own, ph, ρ1, μ3, I, ev⟩
    | cont => exact fun own ph σ H I => ⟨own, ph, ρ1, μ3, I, ev⟩
    | ret d =>
      obtain ⟨h, rfl⟩ := pure_ok (show (pure (Fl.ret d, ρ1) : M (Fl × Env)) _ = _ from ev)
      cases h
      exact fun own ph σ H v I r => k own ph σ H v I.unheld r
  · have e : i = ds.length := by omega
    subst e
    rw [List.drop_length] at ev
    unfold forM at ev
    obtain ⟨h1, rfl⟩ := pure_ok ev
    cases h1
    exact .inl ⟨fstop, k own ph σ H I.unheld⟩
def isTup : Expr → Bool
  | .Tuple _ _ _ => true
  | _ => false
theorem ss_unpack {es : List Expr} {is : List Nat} {n : Nat} {pt : Pos} (h : SE X cl e ie) (hc : isComp e = false) (ht : isTup e = false) (hg : STg X (.Tuple es n pt) (.many is)) : PS X (.Assign [.Tuple es n pt] e pos) (tS X.K cl (.unpack is ie)) := by
  have hw : swappedStores [.Tuple es n pt] e X.env = pure none := by
    cases e <;> first | rfl | (cases ht; done)
  have hs : swapsWithSole [.Tuple es n pt] e pos.line X.env = pure false := noswap (X := X) (tg := some (.Tuple es n pt)) (l := pos.line) h.pl hc
  refine (ps_asg h.pe hg.pg hs hw).imp fun E σ H q => ?_
  obtain ⟨F, own, ph, ρ, μ, fl, ρ', μ', hK, I, ev, k⟩ := q
  unfold evS at ev
  obtain ⟨d, μ1, e1, ev⟩ := bind_ok ev
  obtain ⟨ρ1, μ2, e2, ev⟩ := bind_ok ev
  obtain ⟨e2', rfl⟩ := opt_ok e2
  obtain ⟨h1, rfl⟩ := pure_ok ev
  cases h1
  refine ⟨F, own, ph, ρ, μ, d, _, hK, I, e1, fun ph' v H' I' g V0 => ?_⟩
  exact tg_ok (I'.thaw (lost ie d)) ((V0.lost I).weaken fun a z => av_owns.mp z) e2' fun S => k _ ph' _ H' S
theorem ss_aug (h : SE X cl e ie) (hN : X.N.Nodup) (hi : X.N[i]? = some y) (hl : Loc X.env.scope y) (hf : X.fn y = true ∨ X.env.scope.names.lookup y = some .local) : PS X (.AugAssign (.Name y py) .Add e pos) (tS X.K cl (.aug i ie)) := by
  refine (ps_aug hN hi hl h.pe ip_add hf).imp fun E σ H q => ?_
  obtain ⟨F, own, ph, ρ, μ, fl, ρ', μ', hK, I, ev, k⟩ := q
  unfold evS at ev
  obtain ⟨x, μ1, e1, ev⟩ := bind_ok ev
  obtain ⟨e1', rfl⟩ := opt_ok e1
  obtain ⟨z, μ2, e2, ev⟩ := bind_ok ev
  obtain ⟨e3, rfl⟩ := opt_ok ev
  unfold look at e1'
  split at e1'
  · rename_i bb dd hq
    cases e1'
    obtain ⟨v, h1, h2⟩ := I.slots i bb x hq
    cases x <;> cases z <;> simp only at e3 <;> try (cases e3; done)
    rename_i m _ n
    cases e3
    have hv : v = .int m := by
      cases bb with
      | false => cases h2; rfl
      | true => obtain ⟨_, _, _, _, z, _⟩ := h2; cases z
    subst hv
    refine ⟨.int m, h1, F, own, ph, ρ, _, .int n, _, hK, I, e2, fun ph' v H' I' g V0 => ?_⟩
    cases V0.rep
    exact ⟨m, n, rfl, rfl, k own ph' _ H' (I'.put (.int _))⟩
  · cases e1'
end
end Ev

set_option Elab.async false
set_option linter.all false
set_option maxRecDepth 100000
set_option maxHeartbeats 4000000
namespace Ev
open PySem L2 PyProof.Rows
section
variable {X : Cx} {cl : Calls} {a b c e : Expr} {ia ib ic ie : IE} {pos p px py pt apos cpos : Pos} {st : Stmt} {rest : List Stmt} {s : IS} {ss ss' : ISs} {i j : Nat} {x y : Str}
theorem Stt.ownAt {F : Fx} {own : Nat → Option Addr} {ph : List Addr} {ρ : Env} {μ : Mu} {σ : L2.St} {H : Hp} {ds : List D} (I : Stt F own ph ρ μ σ H) (h : ownL ρ i = some ds) :
    ∃ p vs, σ[i]? = some (some (.ref p)) ∧ own i = some p ∧ H p = some (.lst vs) ∧ Reps F.sa ph (Av F own []) H vs ds := by
  unfold ownL at h
  split at h
  · rename_i es hq
    cases h
    obtain ⟨v, h1, p, vs, ds', rfl, e, h3, h4, h5⟩ := I.slots i true _ hq
    cases e
    exact ⟨p, vs, h1, h3, h4, h5⟩
  · cases h
theorem few {cp : Pos} (h : plainX e = true) : ((backTo cp (starEach [e] X.env)).all (fun x => !x.1) && (backToKw cp (keywordEach [] X.env)).all (fun x => x.1.isSome)
      && decide ([e].length + ([] : List Keyword).length + (if ([] : List Keyword).isEmpty then 0 else 1) < 30)) = true := by
  rw [plain_star h]
  rfl
/-- the name's own address is the same through an evaluation -/
theorem same_at {σ : L2.St} {p q : Addr} (h : σ[i]? = some (some (V.ref p))) (k : σ[i]? = some (some (V.ref q))) : p = q := by
  rw [h] at k
  cases k
  rfl
theorem get_list : PGet X (rIxL X.K) := by
  intro pins s σ H o i ov iv Q I ro ri h
  obtain ⟨p, xs, k, z, rfl, rfl, hq, he, q⟩ := h
  cases ro
  obtain ⟨t, rfl⟩ := ri
  obtain ⟨its, r, pl, hz⟩ := I.list hq
  obtain ⟨j, h1, h2, h3, h4, h5⟩ := atI_get he
  obtain ⟨w, ew, rw'⟩ := r.get h2
  have hl := r.length
  have hn := line63
  by_cases h0 : 0 ≤ k
  · have hj : k.toNat = j := by
      rw [seqIndex_of h0 h5] at h1
      exact Option.some.inj h1
    exact wpAny_getItem_list pl.isList h0 (by omega) (by rw [hj]; simpa using ew) ⟨z, H, I, rw', q⟩
  · have hj : (k + (its.toArray.size : Int)).toNat = j := by
      rw [seqIndex_neg (by omega) h4] at h1
      rw [List.size_toArray, ← hl]
      exact Option.some.inj h1
    exact wpAny_getItem_list_neg pl.isList (by omega) (by rw [List.size_toArray] <;> omega) (by omega) (by rw [hj]; simpa using ew) ⟨z, H, I, rw', q⟩
theorem million' {n : Nat} (h : n < 1000000) : n < sizeLine := Nat.lt_of_lt_of_le h million
theorem iteM_ok {α : Type} {c : Prop} [Decidable c] {f : M α} {a : α} {μ μ' : Mu} (h : (if c then f else M.no : M α) μ = .ok a μ') : c ∧ f μ = .ok a μ' := by
  by_cases hc : c
  · rw [if_pos hc] at h; exact ⟨hc, h⟩
  · rw [if_neg hc] at h; cases h
theorem iteR_ok {α : Type} {c : Prop} [Decidable c] {f r : R α} (h : (if c then f else .bad : R α) = r) (hr : r ≠ .bad) : c ∧ f = r := by
  by_cases hc : c
  · rw [if_pos hc] at h; exact ⟨hc, h⟩
  · rw [if_neg hc] at h; exact absurd h.symm hr
def mrefApp (ρ : Env) (d : D) (n : Nat) : M Env := fun μ => match muLst μ n with
      | some ds => if ds.length < 1000000 then .ok ρ (μ.set n (.lst (ds ++ [d]))) else .bad
      | none => .bad
theorem mrefApp_ok {ρ ρ1 : Env} {d : D} {n : Nat} {μ μ2 : Mu} (h : mrefApp ρ d n μ = .ok ρ1 μ2) : ∃ ds, muLst μ n = some ds ∧ ds.length < 1000000 ∧ ρ1 = ρ ∧ μ2 = μ.set n (.lst (ds ++ [d])) := by
  unfold mrefApp at h
  cases hm : muLst μ n with
  | none => rw [hm] at h; cases h
  | some ds =>
    rw [hm] at h
    obtain ⟨hz, h⟩ := iteR_ok h (fun z => by cases z)
    cases h
    exact ⟨ds, rfl, hz, rfl, rfl⟩
theorem appTo_ok {ρ ρ1 : Env} {e : IE} {d : D} {μ μ2 : Mu} (h : appTo ρ i e d μ = .ok ρ1 μ2) :
    (∃ ds, ownL ρ i = some ds ∧ i ∉ lost e d ∧ ds.length < 1000000 ∧ ρ1 = (thaw ρ (lost e d)).set i (some (true, .lst (ds ++ [d]))) ∧ μ2 = μ) ∨
    (∃ bb n ds, ρ[i]? = some (some (bb, .mref n)) ∧ d.sc = true ∧ muLst μ n = some ds ∧ ds.length < 1000000 ∧ ρ1 = ρ ∧ μ2 = μ.set n (.lst (ds ++ [d]))) := by
  unfold appTo at h
  unfold ownL
  generalize ρ[i]? = o at h
  cases o with
  | none => cases h
  | some o =>
    cases o with
    | none => cases h
    | some q =>
      obtain ⟨bb, dd⟩ := q
      have go : ∀ {n : Nat}, (if d.sc = true then mrefApp ρ d n else M.no : M Env) μ = .ok ρ1 μ2 → ∃ ds, d.sc = true ∧ muLst μ n = some ds ∧ ds.length < 1000000 ∧ ρ1 = ρ ∧ μ2 = μ.set n (.lst (ds ++ [d])) := fun {n} h => by
        obtain ⟨hd, h⟩ := iteM_ok h
        obtain ⟨ds, h⟩ := mrefApp_ok h
        exact ⟨ds, hd, h⟩
      cases dd with
      | lst ds =>
        cases bb with
        | false => cases h
        | true =>
          obtain ⟨hc, h⟩ := iteM_ok (f := pure ((thaw ρ (lost e d)).set i (some (true, .lst (ds ++ [d]))))) h
          obtain ⟨h1, h2⟩ := pure_ok h
          exact .inl ⟨ds, rfl, hc.1, hc.2, h1.symm, h2.symm⟩
      | mref n =>
        cases bb with
        | false => obtain ⟨ds, h⟩ := go h; exact .inr ⟨_, n, ds, rfl, h⟩
        | true => obtain ⟨ds, h⟩ := go h; exact .inr ⟨_, n, ds, rfl, h⟩
      | _ => cases bb <;> cases h
theorem ss_append (h : SE X cl e ie) (hN : X.N[i]? = some x) (hv : Vis X.env.scope x) (hd : (x == ("__debug__" : Str)) = false) (hcd : (x == ("__classdict__" : Str)) = false) (hline : (apos.endLine == cpos.line) = true) :
    PS X (.Expr (.Call (.Attribute (.Name x px) "append" apos) [e] [] cpos) pos) (tS X.K cl (.append i ie)) := by
  have h0 := ps_expr (pos := pos) (pe_bm PySem.F.plainAttrs_list PySem.F.slot_list_append PySem.F.type_list_append mt_append (pe_var (pos := px) hN hv hd hcd) (pa_cons h.pe pa_nil (plain_star h.pl)) rfl (few h.pl) hline (plain_star h.pl) rfl) rfl
  refine h0.imp fun E σ H q => ?_
  obtain ⟨F, own, ph, ρ, μ, fl, ρ', μ', hK, I, ev, k⟩ := q
  unfold evS at ev
  obtain ⟨d, μ1, e1, ev⟩ := bind_ok ev
  obtain ⟨ρ1, μ2, e2, ev⟩ := bind_ok ev
  obtain ⟨h1, h2⟩ := pure_ok ev
  cases h1
  subst h2
  rcases appTo_ok e2 with ⟨ds, ho, hc1, hc2, h2, h3⟩ | ⟨bb, n, ds, hq, hc, hm, hz, h2, h3⟩
  · subst h2 h3
    obtain ⟨q, vs, s1, o1, p1, r1⟩ := I.ownAt ho
    refine ⟨.ref q, s1, .inl ⟨rfl, vs, SqL.of p1⟩, F, own, ph, ρ, μ, d, _, hK, I, e1, fun ph' w H' I' g V0 => ?_⟩
    obtain ⟨q', vs', s1', o1', p1', r1'⟩ := I'.ownAt ho
    cases same_at s1 s1'
    refine ⟨q, vs', w, rfl, rfl, p1', million' (by rw [r1'.length]; exact hc2), k (owns own (lost ie d)) ph' σ _ ?_⟩
    refine (I'.thaw (lost ie d)).updO (x := i) (by unfold owns; rw [if_neg hc1]; exact o1') s1 p1' ?_
    exact (r1'.weaken fun a z => av_mono (av_owns.mp z)).append (.cons ((V0.lost I).weaken fun a z => av_owns.mp z) .nil)
  · subst h2 h3
    have slot : ∀ {ph H μ}, Stt F own ph ρ' μ σ H → ∃ a, σ[i]? = some (some (.ref a)) ∧ ph[n]? = some a := fun {ph H μ} I => by
      obtain ⟨v, s1, h2⟩ := I.slots i bb _ hq
      cases bb with
      | false => cases h2 with | mref h3 => exact ⟨_, s1, h3⟩
      | true => obtain ⟨_, _, _, _, z, _⟩ := h2; cases z
    have mo : ∀ {ph H μ a}, Stt F own ph ρ' μ σ H → ph[n]? = some a → ∀ {ds}, muLst μ n = some ds → ∃ vs, H a = some (.lst vs) ∧ Reps F.sa ph (fun _ => True) H vs ds := fun {ph H μ a} I hn {ds} hm => by
      unfold muLst at hm
      split at hm
      · rename_i es hq
        cases hm
        exact I.mu.mo n a _ hn hq
      · cases hm
    obtain ⟨a, s1, hn⟩ := slot I
    obtain ⟨vs, p1⟩ := I.mu.lst (List.mem_of_getElem? hn)
    refine ⟨.ref a, s1, .inl ⟨rfl, vs, SqL.of p1⟩, F, own, ph, ρ', μ, d, _, hK, I, e1, fun ph' w H' I' g V0 => ?_⟩
    have hn' : ph'[n]? = some a := g.idx hn
    obtain ⟨vs', p1', r1'⟩ := mo I' hn' hm
    refine ⟨a, vs', w, rfl, rfl, p1', million' (by rw [r1'.length]; exact hz), k own ph' σ _ ?_⟩
    exact I'.updM hn' p1' (r1'.append (.cons (V0.rep.scal hc) .nil))
theorem ss_extend (h : SE X cl e ie) (hN : X.N[i]? = some x) (hv : Vis X.env.scope x) (hd : (x == ("__debug__" : Str)) = false) (hcd : (x == ("__classdict__" : Str)) = false) (hline : (apos.endLine == cpos.line) = true) :
    PS X (.Expr (.Call (.Attribute (.Name x px) "extend" apos) [e] [] cpos) pos) (tS X.K cl (.extend i ie)) := by
  have h0 := ps_expr (pos := pos) (pe_bm PySem.F.plainAttrs_list PySem.F.slot_list_extend PySem.F.type_list_extend mt_extend (pe_var (pos := px) hN hv hd hcd) (pa_cons h.pe pa_nil (plain_star h.pl)) rfl (few h.pl) hline (plain_star h.pl) rfl) rfl
  refine h0.imp fun E σ H q => ?_
  obtain ⟨F, own, ph, ρ, μ, fl, ρ', μ', hK, I, ev, k⟩ := q
  unfold evS at ev
  obtain ⟨d, μ1, e1, ev⟩ := bind_ok ev
  obtain ⟨ds, μ2, e2, ev⟩ := bind_ok ev
  obtain ⟨ho, h2⟩ := opt_ok e2
  subst h2
  obtain ⟨es, hes⟩ : ∃ es, d = .lst es := by cases d <;> first | exact ⟨_, rfl⟩ | (cases ev; done)
  subst hes
  · by_cases hc : (newL ie && !decide (i ∈ lost ie (.lst es)) && decide (ds.length + es.length ≤ 1000000)) = true
    · simp only [if_pos hc] at ev
      obtain ⟨h1, h2⟩ := pure_ok ev
      cases h1
      subst h2
      simp only [Bool.and_eq_true, Bool.not_eq_true', decide_eq_false_iff_not, decide_eq_true_eq] at hc
      obtain ⟨⟨hnew, hni⟩, hz⟩ := hc
      obtain ⟨q, vs, s1, o1, p1, r1⟩ := I.ownAt ho
      refine ⟨.ref q, s1, .inl ⟨rfl, vs, SqL.of p1⟩, F, own, ph, ρ, μ, .lst es, _, hK, I, e1, fun ph' w H' I' g V0 => ?_⟩
      obtain ⟨q', vs', s1', o1', p1', r1'⟩ := I'.ownAt ho
      cases same_at s1 s1'
      obtain ⟨b, zs, rfl, hb, hB, hn, rz⟩ := V0.new hnew es rfl
      refine ⟨q, b, vs', zs, rfl, rfl, p1', hB, Nat.le_trans (by rw [r1'.length, rz.length]; exact hz) million, k (owns own (lost ie (.lst es))) ph' σ _ ?_⟩
      refine (I'.thaw (lost ie (.lst es))).updO (x := i) (by unfold owns; rw [if_neg hni]; exact o1') s1 p1' ?_
      refine (r1'.weaken fun a z => av_mono (av_owns.mp z)).append ?_
      by_cases hf : (D.lst es).flat = true
      · exact Reps.scal hf rz
      · have e1 : lost ie (.lst es) = lk ie := by
          unfold lost
          rw [if_neg]
          intro z
          simp only [D.sc, Bool.false_or, Bool.and_eq_true] at z
          exact hf z.2
        rw [e1]
        exact rz.weaken fun a z => .inl (av_owns.mp z)
    · simp only [if_neg hc] at ev
      cases ev
theorem ss_setIdx {kx : Expr} {ik : IE} (h : SE X cl e ie) (hc : isComp e = false) (hk : SE X cl kx ik) (hN : X.N[i]? = some x) (hv : Vis X.env.scope x) (hd : (x == ("__debug__" : Str)) = false) (hcd : (x == ("__classdict__" : Str)) = false) :
    PS X (.Assign [.Subscript (.Name x px) kx pt] e pos) (tS X.K cl (.setIdx i ik ie)) := by
  have ha : ∀ v, assign (.Subscript (.Name x px) kx pt) X.env v = (do
      let ov ← holding [v] (eval (.Name x px) X.env)
      let iv ← holding [v, ov] (eval kx X.env)
      standAt pt
      holding [v, ov, iv] (setItem ov iv v)
      release [v, ov, iv] []) := by
    intro v
    have := hk.pl
    cases kx <;> first | rfl | (cases this; done)
  have hs : swapsWithSole [.Subscript (.Name x px) kx pt] e pos.line X.env = pure false := noswap (X := X) (tg := some (.Subscript (.Name x px) kx pt)) (l := pos.line) h.pl hc
  refine (ps_asg h.pe (pg_sub (pe_var (pos := px) hN hv hd hcd) hk.pe set_list ha) hs (by cases e <;> rfl) (by rfl)).imp fun E σ H q => ?_
  obtain ⟨F, own, ph, ρ, μ, fl, ρ', μ', hK, I, ev, k⟩ := q
  unfold evS at ev
  obtain ⟨d, μ1, e1, ev⟩ := bind_ok ev
  obtain ⟨jd, μ2, e2, ev⟩ := bind_ok ev
  obtain ⟨ds, μ3, e3, ev⟩ := bind_ok ev
  obtain ⟨ho, h3⟩ := opt_ok e3
  subst h3
  obtain ⟨es, μ4, e4, ev⟩ := bind_ok ev
  obtain ⟨hset, h4⟩ := opt_ok e4
  subst h4
  split at ev
  · rename_i hni
    obtain ⟨h1, h2⟩ := pure_ok ev
    cases h1
    subst h2
    refine ⟨F, own, ph, ρ, μ, d, _, hK, I, e1, fun ph1 w H1 I1 g1 V1 => ?_⟩
    obtain ⟨q, vs, s1, o1, p1, r1⟩ := I1.ownAt ho
    refine ⟨.ref q, s1, F, own, ph1, ρ, _, jd, _, hK, I1, e2, fun ph2 wj H2 I2 g2 V2 => ?_⟩
    obtain ⟨q', vs', s1', o1', p1', r1'⟩ := I2.ownAt ho
    cases same_at s1 s1'
    obtain ⟨n, hn⟩ : ∃ n, jd = .int n := by cases jd <;> first | exact ⟨_, rfl⟩ | (cases hset; done)
    subst hn
    simp only [setD] at hset
    obtain ⟨jj, hj, hes⟩ := Option.map_eq_some_iff.mp hset
    subst hes
    cases V2.rep
    refine ⟨q, vs', n, jj, rfl, rfl, p1', by rw [r1'.length]; exact hj, k (owns own (lost ie d)) ph2 σ _ ?_⟩
    refine (I2.thaw (lost ie d)).updO (x := i) (by unfold owns; rw [if_neg hni]; exact o1') s1 p1' ?_
    exact (r1'.weaken fun a z => av_mono (av_owns.mp z)).set jj ((g2.rep I1.mu (V1.lost I)).weaken fun a z => av_owns.mp z)
  · cases ev
theorem ss_augIdx {kx : Expr} {ik : IE} (h : SE X cl e ie) (hk : SE X cl kx ik) (hN : X.N[i]? = some x) (hv : Vis X.env.scope x) (hd : (x == ("__debug__" : Str)) = false) (hcd : (x == ("__classdict__" : Str)) = false) :
    PS X (.AugAssign (.Subscript (.Name x px) kx pt) .Add e pos) (tS X.K cl (.augIdx i ik ie)) := by
  refine (ps_augS (pe_var (pos := px) hN hv hd hcd) hk.pe get_list h.pe ip_add set_list (plain_aug hk.pl)).imp fun E σ H q => ?_
  obtain ⟨F, own, ph, ρ, μ, fl, ρ', μ', hK, I, ev, k⟩ := q
  unfold evS at ev
  obtain ⟨jd, μ1, e1, ev⟩ := bind_ok ev
  obtain ⟨ds, μ2, e2, ev⟩ := bind_ok ev
  obtain ⟨ho, h2⟩ := opt_ok e2
  subst h2
  obtain ⟨ad, μ3, e3, ev⟩ := bind_ok ev
  obtain ⟨hix, h3⟩ := opt_ok e3
  subst h3
  obtain ⟨bd, μ4, e4, ev⟩ := bind_ok ev
  obtain ⟨e5, h4⟩ := opt_ok ev
  subst h4
  obtain ⟨q, vs, s1, o1, p1, r1⟩ := I.ownAt ho
  refine ⟨.ref q, s1, F, own, ph, ρ, μ, jd, _, hK, I, e1, fun ph1 w H1 I1 g1 V1 => ?_⟩
  obtain ⟨q', vs1, s1', o1', p1', r1'⟩ := I1.ownAt ho
  cases same_at s1 s1'
  cases jd <;> simp only [idxD] at hix <;> try (cases hix; done)
  cases ad <;> cases bd <;> simp only at e5 <;> try (cases e5; done)
  obtain ⟨es, hset, hes⟩ := Option.map_eq_some_iff.mp e5
  cases hes
  simp only [setD] at hset
  obtain ⟨jj, hj, hes⟩ := Option.map_eq_some_iff.mp hset
  subst hes
  cases V1.rep
  obtain ⟨av, hav, rav⟩ := r1'.atI hix
  cases rav
  refine ⟨q, vs1, _, _, rfl, rfl, SqL.of p1', hav, F, own, ph1, ρ, _, _, _, hK, I1, e4, fun ph2 w2 H2 I2 g2 V2 => ?_⟩
  cases V2.rep
  obtain ⟨q', vs2, s2', o2', p2', r2'⟩ := I2.ownAt ho
  cases same_at s1 s2'
  refine ⟨_, _, rfl, rfl, q, vs2, _, jj, rfl, rfl, p2', by rw [r2'.length]; exact hj, k own ph2 σ _ ?_⟩
  exact I2.updO (x := i) o2' s1 p2' (r2'.set jj (.int _))
end
end Ev

set_option Elab.async false
set_option linter.all false
set_option maxRecDepth 100000
set_option maxHeartbeats 4000000
namespace Ev
open PySem L2 PyProof.Rows
section
variable {X : Cx} {cl : Calls} {a b c e : Expr} {ia ib ic ie : IE} {pos p px py pt apos cpos : Pos} {st : Stmt} {rest : List Stmt} {s : IS} {ss ss' : ISs} {i j : Nat} {x y : Str}
theorem par_sw {kt k2 : Nat} {pt2 : Pos} (hb : X.env.blockKind = .function) (hx : X.env.scope.names.lookup x = some .local) (hy : X.env.scope.names.lookup y = some .local) (hl : (py.line == px.line) = true) (hne : x ≠ y) (ha : plainX a = true) (hbp : plainX b = true)
    (hf : (foldedForSure 8 a && foldedForSure 8 b) = false) (hc : (constantsAlone 8 a && constantsAlone 8 b) = false) :
    swappedStores [.Tuple [.Name x px, .Name y py] kt pt] (.Tuple [a, b] k2 pt2) X.env = pure (some [x, y]) := by
  have hx' : (X.env.kindOf x == some .local) = true := by
    have : X.env.kindOf x = some .local := hx
    rw [this]; rfl
  have hy' : (X.env.kindOf y == some .local) = true := by
    have : X.env.kindOf y = some .local := hy
    rw [this]; rfl
  have hst : ∀ {e : Expr}, plainX e = true → (match e with | .Starred .. => true | _ => false) = false := fun {e} h => by cases e <;> first | rfl | (cases h; done)
  have hst' : ([a, b].any fun e => match e with | .Starred .. => true | _ => false) = false := by
    simp only [List.any_cons, List.any_nil, hst ha, hst hbp, Bool.or_false]
  have hd : ([x, y] : List Str).eraseDups.length = 2 := by
    have : (y == x) = false := by simpa using fun z => hne z.symm
    simp [List.eraseDups_cons, this]
  have h1 : (!(2 == 2 || 2 == 3) || (2 : Nat) != 2 || X.env.blockKind != .function) = false := by rw [hb]; rfl
  have h2 : ([a, b].all (foldedForSure 8)) = false := by simpa using hf
  have h3 : ([a, b].all (constantsAlone 8)) = false := by simpa using hc
  have hn : (X.env.blockKind != .function) = false := by rw [hb]; rfl
  unfold swappedStores
  simp only [List.length_cons, List.length_nil, hn]
  simp only [Nat.reduceAdd, bne_self_eq_false, beq_self_eq_true, Bool.true_or, Bool.not_true, Bool.or_self, if_false]
  have hh : (Option.map (fun x => x.pos.line) [Expr.Name x px, Expr.Name y py].head?).getD 0 = px.line := rfl
  rw [hh]
  rw [if_neg Bool.false_ne_true]
  rw [if_neg (by rw [Bool.not_eq_true]; exact hst')]
  simp only [List.filterMap_cons, List.filterMap_nil, hx', hy', hl, beq_self_eq_true, Bool.and_self, if_true, h2, h3, hd, List.length_cons, List.length_nil]
  rfl
theorem bindTo_flag {ρ : Env} {e : IE} {d : D} {b : Bool} (h : (newL e && d.isL) = b) : bindTo ρ i e d = (thaw ρ (lost e d)).set i (some (b, d)) := by
  unfold bindTo
  rw [h]
theorem ss_par {kt k2 : Nat} {pt2 : Pos} (ha : SE X cl a ia) (hb : SE X cl b ib) (hc : X.calm = true) (hN : X.N.Nodup) (hi : X.N[i]? = some x) (hj : X.N[j]? = some y) (hij : i ≠ j) (hk : X.env.blockKind = .function)
    (hx : X.env.scope.names.lookup x = some .local) (hy : X.env.scope.names.lookup y = some .local) (hl : (py.line == px.line) = true) (hf : (foldedForSure 8 a && foldedForSure 8 b) = false) (hca : (constantsAlone 8 a && constantsAlone 8 b) = false) :
    PS X (.Assign [.Tuple [.Name x px, .Name y py] kt pt] (.Tuple [a, b] k2 pt2) pos) (tS X.K cl (.par i j ia ib)) := by
  have hne : x ≠ y := fun z => by
    subst z
    obtain ⟨l1, e1⟩ := List.getElem?_eq_some_iff.mp hi
    obtain ⟨l2, e2⟩ := List.getElem?_eq_some_iff.mp hj
    exact hij ((List.getElem_inj hN).mp (e1.trans e2.symm))
  refine (ps_par hc hN hi hj hij hx hy (pa_cons ha.pe (pa_cons hb.pe pa_nil (plain_star hb.pl)) (plain_star ha.pl)) (par_sw hk hx hy hl hne ha.pl hb.pl hf hca) rfl).imp fun E σ H q => ?_
  obtain ⟨F, own, ph, ρ, μ, fl, ρ', μ', hK, I, ev, k⟩ := q
  unfold evS at ev
  obtain ⟨d, μ1, e1, ev⟩ := bind_ok ev
  obtain ⟨f, μ2, e2, ev⟩ := bind_ok ev
  obtain ⟨h1, h2⟩ := pure_ok ev
  cases h1
  subst h2
  refine ⟨F, own, ph, ρ, μ, d, _, hK, I, e1, fun ph1 v H1 I1 g1 V1 => ?_⟩
  have fin : ∀ {own' ph2 w H2}, Stt F own' ph2 (bindTo (bindTo ρ j ib f) i ia d) μ2 ((σ.set j (some w)).set i (some v)) H2 → ∃ v' w', [v, w] = [v', w'] ∧ E.nx ((σ.set i (some v')).set j (some w')) H2 := fun {own' ph2 w H2} S => by
    refine ⟨v, w, rfl, ?_⟩
    rw [List.set_comm _ _ hij]
    exact k _ _ _ _ S
  by_cases hn : (newL ia && d.isL) = true
  · rw [Bool.and_eq_true] at hn
    obtain ⟨ds, hds⟩ : ∃ ds, d = .lst ds := by
      have := hn.2
      cases d <;> first | exact ⟨_, rfl⟩ | (cases this; done)
    subst hds
    obtain ⟨q, vs, hv, hp, hH, hq, r⟩ := V1.new hn.1 ds rfl
    subst hv
    have G := I.guard I1 g1 hp hH hq
    refine ⟨{ F with B := fun a => F.B a ∨ a = q }, own, ph1, ρ, μ1, f, μ2, hK, G, e2, fun ph2 w H2 I2 g2 V2 => ?_⟩
    · obtain ⟨own2, ho, J⟩ := G.bind' I2 g2 (i := j) V2
      refine fin (ph2 := ph2) (own' := fun j' => if j' = i then some q else owns own2 (lost ia (.lst ds)) j') ?_
      have hq2 : H2 q = some (.lst vs) := g2.keep _ _ hH hq
      have T := (J.thaw (lost ia (.lst ds)))
      have hb' : bindTo (bindTo ρ j ib f) i ia (.lst ds) = (thaw (bindTo ρ j ib f) (lost ia (.lst ds))).set i (some (true, .lst ds)) := by
        exact bindTo_flag (by rw [hn.1]; rfl)
      rw [hb']
      refine T.take (i := i) ?_ (fun z => I.bdom q z hp) hq2 ?_
      · cases e0 : F.H0 q with
        | none => rfl
        | some o => exact absurd hp (I.old q o e0)
      · by_cases hfl : (D.lst ds).flat = true
        · exact Reps.scal hfl r
        · have el : lost ia (.lst ds) = lk ia := by
            unfold lost
            rw [if_neg]
            intro z
            simp only [D.sc, Bool.false_or, Bool.and_eq_true] at z
            exact hfl z.2
          rw [el]
          refine g2.repsN I1.mu (fun a' z => ?_) r
          rcases z with z | z
          · rcases av_owns.mp z with z | ⟨j', z1, z2⟩
            · exact .inl (.inl (.inl z))
            · rcases ho j' a' z1 with ⟨z3, _⟩ | z3
              · exact .inl (.inl (.inr ⟨j', z3, z2⟩))
              · exact .inr z3
          · exact .inl (.inr z)
  · have hn' : (newL ia && d.isL) = false := by simpa using hn
    refine ⟨F, own, ph1, ρ, μ1, f, μ2, hK, I1, e2, fun ph2 w H2 I2 g2 V2 => ?_⟩
    obtain ⟨own2, ho, J⟩ := I1.bind' I2 g2 (i := j) V2
    have T := (J.thaw (lost ia d))
    have hb' : bindTo (bindTo ρ j ib f) i ia d = put (thaw (bindTo ρ j ib f) (lost ia d)) i d := by
      exact bindTo_flag hn'
    refine fin (ph2 := ph2) (own' := owns own2 (lost ia d)) ?_
    rw [hb']
    refine T.put (g2.repN I1.mu (fun a' z => ?_) (V1.lost I))
    rcases av_owns.mp z with z | ⟨j', z1, z2⟩
    · exact .inl (.inl z)
    · rcases ho j' a' z1 with ⟨z3, _⟩ | z3
      · exact .inl (.inr ⟨j', z3, z2⟩)
      · exact .inr z3
theorem ss_swap2 {k1 k2 : Expr} {ik1 ik2 : IE} {pt1 pt2 px2 ptt : Pos} {kt kv : Nat} (ha : SE X cl a ia) (hb : SE X cl b ib) (h1 : SE X cl k1 ik1) (h2 : SE X cl k2 ik2) (hc : X.calm = true) (hN : X.N[i]? = some x) (hv : Vis X.env.scope x) (hd : (x == ("__debug__" : Str)) = false) (hcd : (x == ("__classdict__" : Str)) = false) :
    PS X (.Assign [.Tuple [.Subscript (.Name x px) k1 pt1, .Subscript (.Name x px2) k2 pt2] kt ptt] (.Tuple [a, b] kv pt) pos) (tS X.K cl (.swap2 i ik1 ik2 ia ib)) := by
  have as : ∀ {kx : Expr} {px pt : Pos}, plainX kx = true → ∀ v, assign (.Subscript (.Name x px) kx pt) X.env v = (do
      let ov ← holding [v] (eval (.Name x px) X.env)
      let iv ← holding [v, ov] (eval kx X.env)
      standAt pt
      holding [v, ov, iv] (setItem ov iv v)
      release [v, ov, iv] []) := fun {kx px pt} h v => by
    cases kx <;> first | rfl | (cases h; done)
  have hw : swappedStores [.Tuple [.Subscript (.Name x px) k1 pt1, .Subscript (.Name x px2) k2 pt2] kt ptt] (.Tuple [a, b] kv pt) X.env = pure none := by
    unfold swappedStores
    simp only [List.length_cons, List.length_nil]
    split
    · rfl
    · split
      · rfl
      · rfl
  refine (ps_asg (s_tup (cl := cl) (sa_cons ha (sa_cons hb sa_nil))).pe (pg_tup hc (pgs_cons (pg_sub (pe_var hN hv hd hcd) h1.pe set_list (as h1.pl)) (pgs_cons (pg_sub (pe_var hN hv hd hcd) h2.pe set_list (as h2.pl)) pgs_nil))) rfl hw).imp fun E σ H q => ?_
  obtain ⟨F, own, ph, ρ, μ, fl, ρ', μ', hK, I, ev, k⟩ := q
  unfold evS at ev
  obtain ⟨d1, μ1, e1, ev⟩ := bind_ok ev
  obtain ⟨d2, μ2, e2, ev⟩ := bind_ok ev
  obtain ⟨j1, μ3, e3, ev⟩ := bind_ok ev
  obtain ⟨ds, μ4, e4, ev⟩ := bind_ok ev
  obtain ⟨ho, z⟩ := opt_ok e4
  subst z
  obtain ⟨es, μ5, e5, ev⟩ := bind_ok ev
  obtain ⟨hs1, z⟩ := opt_ok e5
  subst z
  obtain ⟨j2, μ6, e6, ev⟩ := bind_ok ev
  obtain ⟨fs, μ7, e7, ev⟩ := bind_ok ev
  obtain ⟨hs2, z⟩ := opt_ok e7
  subst z
  obtain ⟨hsc, ev⟩ := iteM_ok ev
  rw [Bool.and_eq_true] at hsc
  obtain ⟨z1, z2⟩ := pure_ok ev
  cases z1
  subst z2
  have et : evE F.S (cl F.S) (.tup (.cons ia (.cons ib .nil))) ρ μ = .ok (.tup [d1, d2]) μ2 := by
    have e1' : ∀ (f : D → M D), (evE F.S (cl F.S) ia ρ >>= f) μ = f d1 μ1 := fun f => by
      show M.bnd _ _ _ = _
      unfold M.bnd
      rw [e1]
    have e2' : ∀ (f : D → M D), (evE F.S (cl F.S) ib ρ >>= f) μ1 = f d2 μ2 := fun f => by
      show M.bnd _ _ _ = _
      unfold M.bnd
      rw [e2]
    simp only [evE, evEs, bind_assoc, pure_bind]
    rw [e1', e2']
    rfl
  obtain ⟨n1, hn1⟩ : ∃ n, j1 = .int n := by cases j1 <;> first | exact ⟨_, rfl⟩ | (cases hs1; done)
  obtain ⟨n2, hn2⟩ : ∃ n, j2 = .int n := by cases j2 <;> first | exact ⟨_, rfl⟩ | (cases hs2; done)
  subst hn1 hn2
  simp only [setD] at hs1 hs2
  obtain ⟨jj1, hj1, hes⟩ := Option.map_eq_some_iff.mp hs1
  subst hes
  obtain ⟨jj2, hj2, hfs⟩ := Option.map_eq_some_iff.mp hs2
  subst hfs
  refine ⟨F, own, ph, ρ, μ, _, _, hK, I, et, fun ph1 w H1 I1 g1 V1 => ?_⟩
  cases V1.rep with
  | @tup aa vs _ ht rt =>
    cases rt with
    | @cons v1 _ _ _ r1 rt =>
      cases rt with
      | @cons v2 _ _ _ r2 rt =>
        cases rt
        refine ⟨aa, _, rfl, SqT.of ht, rfl, v1, [v2], rfl, ?_⟩
        obtain ⟨q, vs, s1, o1, p1, ro⟩ := I1.ownAt ho
        refine ⟨.ref q, s1, F, own, ph1, ρ, _, .int n1, _, hK, I1, e3, fun ph2 wj H2 I2 g2 V2 => ?_⟩
        cases V2.rep
        obtain ⟨q', vs2, s2, o2, p2, ro2⟩ := I2.ownAt ho
        cases same_at s1 s2
        refine ⟨q, vs2, n1, jj1, rfl, rfl, p2, by rw [ro2.length]; exact hj1, v2, [], rfl, ?_⟩
        have S := I2.updO (x := i) o2 s1 p2 (ro2.set jj1 (r1.scal hsc.1))
        refine ⟨.ref q, s1, F, own, ph2, _, _, .int n2, _, hK, S, e6, fun ph3 wj3 H3 I3 g3 V3 => ?_⟩
        cases V3.rep
        have ho3 : ownL (ρ.set i (some (true, .lst (ds.set jj1 d1)))) i = some (ds.set jj1 d1) := by
          unfold ownL
          rw [List.getElem?_set_self]
          unfold ownL at ho
          split at ho
          · rename_i hh; exact (List.getElem?_eq_some_iff.mp hh).1
          · cases ho
        obtain ⟨q', vs3, s3, o3, p3, ro3⟩ := I3.ownAt ho3
        cases same_at s1 s3
        refine ⟨q, vs3, n2, jj2, rfl, rfl, p3, by rw [ro3.length]; exact hj2, rfl, ?_⟩
        have S3 := I3.updO (x := i) o3 s1 p3 (ro3.set jj2 (r2.scal hsc.2))
        rw [List.set_set] at S3
        exact k own ph3 σ _ S3
theorem ss_appPop (h : SE X cl e ie) (hN : X.N[i]? = some x) (hv : Vis X.env.scope x) (hd : (x == ("__debug__" : Str)) = false) (hcd : (x == ("__classdict__" : Str)) = false) (hN2 : X.N[j]? = some y) (hv2 : Vis X.env.scope y) (hd2 : (y == ("__debug__" : Str)) = false) (hcd2 : (y == ("__classdict__" : Str)) = false)
    {apos2 cpos2 : Pos} (hline : (apos.endLine == cpos.line) = true) (hline2 : (apos2.endLine == cpos2.line) = true) :
    PS X (.Expr (.Call (.Attribute (.Name x px) "append" apos) [.Call (.Attribute (.Name y py) "pop" apos2) [e] [] cpos2] [] cpos) pos) (tS X.K cl (.appPop i j ie)) := by
  have hp := pe_bm (cpos := cpos2) PySem.F.plainAttrs_list PySem.F.slot_list_pop PySem.F.type_list_pop mt_popAt (pe_var (pos := py) hN2 hv2 hd2 hcd2) (pa_cons h.pe pa_nil (plain_star h.pl)) rfl (few h.pl) hline2 (plain_star h.pl) rfl
  have h0 := ps_expr (pos := pos) (pe_bm PySem.F.plainAttrs_list PySem.F.slot_list_append PySem.F.type_list_append mt_append (pe_var (pos := px) hN hv hd hcd) (pa_cons hp pa_nil (plain_star rfl)) rfl (few rfl) hline (plain_star rfl) rfl) rfl
  refine h0.imp fun E σ H q => ?_
  obtain ⟨F, own, ph, ρ, μ, fl, ρ', μ', hK, I, ev, k⟩ := q
  unfold evS at ev
  obtain ⟨jd, μ1, e1, ev⟩ := bind_ok ev
  obtain ⟨ds, μ2, e2, ev⟩ := bind_ok ev
  obtain ⟨ho, z⟩ := opt_ok e2
  subst z
  obtain ⟨xs, μ3, e3, ev⟩ := bind_ok ev
  obtain ⟨ho2, z⟩ := opt_ok e3
  subst z
  obtain ⟨d, μ4, e4, ev⟩ := bind_ok ev
  obtain ⟨hix, z⟩ := opt_ok e4
  subst z
  obtain ⟨n, hn⟩ : ∃ n, jd = .int n := by cases jd <;> first | exact ⟨_, rfl⟩ | (cases ev; done)
  subst hn
  cases hj : L2.ixN ds.length n with
  | none => simp only [hj] at ev; cases ev
  | some m =>
    simp only [hj] at ev
    obtain ⟨hc, ev⟩ := iteM_ok ev
    simp only [Bool.and_eq_true, bne_iff_ne, ne_eq, decide_eq_true_eq] at hc
    obtain ⟨⟨⟨hsc, hne⟩, hz⟩, hz2⟩ := hc
    obtain ⟨z1, z2⟩ := pure_ok ev
    cases z1
    subst z2
    obtain ⟨qx, vx, sx, ox, px', rx⟩ := I.ownAt ho2
    obtain ⟨qy, vy, sy, oy, py', ry⟩ := I.ownAt ho
    refine ⟨.ref qx, sx, .inl ⟨rfl, vx, SqL.of px'⟩, .ref qy, sy, .inl ⟨rfl, vy, SqL.of py'⟩, F, own, ph, ρ, μ, .int n, _, hK, I, e1, fun ph1 w H1 I1 g1 V1 => ?_⟩
    cases V1.rep
    obtain ⟨qx', vx1, sx1, ox1, px1, rx1⟩ := I1.ownAt ho2
    cases same_at sx sx1
    obtain ⟨qy', vy1, sy1, oy1, py1, ry1⟩ := I1.ownAt ho
    cases same_at sy sy1
    obtain ⟨b1, b2, b3, b4⟩ := ixN_seq hj
    have hdm : ds[m]? = some d := by
      simp only [idxD] at hix
      unfold L2.atI at hix
      rw [hj] at hix
      exact hix
    obtain ⟨v, hvm, rv⟩ := ry1.get hdm
    have hl : vy1.length = ds.length := ry1.length
    have h63 := line63
    have hzz : (ds.length : Int) < 2 ^ 63 := by omega
    refine ⟨qy, vy1, n, m, v, rfl, rfl, py1, by omega, by omega, by rw [hl]; exact b1, hvm, ?_⟩
    have S := I1.updO (x := j) oy1 sy py1 (ry1.erase m)
    have hne' : qx ≠ qy := fun z => hne (I1.oinj i j qx ox1 (by rw [z]; exact oy1))
    refine ⟨qx, vx1, v, rfl, rfl, by rw [upd_ne hne']; exact px1, million' (by rw [rx1.length]; exact hz), ?_⟩
    have hoS : ownL (ρ.set j (some (true, .lst (ds.eraseIdx m)))) i = some xs := by
      unfold ownL at ho2 ⊢
      rw [List.getElem?_set_ne (fun z => hne z.symm)]
      exact ho2
    obtain ⟨qx2, vx2, sx2, ox2, px2, rx2⟩ := S.ownAt hoS
    cases same_at sx sx2
    have e : vx2 = vx1 := by
      rw [upd_ne hne', px1] at px2
      cases px2
      rfl
    subst e
    exact k own ph1 σ _ (S.updO (x := i) ox2 sx px2 (rx2.append (.cons (rv.scal hsc) .nil)))
end
end Ev

set_option Elab.async false
set_option linter.all false
set_option maxRecDepth 100000
set_option maxHeartbeats 4000000
namespace Ev
open PySem L2 PyProof.Rows
section
variable {X : Cx} {cl : Calls} {a : Expr} {ia : IE} {pos p : Pos}
theorem iter_enum {K : PySem.W.Frag} {sa b : Addr} {ds : List D} : IterR sa (Ite K b) [(.ref b, .lst ds)] (ds.mapIdx fun k d => .tup [.int (k : Nat), d]) := by
  intro ph A H h
  cases h (.ref b, .lst ds) (by simp) with
  | lst e _ _ r =>
    refine ⟨fun i d hd => ?_, _, SqL.of e, by rw [r.length, List.length_mapIdx]; exact Nat.le_refl _⟩
    rw [List.getElem?_mapIdx] at hd
    obtain ⟨x, h1, rfl⟩ := Option.map_eq_some_iff.mp hd
    obtain ⟨v, h2, h3⟩ := r.get h1
    refine ⟨⟨_, v, SqL.of e, h2⟩, fun z H' yy => ?_⟩
    obtain ⟨T, y, rfl, nT, rfl, f⟩ := yy
    have := f _ (SqL.of e)
    rw [h2] at this
    cases this
    exact .inr ⟨T, _, _, rfl, nT, rfl, rfl, .cons (.int _) (.cons h3 .nil)⟩
theorem si_enum {elts : List Expr} {kk : Nat} {tpos : Pos} (hg : Gl X "enumerate") (hm : X.mg "enumerate" = none) (ha : SE X cl a ia) : SI X cl (.Tuple elts kk tpos) (.Call (.Name "enumerate" p) [a] [] pos) (.enum ia) := by
  have st := plain_star (X := X) (es := []) ha.pl
  refine ⟨(pi_enum hg hm (pa_cons ha.pe pa_nil st) (by rw [st]; rfl)).imp fun σ H R q => ?_, rfl⟩
  obtain ⟨F, own, ph, ρ, μ, ds, μ', hK, I, ev, k⟩ := q
  unfold evT at ev
  obtain ⟨x, μ1, e1, ev⟩ := bind_ok ev
  obtain ⟨e3, e4⟩ := opt_ok ev
  subst e4
  obtain ⟨xs, hx⟩ : ∃ xs, x = .lst xs := by
    cases x <;> first | exact ⟨_, rfl⟩ | (cases e3; done)
  subst hx
  cases e3
  refine one hK I e1 fun ph2 vx H2 I2 g2 rx => ?_
  cases rx with
  | @lst b vs _ e n1 n2 r =>
    refine ⟨b, vs, rfl, SqL.of e, k ph2 H2 _ [(.ref b, .lst xs)] I2 g2 (fun q hq => ?_) iter_enum⟩
    rw [List.mem_singleton.mp hq]
    exact .lst e n1 n2 r
end
end Ev

set_option Elab.async false
set_option linter.all false
set_option maxRecDepth 100000
set_option maxHeartbeats 4000000
namespace Ev
open PySem L2 PyProof.Rows
/-! ### the checker: does a term of the language read this expression? -/
structure Ctx where
  N : List Str
  sc : Scope
  fnB : Str → Bool
def Ctx.blk (C : Ctx) (scope : Scope) : Ctx := ⟨C.N, relS scope C.sc, fun x => scope.names.lookup x == some .cell⟩
structure PCtx where
  fns : List (Str × (Nat × Nat × Option (Str × Int)))
  gls : List (Str × D)
  blt : List Str
def kdB (C : Ctx) (x : Str) (k : NameKind) : Bool := C.sc.names.lookup x == some k
def visB (C : Ctx) (x : Str) : Bool := kdB C x .local || (kdB C x .cell || kdB C x .free)
def locB (C : Ctx) (x : Str) : Bool := kdB C x .local || kdB C x .cell
def stoB (C : Ctx) (x : Str) : Bool := C.fnB x || kdB C x .local
def glB (C : Ctx) (x : Str) : Bool := kdB C x .globalImplicit
def dbgB (x : Str) : Bool := !(x == ("__debug__" : Str)) && !(x == ("__classdict__" : Str))
def bltB (P : PCtx) (C : Ctx) (x : Str) : Bool := glB C x && P.blt.contains x
def varB (C : Ctx) (i : Nat) (x : Str) : Bool := C.N[i]? == some x && (visB C x && dbgB x)
def tgtB (C : Ctx) (i : Nat) (x : Str) : Bool := C.N[i]? == some x && (locB C x && stoB C x)
def scSame : D → D → Bool
  | .non, .non => true
  | .bl a, .bl b => a == b
  | .int a, .int b => a == b
  | .str a, .str b => a == b
  | _, _ => false
theorem scSame_eq {a b : D} (h : scSame a b = true) : a = b := by
  cases a <;> cases b <;> simp only [scSame] at h <;> first | rfl | (cases h; done) | (rw [eq_of_beq h])
def tgsB (C : Ctx) : List Nat → List Expr → Bool
  | [], [] => true
  | i :: is, .Name x _ :: es => tgtB C i x && tgsB C is es
  | _, _ => false
def tgB (C : Ctx) : Tg → Expr → Bool
  | .one i, .Name x _ => tgtB C i x
  | .many is, .Tuple es _ _ => tgsB C is es
  | _, _ => false
def ownsN (N : List Str) (vs : List Nat) : List (Str × Nat) := vs.filterMap fun v => N[v]?.map fun x => (x, v)
def blkB (C : Ctx) (scope : Scope) (vs : List Nat) : Bool :=
  (scope.kind == .function) && scope.names.all (fun y => scope.names.lookup y.1 == some y.2) && (ownsN C.N vs).map (·.2) == vs &&
  scope.names.all (fun y => !(y.2 == .free) || (kdB C y.1 .cell || kdB C y.1 .free)) && scope.names.all (fun y => !(y.2 == .local || y.2 == .cell) || ((ownsN C.N vs).map (·.1)).contains y.1 || !(C.N.contains y.1))
def isTupE : Expr → Bool
  | .Tuple _ _ _ => true
  | _ => false
section
variable (P : PCtx)
mutual
def ckE : IE → Ctx → Expr → Bool
  | .non, _, e => (match e with | .Constant .none _ _ => true | _ => false)
  | .bl b, _, e => (match e with | .Constant (.bool c) _ _ => b == c | _ => false)
  | .int b, _, e => (match e with | .Constant (.int c) _ _ => b == c | _ => false)
  | .str b, _, e => (match e with | .Constant (.str c) _ _ => b == c | _ => false)
  | .var i, C, e => (match e with | .Name x _ => varB C i x | _ => false)
  | .glob y d, C, e => (match e with | .Name x _ => x == y && (glB C x && (dbgB x && (match P.gls.lookup x with | some f => scSame f d | none => false))) | _ => false)
  | .bin o a b, C, e => (match e with | .BinOp l op r _ => op == opOf o && (ckE a C l && ckE b C r) | _ => false)
  | .neg a, C, e => (match e with | .UnaryOp .USub x _ => ckE a C x | _ => false)
  | .not a, C, e => (match e with | .UnaryOp .Not x _ => tst a && ckE a C x | _ => false)
  | .cmp o a b, C, e => (match e with | .Compare l [op] [r] _ => op == cOf o && (ckE a C l && ckE b C r) | _ => false)
  | .chain o o' a b c, C, e => (match e with | .Compare l [op, op'] [r, r'] _ => op == cOf o && (op' == cOf o' && (ckE a C l && (ckE b C r && ckE c C r'))) | _ => false)
  | .isC n c a, C, e => (match e with | .Compare l [op] [.Constant k _ _] _ => op == isOp n && (k == isK c && ckE a C l) | _ => false)
  | .andL es, C, e => (match e with | .BoolOp .And xs _ => ckB es C xs | _ => false)
  | .orL es, C, e => (match e with | .BoolOp .Or xs _ => ckB es C xs | _ => false)
  | .ite c a b, C, e => (match e with | .IfExp t x y _ => tst c && (ckE c C t && (ckE a C x && ckE b C y)) | _ => false)
  | .tup es, C, e => (match e with | .Tuple xs _ _ => ckEs es C xs | _ => false)
  | .lst es, C, e => (match e with | .List xs _ => ckEs es C xs | _ => false)
  | .idx a b, C, e => (match e with | .Subscript x y _ => ckE a C x && ckE b C y | _ => false)
  | .slice a l h, C, e => (match e with | .Subscript x (.Slice lo hi none _) _ => ckE a C x && (ckO l C lo && ckO h C hi) | _ => false)
  | .rev a, C, e => (match e with | .Subscript x (.Slice none none (some (.UnaryOp .USub (.Constant (.int 1) _ _) _)) _) _ => ckE a C x | _ => false)
  | .call f es, C, e => (match e with | .Call (.Name x _) xs [] _ => glB C x && (dbgB x && ((match P.fns.lookup x with | some (g, _, none) => g == f | _ => false) && ckEs es C xs)) | _ => false)
  | .callD f es d, C, e => (match e with | .Call (.Name x _) (y :: xs) [] _ => glB C x && (dbgB x && ((match P.fns.lookup x with | some (g, _, some (_, v)) => g == f && scSame (.int v) d | _ => false) && ckEs es C (y :: xs))) | _ => false)
  | .callK f es kw b, C, e => (match e with | .Call (.Name x _) (y :: xs) [⟨some kn, z, _⟩] _ => glB C x && (dbgB x && ((match P.fns.lookup x with | some (g, _, some (k2, v)) => g == f && (k2 == kw && kn == kw) | _ => false) && (ckEs es C (y :: xs) && ckE b C z))) | _ => false)
  | .b1 o a, C, e => (match e with | .Call (.Name x _) [y] [] _ => x == bNm o && (!(o == .sorted) && (bltB P C (bNm o) && ckE a C y)) | _ => false)
  | .mm mx a b, C, e => (match e with | .Call (.Name x _) [y, z] [] _ => x == mmNm mx && (bltB P C (mmNm mx) && (ckE a C y && ckE b C z)) | _ => false)
  | .isi t a, C, e => (match e with | .Call (.Name x _) [y, .Name z _] [] _ => x == ("isinstance" : Str) && (z == Str.ofString (tyS t) && (bltB P C "isinstance" && (bltB P C (Str.ofString (tyS t)) && ckE a C y))) | _ => false)
  | .lrange a, C, e => (match e with | .Call (.Name x _) [.Call (.Name z _) [y] [] _] [] _ => x == ("list" : Str) && (z == ("range" : Str) && (bltB P C "list" && (bltB P C "range" && ckE a C y))) | _ => false)
  | .dget kvs k d, C, e => (match e with | .Call (.Attribute (.Dict ks vs _) at_ apos) [x, y] [] pos => at_ == ("get" : Str) && ((apos.endLine == pos.line) && (!(ks.isEmpty) && (decide (ks.length ≤ 15) && (ckPs kvs C ks vs && (ckE k C x && ckE d C y))))) | _ => false)
  | .didx kvs k, C, e => (match e with | .Subscript (.Dict ks vs _) x _ => !(ks.isEmpty) && (decide (ks.length ≤ 15) && (ckPs kvs C ks vs && ckE k C x)) | _ => false)
  | .comp vs tg it cond elt, C, e => (match e with | .ListComp x [⟨t, i, ifs, 0⟩] scope _ => blkB C scope vs && (tgIn vs tg && (tgB (C.blk scope) tg t && (ckT it C t i && (ckC cond (C.blk scope) ifs && ckE elt (C.blk scope) x)))) | _ => false)
  | .comp2 vs vs1 tg it tg1 it1 elt, C, e => (match e with | .ListComp x [⟨t, i, [], 0⟩, ⟨t1, i1, [], 0⟩] scope _ => blkB C scope vs && (tgIn vs tg && (tgIn vs1 tg1 && (vs1.all (fun v => vs.contains v) && (tgB (C.blk scope) tg t && (tgB (C.blk scope) tg1 t1 && (ckT it C t i && (ckT it1 (C.blk scope) t1 i1 && ckE elt (C.blk scope) x))))))) | _ => false)
def ckEs : IEs → Ctx → List Expr → Bool
  | .nil, _, es => es.isEmpty
  | .cons a as, C, es => (match es with | e :: es => ckE a C e && ckEs as C es | [] => false)
def ckB : IEs → Ctx → List Expr → Bool
  | .nil, _, _ => false
  | .cons a .nil, C, es => (match es with | [e] => tst a && ckE a C e | _ => false)
  | .cons a (.cons b bs), C, es => (match es with | e :: f :: es => tst a && (ckE a C e && ckB (.cons b bs) C (f :: es)) | _ => false)
def ckPs : IEs → Ctx → List (Option Expr) → List Expr → Bool
  | .nil, _, ks, vs => ks.isEmpty && vs.isEmpty
  | .cons _ .nil, _, _, _ => false
  | .cons a (.cons b r), C, ks, vs => (match ks, vs with | some k :: ks, v :: vs => ckE a C k && (ckE b C v && ckPs r C ks vs) | _, _ => false)
def ckO : IO → Ctx → Option Expr → Bool
  | .none, _, e => e.isNone
  | .some a, C, e => (match e with | some e => ckE a C e | none => false)
def ckC : IO → Ctx → List Expr → Bool
  | .none, _, e => e.isEmpty
  | .some a, C, e => (match e with | [e] => tst a && ckE a C e | _ => false)
def ckT : IT → Ctx → Expr → Expr → Bool
  | .seq a, C, _, e => ckE a C e
  | .rng1 a, C, _, e => (match e with | .Call (.Name x _) [y] [] _ => x == ("range" : Str) && (bltB P C "range" && ckE a C y) | _ => false)
  | .rng2 a b, C, _, e => (match e with | .Call (.Name x _) [y, z] [] _ => x == ("range" : Str) && (bltB P C "range" && (ckE a C y && ckE b C z)) | _ => false)
  | .zip a b, C, t, e => (match e with | .Call (.Name x _) [y, z] [] _ => x == ("zip" : Str) && (isTupE t && (bltB P C "zip" && (ckE a C y && ckE b C z))) | _ => false)
  | .enum a, C, t, e => (match e with | .Call (.Name x _) [y] [] _ => x == ("enumerate" : Str) && (isTupE t && (bltB P C "enumerate" && ckE a C y)) | _ => false)
end
end
structure Good (P : PCtx) (cl : Calls) (k : Nat) (X : Cx) (C : Ctx) : Prop where
  N : X.N = C.N
  nd : X.N.Nodup
  sc : X.env.scope = C.sc
  fn : ∀ x, C.fnB x = true → X.fn x = true
  calm : X.calm = true
  room : Room k X.A
  fns : ∀ x f np dk, P.fns.lookup x = some (f, np, dk) → HasFn X cl k x f np dk
  blt : ∀ x ∈ P.blt, X.mg x = none
  gls : ∀ x d, P.gls.lookup x = some d → d.sc = true ∧ ∃ u v, X.mg x = some u ∧ RelV v u ∧ ∀ sa ph A H, Rep sa ph A H v d
section
variable {P : PCtx} {cl : Calls} {k : Nat} {X : Cx} {C : Ctx} {x : Str} {i : Nat}
theorem Good.kd (g : Good P cl k X C) {q : NameKind} (h : kdB C x q = true) : X.env.scope.names.lookup x = some q := by
  rw [g.sc]
  exact eq_of_beq h
theorem Good.vis (g : Good P cl k X C) (h : visB C x = true) : Vis X.env.scope x := by
  unfold visB at h
  simp only [Bool.or_eq_true] at h
  rcases h with h | h | h
  · exact .inl (g.kd h)
  · exact .inr (.inl (g.kd h))
  · exact .inr (.inr (g.kd h))
theorem Good.loc (g : Good P cl k X C) (h : locB C x = true) : Loc X.env.scope x := by
  unfold locB at h
  simp only [Bool.or_eq_true] at h
  rcases h with h | h
  · exact .inl (g.kd h)
  · exact .inr (g.kd h)
theorem Good.sto (g : Good P cl k X C) (h : stoB C x = true) : X.fn x = true ∨ X.env.scope.names.lookup x = some .local := by
  unfold stoB at h
  simp only [Bool.or_eq_true] at h
  rcases h with h | h
  · exact .inl (g.fn x h)
  · exact .inr (g.kd h)
theorem Good.gl (g : Good P cl k X C) (h : glB C x = true) : Gl X x := g.kd h
theorem Good.bl (g : Good P cl k X C) (h : bltB P C x = true) : Gl X x ∧ X.mg x = none := by
  unfold bltB at h
  rw [Bool.and_eq_true] at h
  exact ⟨g.gl h.1, g.blt x (by simpa using h.2)⟩
theorem dbg_ok (h : dbgB x = true) : (x == ("__debug__" : Str)) = false ∧ (x == ("__classdict__" : Str)) = false := by
  unfold dbgB at h
  simpa using h
theorem Good.var (g : Good P cl k X C) (h : varB C i x = true) : X.N[i]? = some x ∧ Vis X.env.scope x ∧ (x == ("__debug__" : Str)) = false ∧ (x == ("__classdict__" : Str)) = false := by
  unfold varB at h
  simp only [Bool.and_eq_true] at h
  exact ⟨by rw [g.N]; exact eq_of_beq h.1, g.vis h.2.1, dbg_ok h.2.2⟩
theorem Good.tgt (g : Good P cl k X C) (h : tgtB C i x = true) : X.N[i]? = some x ∧ Loc X.env.scope x ∧ (X.fn x = true ∨ X.env.scope.names.lookup x = some .local) := by
  unfold tgtB at h
  simp only [Bool.and_eq_true] at h
  exact ⟨by rw [g.N]; exact eq_of_beq h.1, g.loc h.2.1, g.sto h.2.2⟩
theorem Good.hu (g : Good P cl k X C) : X.A.units + 64 < cLine := g.room.units
theorem Good.tgs (g : Good P cl k X C) : ∀ {is : List Nat} {es : List Expr}, tgsB C is es = true → PGs X es (gsOf is) ∧ es.length = is.length ∧ es.all plainX = true
  | [], [], _ => ⟨pgs_nil, rfl, rfl⟩
  | [], _ :: _, h => by cases h
  | i :: is, [], h => by cases h
  | i :: is, e :: es, h => by
    cases e <;> try (cases h; done)
    rename_i x pos
    have h : (tgtB C i x && tgsB C is es) = true := h
    rw [Bool.and_eq_true] at h
    obtain ⟨h1, h2, h3⟩ := g.tgt h.1
    obtain ⟨q1, q2, q3⟩ := Good.tgs g h.2
    exact ⟨pgs_cons (pg_name g.nd h1 h2 h3) q1, congrArg Nat.succ q2, by rw [List.all_cons, q3]; rfl⟩
theorem Good.tg (g : Good P cl k X C) {t : Tg} {e : Expr} (h : tgB C t e = true) : STg X e t := by
  cases t with
  | one i =>
    cases e <;> try (cases h; done)
    obtain ⟨h1, h2, h3⟩ := g.tgt h
    exact .one g.nd h1 h2 h3
  | many is =>
    cases e <;> try (cases h; done)
    obtain ⟨h1, h2, h3⟩ := g.tgs h
    exact .many g.calm h1 h2 h3
theorem Good.blk (g : Good P cl k X C) {scope : Scope} {s : Shared} {H : Hp} {c : List (Str × Addr)} {A : Addr} {fp : List Addr} : Good P cl k (X.blk s H scope (compEnvC scope c A X.env) fp) (C.blk scope) := by
  refine ⟨g.N, g.nd, ?_, fun x h => h, g.calm, g.room, fun x f np dk h => ?_, g.blt, g.gls⟩
  · show relS scope X.env.scope = relS scope C.sc
    rw [g.sc]
  · exact ⟨(g.fns x f np dk h).ex, (g.fns x f np dk h).len⟩
theorem ownsN_ix {N : List Str} {vs : List Nat} : ∀ p ∈ ownsN N vs, N[p.2]? = some p.1 := by
  intro p hp
  unfold ownsN at hp
  obtain ⟨v, _, h⟩ := List.mem_filterMap.mp hp
  obtain ⟨y, h1, h2⟩ := Option.map_eq_some_iff.mp h
  subst h2
  exact h1
theorem Good.blkOk (g : Good P cl k X C) {scope : Scope} {vs : List Nat} (h : blkB C scope vs = true) : BlkOk X.N X.env.scope scope (ownsN C.N vs) ∧ (ownsN C.N vs).map (·.2) = vs := by
  unfold blkB at h
  simp only [Bool.and_eq_true] at h
  obtain ⟨⟨⟨⟨h1, h2⟩, h3⟩, h4⟩, h5⟩ := h
  refine ⟨⟨eq_of_beq h1, fun y hy => eq_of_beq (List.all_eq_true.mp h2 y hy), fun p hp => by rw [g.N]; exact ownsN_ix p hp, fun y hy e => ?_, fun y hy e => ?_⟩, eq_of_beq h3⟩
  · have := List.all_eq_true.mp h4 y hy
    rw [e] at this
    simp only [beq_self_eq_true, Bool.not_true, Bool.false_or, Bool.or_eq_true] at this
    rcases this with z | z
    · exact .inl (g.kd z)
    · exact .inr (g.kd z)
  · have := List.all_eq_true.mp h5 y hy
    have hk : (y.2 == .local || y.2 == .cell) = true := by
      rcases e with e | e <;> rw [e] <;> rfl
    rw [hk] at this
    simp only [Bool.not_true, Bool.false_or, Bool.or_eq_true, Bool.not_eq_true'] at this
    rcases this with z | z
    · exact .inl (by simpa using z)
    · exact .inr (by rw [g.N]; simpa using z)
end
end Ev

set_option Elab.async false
set_option linter.all false
set_option maxRecDepth 100000
set_option maxHeartbeats 4000000
namespace Ev
open PySem L2 PyProof.Rows
section
variable {P : PCtx} {cl : Calls} {k : Nat}
theorem SB.cons {X : Cx} {op : BoolOp} {es : List Expr} {ie : IE} {pos : Pos} (h : SB X cl op es ie) : SE X cl (.BoolOp op es pos) ie := h.se
mutual
theorem okE : ∀ (ie : IE) (X : Cx) (C : Ctx) (e : Expr), Good P cl k X C → ckE P ie C e = true → SE X cl e ie
  | .non, X, C, e, g, h => by
    unfold ckE at h
    split at h
    · exact s_non
    · cases h
  | .bl b, X, C, e, g, h => by
    unfold ckE at h
    split at h
    · rw [eq_of_beq h]; exact s_bl
    · cases h
  | .int b, X, C, e, g, h => by
    unfold ckE at h
    split at h
    · rw [eq_of_beq h]; exact s_int
    · cases h
  | .str b, X, C, e, g, h => by
    unfold ckE at h
    split at h
    · rw [eq_of_beq h]; exact s_str
    · cases h
  | .var i, X, C, e, g, h => by
    unfold ckE at h
    split at h
    · obtain ⟨h1, h2, h3, h4⟩ := g.var h
      exact s_var h1 h2 h3 h4
    · cases h
  | .glob y d, X, C, e, g, h => by
    unfold ckE at h
    split at h
    · rename_i x pos
      simp only [Bool.and_eq_true] at h
      obtain ⟨h1, h2, h3, h4⟩ := h
      rw [← eq_of_beq h1]
      split at h4
      · rename_i f hf
        rw [← scSame_eq h4]
        obtain ⟨q1, u, v, q2, q3, q4⟩ := g.gls x f hf
        exact s_glob (g.gl h2) q2 q3 q1 q4 (dbg_ok h3).1
      · cases h4
    · cases h
  | .bin o a b, X, C, e, g, h => by
    unfold ckE at h
    split at h
    · simp only [Bool.and_eq_true] at h
      obtain ⟨h1, h2, h3⟩ := h
      rw [eq_of_beq h1]
      exact s_bin o (okE a X C _ g h2) (okE b X C _ g h3)
    · cases h
  | .neg a, X, C, e, g, h => by
    unfold ckE at h
    split at h
    · exact s_neg (okE a X C _ g h)
    · cases h
  | .not a, X, C, e, g, h => by
    unfold ckE at h
    split at h
    · simp only [Bool.and_eq_true] at h
      exact s_not (okE a X C _ g h.2) h.1
    · cases h
  | .cmp o a b, X, C, e, g, h => by
    unfold ckE at h
    split at h
    · simp only [Bool.and_eq_true] at h
      obtain ⟨h1, h2, h3⟩ := h
      rw [eq_of_beq h1]
      exact s_cmp g.hu o (okE a X C _ g h2) (okE b X C _ g h3)
    · cases h
  | .chain o o' a b c, X, C, e, g, h => by
    unfold ckE at h
    split at h
    · simp only [Bool.and_eq_true] at h
      obtain ⟨h1, h2, h3, h4, h5⟩ := h
      rw [eq_of_beq h1, eq_of_beq h2]
      exact s_chain g.hu o o' (okE a X C _ g h3) (okE b X C _ g h4) (okE c X C _ g h5)
    · cases h
  | .isC n c a, X, C, e, g, h => by
    unfold ckE at h
    split at h
    · simp only [Bool.and_eq_true] at h
      obtain ⟨h1, h2, h3⟩ := h
      rw [eq_of_beq h1, eq_of_beq h2]
      exact s_isC n c (okE a X C _ g h3)
    · cases h
  | .andL es, X, C, e, g, h => by
    unfold ckE at h
    split at h
    · exact (okAnd es X C _ g h).se
    · cases h
  | .orL es, X, C, e, g, h => by
    unfold ckE at h
    split at h
    · exact (okOr es X C _ g h).se
    · cases h
  | .ite c a b, X, C, e, g, h => by
    unfold ckE at h
    split at h
    · simp only [Bool.and_eq_true] at h
      obtain ⟨h1, h2, h3, h4⟩ := h
      exact s_ite h1 (okE c X C _ g h2) (okE a X C _ g h3) (okE b X C _ g h4)
    · cases h
  | .tup es, X, C, e, g, h => by
    unfold ckE at h
    split at h
    · exact s_tup (okEs es X C _ g h)
    · cases h
  | .lst es, X, C, e, g, h => by
    unfold ckE at h
    split at h
    · exact s_lst (okEs es X C _ g h)
    · cases h
  | .idx a b, X, C, e, g, h => by
    unfold ckE at h
    split at h
    · simp only [Bool.and_eq_true] at h
      exact s_idx (okE a X C _ g h.1) (okE b X C _ g h.2)
    · cases h
  | .slice a l hi, X, C, e, g, h => by
    unfold ckE at h
    split at h
    · simp only [Bool.and_eq_true] at h
      exact s_slice (okE a X C _ g h.1) (okO l X C _ g h.2.1) (okO hi X C _ g h.2.2)
    · cases h
  | .rev a, X, C, e, g, h => by
    unfold ckE at h
    split at h
    · exact s_rev (okE a X C _ g h)
    · cases h
  | .call f es, X, C, e, g, h => by
    unfold ckE at h
    split at h
    · rename_i x p xs pos
      simp only [Bool.and_eq_true] at h
      obtain ⟨h1, h2, h3, h4⟩ := h
      split at h3
      · rename_i f' np hf
        have e := eq_of_beq h3
        subst e
        exact s_call (g.fns x _ _ _ hf) g.room (g.gl h1) (dbg_ok h2).1 (okEs es X C _ g h4)
      · cases h3
    · cases h
  | .callD f es d, X, C, e, g, h => by
    unfold ckE at h
    split at h
    · rename_i x p y xs pos
      simp only [Bool.and_eq_true] at h
      obtain ⟨h1, h2, h3, h4⟩ := h
      split at h3
      · rename_i f' np kw v hf
        simp only [Bool.and_eq_true] at h3
        have e := eq_of_beq h3.1
        subst e
        rw [← scSame_eq h3.2]
        exact s_callD (g.fns x _ _ _ hf) g.room (g.gl h1) (dbg_ok h2).1 (okEs es X C _ g h4)
      · cases h3
    · cases h
  | .callK f es kw b, X, C, e, g, h => by
    unfold ckE at h
    split at h
    · rename_i x p y xs kn z kp pos
      simp only [Bool.and_eq_true] at h
      obtain ⟨h1, h2, h3, h4, h5⟩ := h
      split at h3
      · rename_i f' np k2 v hf
        simp only [Bool.and_eq_true] at h3
        have e := eq_of_beq h3.1
        subst e
        have e2 := eq_of_beq h3.2.1
        have e3 := eq_of_beq h3.2.2
        subst e2
        rw [e3]
        exact s_callK (g.fns x _ _ _ hf) g.room (g.gl h1) (dbg_ok h2).1 (okEs es X C _ g h4) (okE b X C _ g h5)
      · cases h3
    · cases h
  | .b1 o a, X, C, e, g, h => by
    unfold ckE at h
    split at h
    · simp only [Bool.and_eq_true] at h
      obtain ⟨h1, h2, h3, h4⟩ := h
      rw [eq_of_beq h1]
      exact s_b1 o (fun z => by rw [z] at h2; cases h2) g.calm (g.bl h3).1 (g.bl h3).2 (okE a X C _ g h4)
    · cases h
  | .mm mx a b, X, C, e, g, h => by
    unfold ckE at h
    split at h
    · simp only [Bool.and_eq_true] at h
      obtain ⟨h1, h3, h4, h5⟩ := h
      rw [eq_of_beq h1]
      exact s_mm mx g.calm (g.bl h3).1 (g.bl h3).2 (okE a X C _ g h4) (okE b X C _ g h5)
    · cases h
  | .isi t a, X, C, e, g, h => by
    unfold ckE at h
    split at h
    · simp only [Bool.and_eq_true] at h
      obtain ⟨h1, h2, h3, h4, h5⟩ := h
      rw [eq_of_beq h1, eq_of_beq h2]
      exact s_isi t (g.bl h3).1 (g.bl h3).2 (g.bl h4).1 (g.bl h4).2 (okE a X C _ g h5)
    · cases h
  | .lrange a, X, C, e, g, h => by
    unfold ckE at h
    split at h
    · simp only [Bool.and_eq_true] at h
      obtain ⟨h1, h2, h3, h4, h5⟩ := h
      rw [eq_of_beq h1, eq_of_beq h2]
      exact s_lrange g.calm (g.bl h3).1 (g.bl h3).2 (g.bl h4).1 (g.bl h4).2 (okE a X C _ g h5)
    · cases h
  | .dget kvs kk d, X, C, e, g, h => by
    unfold ckE at h
    split at h
    · rename_i ks vs p1 at_ apos x y pos
      simp only [Bool.and_eq_true] at h
      obtain ⟨h1, h2, h3, h4, h5, h6, h7⟩ := h
      rw [eq_of_beq h1]
      exact s_dget g.hu (okPs kvs X C _ _ g h5) (fun z => by rw [z] at h3; cases h3) (of_decide_eq_true h4) h2 (okE kk X C _ g h6) (okE d X C _ g h7)
    · cases h
  | .didx kvs kk, X, C, e, g, h => by
    unfold ckE at h
    split at h
    · simp only [Bool.and_eq_true] at h
      obtain ⟨h3, h4, h5, h6⟩ := h
      exact s_didx g.hu (okPs kvs X C _ _ g h5) (fun z => by rw [z] at h3; cases h3) (of_decide_eq_true h4) (okE kk X C _ g h6)
    · cases h
  | .comp vs tg it cond elt, X, C, e, g, h => by
    unfold ckE at h
    split at h
    · rename_i x t i ifs scope pos
      simp only [Bool.and_eq_true] at h
      obtain ⟨h1, h2, h3, h4, h5, h6⟩ := h
      obtain ⟨b1, b2⟩ := g.blkOk h1
      exact s_comp g.calm g.nd (okT it X C _ _ g h4) b1 b2 h2 (fun s H A c fp => (g.blk.tg h3).pg) (fun s H A c fp => okC cond _ _ _ g.blk h5) (fun s H A c fp => (okE elt _ _ _ g.blk h6).pe)
    · cases h
  | .comp2 vs vs1 tg it tg1 it1 elt, X, C, e, g, h => by
    unfold ckE at h
    split at h
    · rename_i x t i t1 i1 scope pos
      simp only [Bool.and_eq_true] at h
      obtain ⟨h1, h2, h2', hv, h3, h3', h4, h4', h6⟩ := h
      obtain ⟨b1, b2⟩ := g.blkOk h1
      have hp : plainX i1 = true := (okT it1 (X.blk X.s_0 X.H_0 scope (compEnvC scope [] 0 X.env) []) _ t1 i1 g.blk h4').pl
      exact s_comp2 g.calm g.nd (okT it X C _ _ g h4) b1 b2 (fun i hi => by simpa using List.all_eq_true.mp hv i hi) h2 h2' (fun s H A c fp => (g.blk.tg h3).pg) (fun s H A c fp => (okT it1 _ _ _ _ g.blk h4').pi) hp (fun s H A c fp => (g.blk.tg h3').pg) (fun s H A c fp => (okE elt _ _ _ g.blk h6).pe)
    · cases h
theorem okEs : ∀ (ies : IEs) (X : Cx) (C : Ctx) (es : List Expr), Good P cl k X C → ckEs P ies C es = true → SA X cl es ies
  | .nil, X, C, es, g, h => by
    unfold ckEs at h
    cases es with
    | nil => exact sa_nil
    | cons _ _ => cases h
  | .cons a as, X, C, es, g, h => by
    unfold ckEs at h
    split at h
    · simp only [Bool.and_eq_true] at h
      exact sa_cons (okE a X C _ g h.1) (okEs as X C _ g h.2)
    · cases h
theorem okAnd : ∀ (ies : IEs) (X : Cx) (C : Ctx) (es : List Expr), Good P cl k X C → ckB P ies C es = true → SB X cl .And es (.andL ies)
  | .nil, X, C, es, g, h => by
    unfold ckB at h
    cases h
  | .cons a .nil, X, C, es, g, h => by
    unfold ckB at h
    split at h
    · simp only [Bool.and_eq_true] at h
      exact sb_and1 (okE a X C _ g h.2) h.1
    · cases h
  | .cons a (.cons b bs), X, C, es, g, h => by
    unfold ckB at h
    split at h
    · simp only [Bool.and_eq_true] at h
      exact sb_and h.1 (okE a X C _ g h.2.1) (okAnd (.cons b bs) X C _ g h.2.2)
    · cases h
theorem okOr : ∀ (ies : IEs) (X : Cx) (C : Ctx) (es : List Expr), Good P cl k X C → ckB P ies C es = true → SB X cl .Or es (.orL ies)
  | .nil, X, C, es, g, h => by
    unfold ckB at h
    cases h
  | .cons a .nil, X, C, es, g, h => by
    unfold ckB at h
    split at h
    · simp only [Bool.and_eq_true] at h
      exact sb_or1 (okE a X C _ g h.2) h.1
    · cases h
  | .cons a (.cons b bs), X, C, es, g, h => by
    unfold ckB at h
    split at h
    · simp only [Bool.and_eq_true] at h
      exact sb_or h.1 (okE a X C _ g h.2.1) (okOr (.cons b bs) X C _ g h.2.2)
    · cases h
theorem okPs : ∀ (ies : IEs) (X : Cx) (C : Ctx) (ks : List (Option Expr)) (vs : List Expr), Good P cl k X C → ckPs P ies C ks vs = true → SPs X cl ks vs ies
  | .nil, X, C, ks, vs, g, h => by
    unfold ckPs at h
    cases ks with
    | nil =>
      cases vs with
      | nil => exact .nil
      | cons _ _ => cases h
    | cons _ _ => cases h
  | .cons _ .nil, X, C, ks, vs, g, h => by
    unfold ckPs at h
    cases h
  | .cons a (.cons b r), X, C, ks, vs, g, h => by
    unfold ckPs at h
    split at h
    · simp only [Bool.and_eq_true] at h
      exact .cons (okE a X C _ g h.1) (okE b X C _ g h.2.1) (okPs r X C _ _ g h.2.2)
    · cases h
theorem okO : ∀ (io : IO) (X : Cx) (C : Ctx) (e : Option Expr), Good P cl k X C → ckO P io C e = true → SO X cl e io
  | .none, X, C, e, g, h => by
    unfold ckO at h
    cases e with
    | none => exact so_none
    | some _ => cases h
  | .some a, X, C, e, g, h => by
    unfold ckO at h
    split at h
    · exact so_some (okE a X C _ g h)
    · cases h
theorem okC : ∀ (io : IO) (X : Cx) (C : Ctx) (es : List Expr), Good P cl k X C → ckC P io C es = true → PTs X es (tCd X.K cl io)
  | .none, X, C, es, g, h => by
    unfold ckC at h
    cases es with
    | nil => exact pts_nil
    | cons _ _ => cases h
  | .some a, X, C, es, g, h => by
    unfold ckC at h
    split at h
    · simp only [Bool.and_eq_true] at h
      exact pts_one ((okE a X C _ g h.2).pt h.1)
    · cases h
theorem okT : ∀ (it : IT) (X : Cx) (C : Ctx) (t e : Expr), Good P cl k X C → ckT P it C t e = true → SI X cl t e it
  | .seq a, X, C, t, e, g, h => by
    unfold ckT at h
    exact si_seq (okE a X C _ g h)
  | .rng1 a, X, C, t, e, g, h => by
    unfold ckT at h
    split at h
    · simp only [Bool.and_eq_true] at h
      obtain ⟨h1, h3, h4⟩ := h
      rw [eq_of_beq h1]
      exact si_rng1 (g.bl h3).1 (g.bl h3).2 (okE a X C _ g h4)
    · cases h
  | .rng2 a b, X, C, t, e, g, h => by
    unfold ckT at h
    split at h
    · simp only [Bool.and_eq_true] at h
      obtain ⟨h1, h3, h4, h5⟩ := h
      rw [eq_of_beq h1]
      exact si_rng2 (g.bl h3).1 (g.bl h3).2 (okE a X C _ g h4) (okE b X C _ g h5)
    · cases h
  | .zip a b, X, C, t, e, g, h => by
    unfold ckT at h
    split at h
    · simp only [Bool.and_eq_true] at h
      obtain ⟨h1, h2, h3, h4, h5⟩ := h
      rw [eq_of_beq h1]
      cases t <;> try (cases h2; done)
      exact si_zip (g.bl h3).1 (g.bl h3).2 (okE a X C _ g h4) (okE b X C _ g h5)
    · cases h
  | .enum a, X, C, t, e, g, h => by
    unfold ckT at h
    split at h
    · simp only [Bool.and_eq_true] at h
      obtain ⟨h1, h2, h3, h4⟩ := h
      rw [eq_of_beq h1]
      cases t <;> try (cases h2; done)
      exact si_enum (g.bl h3).1 (g.bl h3).2 (okE a X C _ g h4)
    · cases h
end
end
end Ev

set_option Elab.async false
set_option linter.all false
set_option maxRecDepth 100000
set_option maxHeartbeats 4000000
namespace Ev
open PySem L2 PyProof.Rows
section
variable (P : PCtx)
mutual
def ckS : IS → Ctx → Stmt → Bool
  | .assign i e, C, s => (match s with | .Assign [.Name y _] v _ => tgtB C i y && ckE P e C v | _ => false)
  | .newRef i, C, s => (match s with | .Assign [.Name y _] (.List [] _) _ => tgtB C i y | _ => false)
  | .unpack is e, C, s => (match s with | .Assign [.Tuple es _ _] v _ => tgsB C is es && (!isComp v && (!isTup v && ckE P e C v)) | _ => false)
  | .par i j a b, C, s => (match s with | .Assign [.Tuple [.Name x px, .Name y py] _ _] (.Tuple [l, r] _ _) _ => C.N[i]? == some x && (C.N[j]? == some y && (!(i == j) && (C.sc.kind == .function && (kdB C x .local && (kdB C y .local && ((py.line == px.line) && (!(foldedForSure 8 l && foldedForSure 8 r) && (!(constantsAlone 8 l && constantsAlone 8 r) && (ckE P a C l && ckE P b C r))))))))) | _ => false)
  | .setIdx x kk e, C, s => (match s with | .Assign [.Subscript (.Name y _) kx _] v _ => varB C x y && (!isComp v && (ckE P kk C kx && ckE P e C v)) | _ => false)
  | .swap2 x k1 k2 e1 e2, C, s => (match s with | .Assign [.Tuple [.Subscript (.Name y _) a _, .Subscript (.Name z _) b _] _ _] (.Tuple [l, r] _ _) _ => varB C x y && (y == z && (ckE P k1 C a && (ckE P k2 C b && (ckE P e1 C l && ckE P e2 C r)))) | _ => false)
  | .aug i e, C, s => (match s with | .AugAssign (.Name y _) .Add v _ => tgtB C i y && ckE P e C v | _ => false)
  | .augIdx x kk e, C, s => (match s with | .AugAssign (.Subscript (.Name y _) kx _) .Add v _ => varB C x y && (ckE P kk C kx && ckE P e C v) | _ => false)
  | .append x e, C, s => (match s with | .Expr (.Call (.Attribute (.Name y _) m apos) [v] [] cpos) _ => m == ("append" : Str) && (varB C x y && ((apos.endLine == cpos.line) && ckE P e C v)) | _ => false)
  | .extend x e, C, s => (match s with | .Expr (.Call (.Attribute (.Name y _) m apos) [v] [] cpos) _ => m == ("extend" : Str) && (varB C x y && ((apos.endLine == cpos.line) && ckE P e C v)) | _ => false)
  | .appPop x z e, C, s => (match s with | .Expr (.Call (.Attribute (.Name y _) m apos) [.Call (.Attribute (.Name y2 _) m2 apos2) [v] [] cpos2] [] cpos) _ => m == ("append" : Str) && (m2 == ("pop" : Str) && (varB C x y && (varB C z y2 && ((apos.endLine == cpos.line) && ((apos2.endLine == cpos2.line) && ckE P e C v))))) | _ => false)
  | .expr e, C, s => (match s with | .Expr v _ => !isComp v && ckE P e C v | _ => false)
  | .ite c a b, C, s => (match s with | .If t as bs _ => tst c && (ckE P c C t && (ckSs a C as && ckSs b C bs)) | _ => false)
  | .for_ tg it body, C, s => (match s with | .For t i bs [] _ => tgB C tg t && (ckT P it C t i && ckSs body C bs) | _ => false)
  | .while_ _ c body, C, s => (match s with | .While t bs [] _ => tst c && (ckE P c C t && ckSs body C bs) | _ => false)
  | .ret e, C, s => (match s with | .Return (some v) _ => ckE P e C v | _ => false)
  | .raise _, _, _ => true
  | .cont, _, s => (match s with | .Continue _ => true | _ => false)
def ckSs : ISs → Ctx → List Stmt → Bool
  | .nil, _, ss => ss.isEmpty
  | .cons a as, C, ss => (match ss with | s :: ss => ckS a C s && ckSs as C ss | [] => false)
end
end
section
variable {P : PCtx} {cl : Calls} {k : Nat}
theorem not_true {b : Bool} (h : (!b) = true) : b = false := by cases b <;> first | rfl | cases h
mutual
theorem okS : ∀ (is : IS) (X : Cx) (C : Ctx) (s : Stmt), Good P cl k X C → PassesOwn (model X.prog X.w) X.A X.env X.xe → ckS P is C s = true → PS X s (tS X.K cl is)
  | .assign i e, X, C, s, g, hp, h => by
    unfold ckS at h
    split at h
    · simp only [Bool.and_eq_true] at h
      obtain ⟨h1, h2, h3⟩ := g.tgt h.1
      exact ss_assign (okE e X C _ g h.2) g.nd h1 h2 h3
    · cases h
  | .newRef i, X, C, s, g, hp, h => by
    unfold ckS at h
    split at h
    · obtain ⟨h1, h2, h3⟩ := g.tgt h
      exact ss_newRef g.nd h1 h2 h3
    · cases h
  | .unpack is e, X, C, s, g, hp, h => by
    unfold ckS at h
    split at h
    · simp only [Bool.and_eq_true] at h
      obtain ⟨h1, h2, h3, h4⟩ := h
      exact ss_unpack (okE e X C _ g h4) (not_true h2) (not_true h3) (g.tg (t := .many is) h1)
    · cases h
  | .par i j a b, X, C, s, g, hp, h => by
    unfold ckS at h
    split at h
    · simp only [Bool.and_eq_true] at h
      obtain ⟨h1, h2, h3, h4, h5, h6, h7, h8, h9, h10, h11⟩ := h
      have hk : X.env.blockKind = .function := by
        unfold Env.blockKind
        rw [g.sc, eq_of_beq h4]
        rfl
      exact ss_par (okE a X C _ g h10) (okE b X C _ g h11) g.calm g.nd (by rw [g.N]; exact eq_of_beq h1) (by rw [g.N]; exact eq_of_beq h2) (fun z => by rw [z] at h3; simp at h3) hk (g.kd h5) (g.kd h6) h7 (not_true h8) (not_true h9)
    · cases h
  | .setIdx x kk e, X, C, s, g, hp, h => by
    unfold ckS at h
    split at h
    · simp only [Bool.and_eq_true] at h
      obtain ⟨h1, h2, h3, h4⟩ := h
      obtain ⟨q1, q2, q3, q4⟩ := g.var h1
      exact ss_setIdx (okE e X C _ g h4) (not_true h2) (okE kk X C _ g h3) q1 q2 q3 q4
    · cases h
  | .swap2 x k1 k2 e1 e2, X, C, s, g, hp, h => by
    unfold ckS at h
    split at h
    · simp only [Bool.and_eq_true] at h
      obtain ⟨h1, h2, h3, h4, h5, h6⟩ := h
      obtain ⟨q1, q2, q3, q4⟩ := g.var h1
      rw [← eq_of_beq h2]
      exact ss_swap2 (okE e1 X C _ g h5) (okE e2 X C _ g h6) (okE k1 X C _ g h3) (okE k2 X C _ g h4) g.calm q1 q2 q3 q4
    · cases h
  | .aug i e, X, C, s, g, hp, h => by
    unfold ckS at h
    split at h
    · simp only [Bool.and_eq_true] at h
      obtain ⟨h1, h2, h3⟩ := g.tgt h.1
      exact ss_aug (okE e X C _ g h.2) g.nd h1 h2 h3
    · cases h
  | .augIdx x kk e, X, C, s, g, hp, h => by
    unfold ckS at h
    split at h
    · simp only [Bool.and_eq_true] at h
      obtain ⟨h1, h3, h4⟩ := h
      obtain ⟨q1, q2, q3, q4⟩ := g.var h1
      exact ss_augIdx (okE e X C _ g h4) (okE kk X C _ g h3) q1 q2 q3 q4
    · cases h
  | .append x e, X, C, s, g, hp, h => by
    unfold ckS at h
    split at h
    · simp only [Bool.and_eq_true] at h
      obtain ⟨h1, h2, h3, h4⟩ := h
      obtain ⟨q1, q2, q3, q4⟩ := g.var h2
      rw [eq_of_beq h1]
      exact ss_append (okE e X C _ g h4) q1 q2 q3 q4 h3
    · cases h
  | .extend x e, X, C, s, g, hp, h => by
    unfold ckS at h
    split at h
    · simp only [Bool.and_eq_true] at h
      obtain ⟨h1, h2, h3, h4⟩ := h
      obtain ⟨q1, q2, q3, q4⟩ := g.var h2
      rw [eq_of_beq h1]
      exact ss_extend (okE e X C _ g h4) q1 q2 q3 q4 h3
    · cases h
  | .appPop x z e, X, C, s, g, hp, h => by
    unfold ckS at h
    split at h
    · simp only [Bool.and_eq_true] at h
      obtain ⟨h1, h2, h3, h4, h5, h6, h7⟩ := h
      obtain ⟨q1, q2, q3, q4⟩ := g.var h3
      obtain ⟨r1, r2, r3, r4⟩ := g.var h4
      rw [eq_of_beq h1, eq_of_beq h2]
      exact ss_appPop (okE e X C _ g h7) q1 q2 q3 q4 r1 r2 r3 r4 h5 h6
    · cases h
  | .expr e, X, C, s, g, hp, h => by
    unfold ckS at h
    split at h
    · simp only [Bool.and_eq_true] at h
      exact ss_expr (okE e X C _ g h.2) (not_true h.1)
    · cases h
  | .ite c a b, X, C, s, g, hp, h => by
    unfold ckS at h
    split at h
    · simp only [Bool.and_eq_true] at h
      obtain ⟨h1, h2, h3, h4⟩ := h
      exact ss_ite (okE c X C _ g h2) h1 (okSs a X C _ g hp h3) (okSs b X C _ g hp h4)
    · cases h
  | .for_ tg it body, X, C, s, g, hp, h => by
    unfold ckS at h
    split at h
    · simp only [Bool.and_eq_true] at h
      obtain ⟨h1, h2, h3⟩ := h
      exact ss_for hp g.calm (okT it X C _ _ g h2) (g.tg h1) (okSs body X C _ g hp h3)
    · cases h
  | .while_ n c body, X, C, s, g, hp, h => by
    unfold ckS at h
    split at h
    · simp only [Bool.and_eq_true] at h
      obtain ⟨h1, h2, h3⟩ := h
      exact ss_while hp (okE c X C _ g h2) h1 (okSs body X C _ g hp h3)
    · cases h
  | .ret e, X, C, s, g, hp, h => by
    unfold ckS at h
    split at h
    · exact ss_ret (okE e X C _ g h)
    · cases h
  | .raise c, X, C, s, g, hp, h => ss_raise
  | .cont, X, C, s, g, hp, h => by
    unfold ckS at h
    split at h
    · exact ss_cont
    · cases h
theorem okSs : ∀ (iss : ISs) (X : Cx) (C : Ctx) (ss : List Stmt), Good P cl k X C → PassesOwn (model X.prog X.w) X.A X.env X.xe → ckSs P iss C ss = true → PSs X ss (tSs X.K cl iss)
  | .nil, X, C, ss, g, hp, h => by
    unfold ckSs at h
    cases ss with
    | nil => exact ss_nil
    | cons _ _ => cases h
  | .cons a as, X, C, ss, g, hp, h => by
    unfold ckSs at h
    split at h
    · simp only [Bool.and_eq_true] at h
      exact ss_cons (okS a X C _ g hp h.1) (okSs as X C _ g hp h.2)
    · cases h
end
end
end Ev

set_option Elab.async false
set_option linter.all false
set_option maxRecDepth 100000
set_option maxHeartbeats 4000000
namespace Ev
open PySem L2 PyProof.Rows
/-! ### a program's defs -/
def startE (n : Nat) (ds : List D) : Env := ds.map (fun d => some (false, d)) ++ List.replicate (n - ds.length) none
def fin (p : Fl × Env) : M D := match p.1 with
  | .ret d => pure d
  | .next => pure .non
  | .cont => M.no
def runFn (S : List Int) (call : Nat → List D → M D) (fn : Fn) (ds : List D) : M D := if ds.length = fn.params then evSs S call fn.body (startE fn.slots ds) >>= fin else M.no
def callN (tbl : Nat → Option Fn) (S : List Int) : Nat → Nat → List D → M D
  | 0, _, _ => M.no
  | n + 1, f, ds => match tbl f with
    | none => M.no
    | some fn => runFn S (callN tbl S n) fn ds
structure FDef where
  x : Str
  id : Nat
  N : List Str
  ps : List Str
  dk : Option (Str × Int)
  st : Stmt
def FDef.kwd (d : FDef) : List (Str × He.Dv) := match d.dk with
  | none => []
  | some (k, v) => [(k, .int v)]
def FDef.kws (d : FDef) : List (Str × V) := match d.dk with
  | none => []
  | some (k, v) => [(k, .int v)]
def FDef.dd (d : FDef) : He.DefD := ⟨(d.x, none), d.x, d.x, defArgs d.st, defBody d.st, defScope d.st, [], d.kwd⟩
def scB (N ps : List Str) (sc : Scope) : Bool := sc.kind == .function && (!sc.isCoroutine && (!sc.isGenerator && (decide N.Nodup && (N.take ps.length == ps && (ps.all (fun x => sc.names.lookup x == some .local || sc.names.lookup x == some .cell) && sc.names.all (fun y => !(y.2 == .free)))))))
theorem scB_ok {N ps : List Str} {sc : Scope} (h : scB N ps sc = true) : FnScope N ps sc := by
  unfold scB at h
  simp only [Bool.and_eq_true] at h
  obtain ⟨h1, h2, h3, h4, h5, h6, h7⟩ := h
  refine ⟨eq_of_beq h1, not_true h2, not_true h3, of_decide_eq_true h4, eq_of_beq h5, fun x hx => ?_, fun y hy e => ?_⟩
  · have := List.all_eq_true.mp h6 x hx
    rw [Bool.or_eq_true] at this
    exact this.imp eq_of_beq eq_of_beq
  · have := List.all_eq_true.mp h7 y hy
    rw [e] at this
    cases this
def ckFn (P : PCtx) (tbl : Nat → Option Fn) (d : FDef) : Bool := match tbl d.id with
  | none => false
  | some fn => scB d.N d.ps (defScope d.st) && (fn.params == d.ps.length && (fn.slots == d.N.length && ckSs P fn.body ⟨d.N, defScope d.st, fun _ => true⟩ (defBody d.st)))
/-- how its arguments bind, by the text alone -/
def BindEq (d : FDef) : Prop := match d.dk with
  | none => ∀ (kV doc pm : Value) (an : Option Addr) (cdv ct : Value) (us : List Value), us.length = d.ps.length → bindArgs (PySem.W.fnOf d.x d.x (defArgs d.st) (defBody d.st) (defScope d.st) .none kV doc pm an cdv ct) ⟨us, []⟩ = pure (d.ps.zip us)
  | some (kw, _) => d.ps ≠ [] ∧ (∀ (D : Addr) (doc pm : Value) (an : Option Addr) (cdv ct : Value) (us ks : List Value), us.length = d.ps.length - 1 → ks.length = 1 →
      KwChain D ([kw].zip ks) (bindArgs (PySem.W.fnOf d.x d.x (defArgs d.st) (defBody d.st) (defScope d.st) .none (.ref D) doc pm an cdv ct) ⟨us, []⟩) (d.ps.zip (us ++ ks))) ∧
      ∀ (D : Addr) (doc pm : Value) (an : Option Addr) (cdv ct : Value) (us ws : List Value), us.length = d.ps.length - 1 → ws.length = 1 →
        bindArgs (PySem.W.fnOf d.x d.x (defArgs d.st) (defBody d.st) (defScope d.st) .none (.ref D) doc pm an cdv ct) ⟨us, [kw].zip ws⟩ = pure (d.ps.zip (us ++ ws))
section
variable {Pg : Program} {w : World} {K : PySem.W.Frag} {mg : Str → Option Value} {base : Heap} {tbl : Nat → Option Fn} {P : PCtx}
abbrev FnP (K : PySem.W.Frag) (d : FDef) (f : Addr) (fd : FuncData) : Prop := FunD K d.x d.x (defArgs d.st) (defBody d.st) (defScope d.st) [] d.kws f fd
theorem binds_none {d : FDef} {f : Addr} {fd : FuncData} (hd : d.dk = none) (hb : BindEq d) (F : FnP K d f fd) : Binds K fd d.ps [] := by
  unfold BindEq at hb
  rw [hd] at hb
  exact FunD.bindsN F hb
theorem binds_some {d : FDef} {f : Addr} {fd : FuncData} {kw : Str} {v : Int} (hd : d.dk = some (kw, v)) (hb : BindEq d) (F : FnP K d f fd) : (∃ ds, Vals [V.int v] ds ∧ Binds K fd d.ps ds) ∧ ∃ n g, d.ps.length = n + 1 ∧ KBn K fd d.ps n [kw] g (fun vs zs => vs ++ zs) := by
  unfold BindEq at hb
  rw [hd] at hb
  obtain ⟨h0, h1, h2⟩ := hb
  have hl : d.ps.length ≠ 0 := fun z => h0 (List.length_eq_zero_iff.mp z)
  have hk : d.kws = [(kw, .int v)] := by unfold FDef.kws; rw [hd]
  have F' : FunD K d.x d.x (defArgs d.st) (defBody d.st) (defScope d.st) [] [(kw, .int v)] f fd := by rw [← hk]; exact F
  refine ⟨F'.binds0 (d.ps.length - 1) (by simp) (by show d.ps.length - 1 + 1 = _; omega) fun D doc pm an cdv ct us ks hu hk => h1 D doc pm an cdv ct us ks hu hk, d.ps.length - 1, fun us ws => us ++ ws, by omega, ?_⟩
  obtain ⟨oc, od, dV, kV, doc, pm, an, cdv, ct, osl, rfl, lk, hcd, hD, hK⟩ := F'.ex
  rcases hD with ⟨_, rfl⟩ | ⟨e, _⟩
  · rcases hK with e | ⟨D, rfl, hq⟩
    · cases e
    · exact ⟨fun s us ws X hu hw => .of_eq (h2 D doc pm an cdv ct us ws hu (by simpa using hw)), fun a b => a.append b⟩
  · exact absurd rfl e
theorem lookup_mem {α β : Type} [BEq α] [LawfulBEq α] {x : α} {y : β} : ∀ {l : List (α × β)}, l.lookup x = some y → (x, y) ∈ l
  | [], h => by cases h
  | (a, b) :: l, h => by
    rw [List.lookup_cons] at h
    split at h
    · rename_i e
      cases h
      rw [eq_of_beq e]
      exact List.mem_cons_self
    · exact List.mem_cons_of_mem _ (lookup_mem h)
theorem callN_ok {S : List Int} {n f : Nat} {ds : List D} {d : D} {μ μ' : Mu} (ev : callN tbl S (n + 1) f ds μ = .ok d μ') : ∃ fn, tbl f = some fn ∧ ds.length = fn.params ∧ (evSs S (callN tbl S n) fn.body (startE fn.slots ds) >>= fin) μ = .ok d μ' := by
  have ev : (match tbl f with | none => M.no | some fn => runFn S (callN tbl S n) fn ds : M D) μ = .ok d μ' := ev
  cases h : tbl f with
  | none => rw [h] at ev; cases ev
  | some fn =>
    rw [h] at ev
    have ev : runFn S (callN tbl S n) fn ds μ = .ok d μ' := ev
    unfold runFn at ev
    obtain ⟨h1, h2⟩ := iteM_ok ev
    exact ⟨fn, rfl, h1, h2⟩
theorem start_stt {S : List Int} {sa : Addr} {B : Addr → Prop} {ph : List Addr} {μ : Mu} {N : List Str} {vs : List V} {ds : List D} {H : Hp} (r : Reps sa ph B H vs ds) (M0 : MuOk sa ph H μ) (hs : ScrR K S sa H) (hb1 : ∀ a, B a → H a ≠ none) (hb2 : ∀ a, B a → a ∉ ph) :
    Stt ⟨K, S, sa, B, H, ph, []⟩ (fun _ => none) ph (startE N.length ds) μ (start N vs) H := by
  refine ⟨fun i b d h => ?_, ?_, M0, fun _ _ h _ => h, fun a o h => (fun (z : H a = none) => by rw [show H a = some o from h] at z; cases z), ⟨[], by simp, by simp⟩, fun i p h => (by cases h), fun i p h => (by cases h), fun i j p h => (by cases h), fun i p h => (by cases h), hb1, hb2, fun i p h => (by cases h), hs, fun p hp => (by cases hp)⟩
  · unfold startE at h
    by_cases hi : i < ds.length
    · rw [List.getElem?_append_left (by rw [List.length_map]; exact hi), List.getElem?_map] at h
      obtain ⟨d', e1, e2⟩ := Option.map_eq_some_iff.mp h
      cases e2
      obtain ⟨v, q1, q2⟩ := r.get e1
      refine ⟨v, ?_, q2.weaken fun a z => ?_⟩
      · unfold L2.start
        rw [List.getElem?_append_left (by rw [List.length_map, r.length]; exact hi), List.getElem?_map, q1]
        rfl
      · rcases z with z | ⟨j, z, _⟩
        · exact z
        · cases z
    · rw [List.getElem?_append_right (by rw [List.length_map]; omega)] at h
      rw [List.getElem?_replicate] at h
      split at h <;> cases h
  · unfold startE L2.start
    rw [List.length_append, List.length_append, List.length_map, List.length_map, List.length_replicate, List.length_replicate, r.length]
theorem prog_ok (fds : List FDef) (hP : P.fns = fds.map fun d => (d.x, (d.id, d.ps.length, d.dk))) (hck : ∀ d ∈ fds, ckFn P tbl d = true) (hb : ∀ d ∈ fds, BindEq d)
    (hF : ∀ d ∈ fds, ∃ fa fd, FnP K d fa fd ∧ mg d.x = some (.ref fa)) (hblt : ∀ x ∈ P.blt, mg x = none) (hgls : ∀ x d, P.gls.lookup x = some d → d.sc = true ∧ ∃ u v, mg x = some u ∧ RelV v u ∧ ∀ sa ph A H, Rep sa ph A H v d) :
    ∀ (n : Nat), ∀ d ∈ fds, ∀ fa fd, FnP K d fa fd → FnOk Pg w K mg base CX0 n fa fd d.ps (spF K (fun S => callN tbl S n) d.id d.ps.length) := by
  intro n
  induction n with
  | zero =>
    intro d hd fa fd F
    refine ⟨fun vs H Q E h => h.1, fun A outer s H args us vs Q E _ _ _ _ h => ?_⟩
    obtain ⟨_, S, sa, ph, μ, B, ds, dd, μ', _, _, _, _, _, ev, _⟩ := h
    cases ev
  | succ n ih =>
    intro d hd fa fd F
    have hc := hck d hd
    unfold ckFn at hc
    split at hc
    · cases hc
    · rename_i fn hfn
      simp only [Bool.and_eq_true] at hc
      obtain ⟨c1, c2, c3, c4⟩ := hc
      refine FunD.ok (N := d.N) F (scB_ok c1) (fun vs H Q E h => h.1) fun cdv A outer s H vs Q E hr h => ?_
      refine ⟨tSs K (fun S => callN tbl S n) fn.body, PSs.nox ?_, ?_⟩
      · have g : Good P (fun S => callN tbl S n) n (cxOf CX0 Pg w K mg base d.N d.x (defScope d.st) fa cdv A outer s H E).nox ⟨d.N, defScope d.st, fun _ => true⟩ := by
          refine ⟨rfl, (scB_ok c1).nd, rfl, fun _ _ => rfl, rfl, hr, fun x f np dk hl => ?_, hblt, hgls⟩
          rw [hP] at hl
          obtain ⟨d', hd', e⟩ := List.mem_map.mp (lookup_mem hl)
          cases e
          obtain ⟨fa', fd', F', hm⟩ := hF d' hd'
          refine ⟨⟨fa', fd', d'.ps, ih d' hd' fa' fd' F', hm, F'.kp, fun e => binds_none e (hb d' hd') F', fun kw v e => binds_some e (hb d' hd') F'⟩, fun S ds μ dd μ' ev => ?_⟩
          cases n with
          | zero => cases ev
          | succ n =>
            obtain ⟨fn', hfn', hl', _⟩ := callN_ok ev
            have hc' := hck d' hd'
            unfold ckFn at hc'
            rw [hfn'] at hc'
            simp only [Bool.and_eq_true] at hc'
            rw [hl']
            exact eq_of_beq hc'.2.1
        exact okSs fn.body _ _ _ g PassesOwn.never c4
      · obtain ⟨hl, S, sa, ph, μ, B, ds, dd, μ', r, M0, hs, hb1, hb2, ev, kk⟩ := h
        obtain ⟨fn', hfn', _, ev⟩ := callN_ok ev
        rw [hfn] at hfn'
        cases hfn'
        · obtain ⟨⟨fl, ρ'⟩, μ1, e1, ev⟩ := bind_ok ev
          rw [eq_of_beq c3] at e1
          refine ⟨⟨K, S, sa, B, H, ph, []⟩, fun _ => none, ph, startE d.N.length ds, μ, fl, ρ', μ1, rfl, start_stt r M0 hs hb1 hb2, e1, ?_⟩
          have gr : ∀ {own ph' σ' H'}, Stt ⟨K, S, sa, B, H, ph, []⟩ own ph' ρ' μ1 σ' H' → Grow ph H ph' H' := fun {own ph' σ' H'} I => ⟨I.fr, I.phx, fun a o h => by
            cases q : H' a with
            | none => exact absurd q (I.old a o h)
            | some o' => exact ⟨o', rfl⟩⟩
          cases fl with
          | next =>
            obtain ⟨h1, h2⟩ := pure_ok (show (pure D.non : M D) μ1 = .ok dd μ' from ev)
            subst h1 h2
            exact fun own ph' σ' H' I => kk ph' .non H' (gr I) I.mu .non
          | ret d0 =>
            obtain ⟨h1, h2⟩ := pure_ok (show (pure d0 : M D) μ1 = .ok dd μ' from ev)
            subst h1 h2
            exact fun own ph' σ' H' v I rv => kk ph' v H' (gr I) I.mu rv
          | cont => cases ev
/-- the law's promise -/
theorem law_sp {S : List Int} {a : Addr} {H : Hp} {n f : Nat} {μ' : Mu} (ho : Only H) (hS : SqL K H a (S.map V.int)) (ev : callN tbl S n f [.scr] [] = .ok (.bl true) μ') : spF K (fun S => callN tbl S n) f 1 [.ref a] H (fun v _ => v = .bl true) fun _ _ _ => False := by
  refine ⟨rfl, S, a, [], [], fun _ => False, [.scr], .bl true, μ', .cons .scr .nil, ⟨rfl, List.nodup_nil, fun n a mo h => by simp at h⟩, ?_, fun _ h => h.elim, fun _ h => h.elim, ev, fun ph' v H' _ _ r => ?_⟩
  · rcases hS with (h | ⟨o, h⟩) | h
    · rcases ho a with z | ⟨o, xs, z⟩
      · rw [h] at z; cases z
      · rw [h] at z; cases z
    · exact .inl ⟨o, h⟩
    · exact .inr fun H' => .inr h
  · cases r
    rfl
end
end Ev

set_option Elab.async false
set_option linter.all false
set_option maxRecDepth 100000
set_option maxHeartbeats 0
namespace Ev
open PySem
/-- is_whole: 0 thing 1 low 2 high -/
def fn_is_whole : Fn := ⟨3, 3, (.cons (.ret (.andL (.cons (.isi .int (.var 0)) (.cons (.not (.isi .bool (.var 0))) (.cons (.chain .le .le (.var 1) (.var 0) (.var 2)) .nil))))) .nil)⟩
/-- is_any_whole: 0 thing -/
def fn_is_any_whole : Fn := ⟨1, 1, (.cons (.ret (.andL (.cons (.isi .int (.var 0)) (.cons (.not (.isi .bool (.var 0))) .nil)))) .nil)⟩
/-- need_hands: 0 hands -/
def fn_need_hands : Fn := ⟨1, 1, (.cons (.ite (.not (.call 0 (.cons (.var 0) (.cons (.int 2) (.cons (.int 4) .nil))))) (.cons (.raise 1) .nil) .nil) .nil)⟩
/-- good_row: 0 hands 1 thing 2 one -/
def fn_good_row : Fn := ⟨2, 3, (.cons (.ret (.andL (.cons (.isi .tuple (.var 1)) (.cons (.chain .le .le (.int 1) (.b1 .len (.var 1)) (.glob (Str.ofString "LONG") (.int 64))) (.cons (.b1 .all (.comp [2] (.one 2) (.seq (.var 1)) .none (.call 0 (.cons (.var 2) (.cons (.int 0) (.cons (.bin .sub (.var 0) (.int 1)) .nil)))))) .nil))))) .nil)⟩
/-- is_row: 0 hands 1 thing -/
def fn_is_row : Fn := ⟨2, 2, (.cons (.expr (.call 2 (.cons (.var 0) .nil))) (.cons (.ret (.call 1 (.cons (.var 0) (.cons (.var 1) .nil)))) .nil))⟩
/-- need_row: 0 hands 1 row -/
def fn_need_row : Fn := ⟨2, 2, (.cons (.expr (.call 2 (.cons (.var 0) .nil))) (.cons (.ite (.not (.call 1 (.cons (.var 0) (.cons (.var 1) .nil)))) (.cons (.raise 2) .nil) .nil) .nil))⟩
/-- need_two: 0 hands 1 row 2 one 3 other -/
def fn_need_two : Fn := ⟨4, 4, (.cons (.expr (.call 3 (.cons (.var 0) (.cons (.var 1) .nil)))) (.cons (.ite (.orL (.cons (.not (.call 0 (.cons (.var 2) (.cons (.int 0) (.cons (.bin .sub (.var 0) (.int 1)) .nil))))) (.cons (.not (.call 0 (.cons (.var 3) (.cons (.int 0) (.cons (.bin .sub (.var 0) (.int 1)) .nil))))) (.cons (.cmp .eq (.var 2) (.var 3)) .nil)))) (.cons (.raise 3) .nil) .nil) .nil))⟩
/-- signs_of: 0 row 1 one 2 other 3 hand -/
def fn_signs_of : Fn := ⟨3, 4, (.cons (.ret (.comp [3] (.one 3) (.seq (.var 0)) .none (.bin .sub (.b1 .int (.cmp .eq (.var 3) (.var 1))) (.b1 .int (.cmp .eq (.var 3) (.var 2)))))) .nil)⟩
/-- signs: 0 hands 1 row 2 one 3 other -/
def fn_signs : Fn := ⟨4, 4, (.cons (.expr (.call 5 (.cons (.var 0) (.cons (.var 1) (.cons (.var 2) (.cons (.var 3) .nil)))))) (.cons (.ret (.call 4 (.cons (.var 1) (.cons (.var 2) (.cons (.var 3) .nil))))) .nil))⟩
/-- are_worths: 0 thing 1 one -/
def fn_are_worths : Fn := ⟨1, 2, (.cons (.ret (.andL (.cons (.isi .tuple (.var 0)) (.cons (.b1 .all (.comp [1] (.one 1) (.seq (.var 0)) .none (.call 6 (.cons (.var 1) .nil)))) .nil)))) .nil)⟩
/-- need_worths: 0 row 1 worths -/
def fn_need_worths : Fn := ⟨2, 2, (.cons (.ite (.orL (.cons (.not (.call 7 (.cons (.var 1) .nil))) (.cons (.cmp .ne (.b1 .len (.var 1)) (.b1 .len (.var 0))) .nil))) (.cons (.raise 4) .nil) .nil) .nil)⟩
/-- totals_of: 0 hands 1 row 2 worths 3 made 4 hand 5 worth -/
def fn_totals_of : Fn := ⟨3, 6, (.cons (.assign 3 (.bin .mul (.lst (.cons (.int 0) .nil)) (.var 0))) (.cons (.for_ (.many [4, 5]) (.zip (.var 1) (.var 2)) (.cons (.augIdx 3 (.var 4) (.var 5)) .nil)) (.cons (.ret (.var 3)) .nil)))⟩
/-- totals: 0 hands 1 row 2 worths -/
def fn_totals : Fn := ⟨3, 3, (.cons (.expr (.call 3 (.cons (.var 0) (.cons (.var 1) .nil)))) (.cons (.expr (.call 9 (.cons (.var 1) (.cons (.var 2) .nil)))) (.cons (.ret (.call 8 (.cons (.var 0) (.cons (.var 1) (.cons (.var 2) .nil))))) .nil)))⟩
/-- lead: 0 hands 1 row 2 one 3 other 4 worths 5 made -/
def fn_lead : Fn := ⟨5, 6, (.cons (.expr (.call 5 (.cons (.var 0) (.cons (.var 1) (.cons (.var 2) (.cons (.var 3) .nil)))))) (.cons (.expr (.call 9 (.cons (.var 1) (.cons (.var 4) .nil)))) (.cons (.assign 5 (.call 8 (.cons (.var 0) (.cons (.var 1) (.cons (.var 4) .nil))))) (.cons (.ret (.bin .sub (.idx (.var 5) (.var 2)) (.idx (.var 5) (.var 3)))) .nil))))⟩
/-- _law_cell_at: 0 script 1 k 2 spare 3 again -/
def fn_law_cell_at : Fn := ⟨2, 4, (.cons (.ite (.cmp .lt (.var 1) (.b1 .len (.var 0))) (.cons (.ret (.idx (.var 0) (.var 1))) .nil) .nil) (.cons (.ite (.cmp .eq (.var 0) (.lst .nil)) (.cons (.ret (.int 0)) .nil) .nil) (.cons (.assign 2 (.idx (.var 0) (.bin .mod (.var 1) (.b1 .len (.var 0))))) (.cons (.for_ (.one 3) (.rng1 (.mm false (.bin .fdiv (.var 1) (.b1 .len (.var 0))) (.int 60))) (.cons (.assign 2 (.bin .fdiv (.var 2) (.int 1000003))) .nil)) (.cons (.ret (.bin .add (.bin .add (.bin .mul (.idx (.var 0) (.bin .mod (.var 1) (.b1 .len (.var 0)))) (.int 31)) (.var 1)) (.bin .mul (.var 2) (.int 101)))) .nil)))))⟩
/-- _law_mixed: 0 script 1 k 2 reach 3 spun -/
def fn_law_mixed : Fn := ⟨3, 4, (.cons (.assign 3 (.bin .mod (.bin .add (.bin .add (.bin .mul (.call 10 (.cons (.var 0) (.cons (.var 1) .nil))) (.int 1103515245)) (.bin .mul (.int 7919) (.var 1))) (.int 12345)) (.int 2147483647))) (.cons (.ret (.bin .mod (.bin .mod (.bin .mod (.bin .pow (.var 3) (.int 5)) (.int 2147483647)) (.int 999983)) (.var 2))) .nil))⟩
/-- _law_draw: 0 script 1 town 2 reach -/
def fn_law_draw : Fn := ⟨3, 3, (.cons (.append 1 (.int 0)) (.cons (.ret (.call 11 (.cons (.var 0) (.cons (.b1 .len (.var 1)) (.cons (.var 2) .nil))))) .nil))⟩
/-- _law_some_row: 0 script 1 town 2 hands 3 reach 4 place -/
def fn_law_some_row : Fn := ⟨4, 5, (.cons (.ret (.b1 .tuple (.comp [4] (.one 4) (.rng1 (.bin .add (.int 1) (.call 12 (.cons (.var 0) (.cons (.var 1) (.cons (.var 3) .nil)))))) .none (.call 12 (.cons (.var 0) (.cons (.var 1) (.cons (.var 2) .nil))))))) .nil)⟩
/-- _law_signs_so: 0 row 1 one 2 other 3 hand -/
def fn_law_signs_so : Fn := ⟨3, 4, (.cons (.ret (.comp [3] (.one 3) (.seq (.var 0)) .none (.dget (.cons (.var 1) (.cons (.int 1) (.cons (.var 2) (.cons (.neg (.int 1)) .nil)))) (.var 3) (.int 0)))) .nil)⟩
/-- _law_lead_so: 0 row 1 one 2 other 3 worths 4 sign 5 worth -/
def fn_law_lead_so : Fn := ⟨4, 6, (.cons (.ret (.b1 .sum (.comp [4, 5] (.many [4, 5]) (.zip (.call 13 (.cons (.var 0) (.cons (.var 1) (.cons (.var 2) .nil)))) (.var 3)) .none (.bin .mul (.var 4) (.var 5))))) .nil)⟩
/-- law: 0 script 1 town 2 hands 3 row 4 worths 5 place 6 made 7 due 8 turn 9 worth 10 hand 11 one 12 other 13 own -/
def fn_law01 : Fn := ⟨1, 14, (.cons (.newRef 1) (.cons (.assign 2 (.bin .add (.int 2) (.call 12 (.cons (.var 0) (.cons (.var 1) (.cons (.int 3) .nil)))))) (.cons (.assign 3 (.call 19 (.cons (.var 0) (.cons (.var 1) (.cons (.var 2) (.cons (.int 64) .nil)))))) (.cons (.assign 4 (.b1 .tuple (.comp [5] (.one 5) (.seq (.var 3)) .none (.bin .sub (.call 12 (.cons (.var 0) (.cons (.var 1) (.cons (.int 201) .nil)))) (.int 100))))) (.cons (.assign 6 (.call 18 (.cons (.var 2) (.cons (.var 3) (.cons (.var 4) .nil))))) (.cons (.assign 7 (.comp [10] (.one 10) (.rng1 (.var 2)) .none (.b1 .sum (.comp [8, 9] (.many [8, 9]) (.zip (.var 3) (.var 4)) (.some (.cmp .eq (.var 8) (.var 10))) (.var 9))))) (.cons (.ite (.orL (.cons (.isC true .tru (.call 17 (.cons (.var 2) (.cons (.var 3) .nil)))) (.cons (.cmp .ne (.var 6) (.var 7)) (.cons (.cmp .ne (.b1 .sum (.var 6)) (.b1 .sum (.var 4))) .nil)))) (.cons (.ret (.bl false)) .nil) .nil) (.cons (.for_ (.one 11) (.rng1 (.var 2)) (.cons (.for_ (.one 12) (.rng1 (.var 2)) (.cons (.ite (.cmp .ne (.var 11) (.var 12)) (.cons (.assign 13 (.call 14 (.cons (.var 2) (.cons (.var 3) (.cons (.var 11) (.cons (.var 12) (.cons (.var 4) .nil))))))) (.cons (.ite (.cmp .ne (.call 16 (.cons (.var 2) (.cons (.var 3) (.cons (.var 11) (.cons (.var 12) .nil))))) (.call 13 (.cons (.var 3) (.cons (.var 11) (.cons (.var 12) .nil))))) (.cons (.ret (.bl false)) .nil) .nil) (.cons (.ite (.cmp .ne (.var 13) (.bin .sub (.idx (.var 6) (.var 11)) (.idx (.var 6) (.var 12)))) (.cons (.ret (.bl false)) .nil) .nil) (.cons (.ite (.orL (.cons (.cmp .ne (.var 13) (.call 15 (.cons (.var 3) (.cons (.var 11) (.cons (.var 12) (.cons (.var 4) .nil)))))) (.cons (.cmp .ne (.call 14 (.cons (.var 2) (.cons (.var 3) (.cons (.var 12) (.cons (.var 11) (.cons (.var 4) .nil)))))) (.bin .sub (.int 0) (.var 13))) .nil))) (.cons (.ret (.bl false)) .nil) .nil) .nil)))) .nil) .nil)) .nil)) (.cons (.ret (.bl true)) .nil)))))))))⟩
/-- differences_of: 0 worths 1 order 2 made 3 turn 4 one 5 later -/
def fn_differences_of : Fn := ⟨2, 6, (.cons (.assign 2 (.b1 .list (.var 0))) (.cons (.for_ (.one 3) (.rng1 (.var 1)) (.cons (.assign 2 (.comp [4, 5] (.many [4, 5]) (.zip (.var 2) (.slice (.var 2) (.some (.int 1)) .none)) .none (.bin .sub (.var 5) (.var 4)))) .nil)) (.cons (.ret (.var 2)) .nil)))⟩
/-- need_some: 0 worths -/
def fn_need_some : Fn := ⟨1, 1, (.cons (.ite (.orL (.cons (.not (.call 7 (.cons (.var 0) .nil))) (.cons (.cmp .eq (.var 0) (.tup .nil)) .nil))) (.cons (.raise 4) .nil) .nil) .nil)⟩
/-- differences: 0 worths 1 order -/
def fn_differences : Fn := ⟨2, 2, (.cons (.expr (.call 21 (.cons (.var 0) .nil))) (.cons (.ite (.not (.call 0 (.cons (.var 1) (.cons (.int 0) (.cons (.glob (Str.ofString "MOST") (.int 9)) .nil))))) (.cons (.raise 5) .nil) .nil) (.cons (.ret (.call 20 (.cons (.var 0) (.cons (.var 1) .nil)))) .nil)))⟩
/-- is_smooth: 0 worths 1 degree 2 one -/
def fn_is_smooth : Fn := ⟨2, 3, (.cons (.expr (.call 21 (.cons (.var 0) .nil))) (.cons (.ite (.not (.call 0 (.cons (.var 1) (.cons (.int 0) (.cons (.glob (Str.ofString "MOST") (.int 9)) .nil))))) (.cons (.raise 9) .nil) .nil) (.cons (.ret (.b1 .all (.comp [2] (.one 2) (.seq (.call 20 (.cons (.var 0) (.cons (.bin .add (.var 1) (.int 1)) .nil)))) .none (.cmp .eq (.var 2) (.int 0))))) .nil)))⟩
/-- _law_same_truth: 0 got 1 due -/
def fn_law_same_truth : Fn := ⟨2, 2, (.cons (.ret (.andL (.cons (.isi .bool (.var 0)) (.cons (.cmp .eq (.var 0) (.var 1)) .nil)))) .nil)⟩
/-- _law_steps_so: 0 worths 1 times 2 made 3 again 4 at -/
def fn_law_steps_so : Fn := ⟨2, 5, (.cons (.assign 2 (.b1 .list (.var 0))) (.cons (.for_ (.one 3) (.rng1 (.var 1)) (.cons (.assign 2 (.comp [4] (.one 4) (.rng1 (.bin .sub (.b1 .len (.var 2)) (.int 1))) .none (.bin .sub (.idx (.var 2) (.bin .add (.var 4) (.int 1))) (.idx (.var 2) (.var 4))))) .nil)) (.cons (.ret (.var 2)) .nil)))⟩
/-- _law_power: 0 number 1 many 2 made 3 again -/
def fn_law_power : Fn := ⟨2, 4, (.cons (.assign 2 (.int 1)) (.cons (.for_ (.one 3) (.rng1 (.var 1)) (.cons (.assign 2 (.bin .mul (.var 2) (.var 0))) .nil)) (.cons (.ret (.var 2)) .nil)))⟩
/-- _law_smooth_worths: 0 script 1 town 2 places 3 degree 4 parts 5 k 6 made 7 place 8 part -/
def fn_law_smooth_worths : Fn := ⟨4, 9, (.cons (.assign 4 (.comp [5] (.one 5) (.rng1 (.bin .add (.var 3) (.int 1))) .none (.bin .sub (.call 12 (.cons (.var 0) (.cons (.var 1) (.cons (.int 19) .nil)))) (.int 9)))) (.cons (.assign 6 (.lst .nil)) (.cons (.for_ (.one 7) (.rng1 (.var 2)) (.cons (.append 6 (.b1 .sum (.comp [5, 8] (.many [5, 8]) (.enum (.var 4)) .none (.bin .mul (.var 8) (.call 22 (.cons (.var 7) (.cons (.var 5) .nil))))))) .nil)) (.cons (.ret (.b1 .tuple (.var 6))) .nil))))⟩
/-- law: 0 script 1 town 2 places 3 degree 4 worths 5 bent 6 some 7 times 8 due 9 zero 10 one -/
def fn_law02 : Fn := ⟨1, 11, (.cons (.newRef 1) (.cons (.par 2 3 (.bin .add (.int 1) (.call 12 (.cons (.var 0) (.cons (.var 1) (.cons (.int 20) .nil))))) (.call 12 (.cons (.var 0) (.cons (.var 1) (.cons (.int 5) .nil))))) (.cons (.assign 4 (.call 27 (.cons (.var 0) (.cons (.var 1) (.cons (.var 2) (.cons (.var 3) .nil)))))) (.cons (.ite (.orL (.cons (.not (.call 23 (.cons (.var 4) (.cons (.var 3) .nil)))) (.cons (.isC true .tru (.call 23 (.cons (.var 4) (.cons (.var 3) .nil)))) .nil))) (.cons (.ret (.bl false)) .nil) .nil) (.cons (.assign 5 (.b1 .list (.var 4))) (.cons (.augIdx 5 (.call 12 (.cons (.var 0) (.cons (.var 1) (.cons (.var 2) .nil)))) (.bin .add (.int 1) (.call 12 (.cons (.var 0) (.cons (.var 1) (.cons (.int 5) .nil)))))) (.cons (.for_ (.one 6) (.seq (.tup (.cons (.var 4) (.cons (.b1 .tuple (.var 5)) .nil)))) (.cons (.for_ (.one 7) (.rng1 (.int 10)) (.cons (.assign 8 (.call 26 (.cons (.var 6) (.cons (.var 7) .nil)))) (.cons (.ite (.cmp .ne (.callK 24 (.cons (.var 6) .nil) (Str.ofString "order") (.var 7)) (.var 8)) (.cons (.ret (.bl false)) .nil) .nil) (.cons (.assign 9 (.cmp .eq (.comp [10] (.one 10) (.seq (.var 8)) (.some (.cmp .ne (.var 10) (.int 0))) (.var 10)) (.lst .nil))) (.cons (.ite (.andL (.cons (.cmp .gt (.var 7) (.int 0)) (.cons (.not (.call 25 (.cons (.call 23 (.cons (.var 6) (.cons (.bin .sub (.var 7) (.int 1)) .nil))) (.cons (.var 9) .nil)))) .nil))) (.cons (.ret (.bl false)) .nil) .nil) .nil))))) (.cons (.ite (.cmp .ne (.callD 24 (.cons (.var 6) .nil) (.int 1)) (.callK 24 (.cons (.var 6) .nil) (Str.ofString "order") (.int 1))) (.cons (.ret (.bl false)) .nil) .nil) .nil))) (.cons (.ite (.andL (.cons (.cmp .gt (.var 2) (.bin .add (.var 3) (.int 1))) (.cons (.isC true .fls (.call 23 (.cons (.b1 .tuple (.var 5)) (.cons (.var 3) .nil)))) .nil))) (.cons (.ret (.bl false)) .nil) .nil) (.cons (.ret (.isC false .tru (.call 23 (.cons (.var 4) (.cons (.int 9) .nil))))) .nil)))))))))⟩
/-- pairs_of: 0 hands 1 one 2 other -/
def fn_pairs_of : Fn := ⟨1, 3, (.cons (.ret (.comp2 [1, 2] [2] (.one 1) (.rng1 (.var 0)) (.one 2) (.rng2 (.bin .add (.var 1) (.int 1)) (.var 0)) (.tup (.cons (.var 1) (.cons (.var 2) .nil))))) .nil)⟩
/-- summed: 0 numbers 1 made 2 total 3 one -/
def fn_summed : Fn := ⟨1, 4, (.cons (.par 1 2 (.lst .nil) (.int 0)) (.cons (.for_ (.one 3) (.seq (.var 0)) (.cons (.aug 2 (.var 3)) (.cons (.append 1 (.var 2)) .nil))) (.cons (.ret (.var 1)) .nil)))⟩
/-- sums_of: 0 row 1 one 2 other 3 order 4 made 5 turn -/
def fn_sums_of : Fn := ⟨4, 6, (.cons (.assign 4 (.call 4 (.cons (.var 0) (.cons (.var 1) (.cons (.var 2) .nil))))) (.cons (.for_ (.one 5) (.rng1 (.var 3)) (.cons (.assign 4 (.call 28 (.cons (.var 4) .nil))) .nil)) (.cons (.ret (.var 4)) .nil)))⟩
/-- sums: 0 hands 1 row 2 one 3 other 4 order -/
def fn_sums : Fn := ⟨5, 5, (.cons (.expr (.call 5 (.cons (.var 0) (.cons (.var 1) (.cons (.var 2) (.cons (.var 3) .nil)))))) (.cons (.ite (.not (.call 0 (.cons (.var 4) (.cons (.int 0) (.cons (.glob (Str.ofString "MOST") (.int 9)) .nil))))) (.cons (.raise 5) .nil) .nil) (.cons (.ret (.call 29 (.cons (.var 1) (.cons (.var 2) (.cons (.var 3) (.cons (.var 4) .nil)))))) .nil)))⟩
/-- two_even: 0 row 1 one 2 other 3 degree 4 made 5 turn -/
def fn_two_even : Fn := ⟨4, 6, (.cons (.assign 4 (.call 4 (.cons (.var 0) (.cons (.var 1) (.cons (.var 2) .nil))))) (.cons (.for_ (.one 5) (.rng1 (.bin .add (.var 3) (.int 1))) (.cons (.assign 4 (.call 28 (.cons (.var 4) .nil))) (.cons (.ite (.cmp .ne (.idx (.var 4) (.neg (.int 1))) (.int 0)) (.cons (.ret (.bl false)) .nil) .nil) .nil))) (.cons (.ret (.bl true)) .nil)))⟩
/-- even_of: 0 hands 1 row 2 degree 3 one 4 other -/
def fn_even_of : Fn := ⟨3, 5, (.cons (.ret (.b1 .all (.comp [3, 4] (.many [3, 4]) (.seq (.call 30 (.cons (.var 0) .nil))) .none (.call 31 (.cons (.var 1) (.cons (.var 3) (.cons (.var 4) (.cons (.var 2) .nil)))))))) .nil)⟩
/-- is_even: 0 hands 1 row 2 degree -/
def fn_is_even : Fn := ⟨3, 3, (.cons (.expr (.call 3 (.cons (.var 0) (.cons (.var 1) .nil)))) (.cons (.ite (.not (.call 0 (.cons (.var 2) (.cons (.int 0) (.cons (.glob (Str.ofString "MOST") (.int 9)) .nil))))) (.cons (.raise 9) .nil) .nil) (.cons (.ret (.call 32 (.cons (.var 0) (.cons (.var 1) (.cons (.var 2) .nil))))) .nil)))⟩
/-- evenness: 0 hands 1 row 2 degree -/
def fn_evenness : Fn := ⟨2, 3, (.cons (.expr (.call 3 (.cons (.var 0) (.cons (.var 1) .nil)))) (.cons (.assign 2 (.neg (.int 1))) (.cons (.while_ 1000 (.call 32 (.cons (.var 0) (.cons (.var 1) (.cons (.bin .add (.var 2) (.int 1)) .nil)))) (.cons (.aug 2 (.int 1)) .nil)) (.cons (.ret (.var 2)) .nil))))⟩
/-- _law_same_number: 0 got 1 due -/
def fn_law_same_number : Fn := ⟨2, 2, (.cons (.ret (.andL (.cons (.isi .int (.var 0)) (.cons (.not (.isi .bool (.var 0))) (.cons (.cmp .eq (.var 0) (.var 1)) .nil))))) .nil)⟩
/-- _law_order_of: 0 script 1 town 2 many 3 left 4 made -/
def fn_law_order_of : Fn := ⟨3, 5, (.cons (.par 3 4 (.lrange (.var 2)) (.lst .nil)) (.cons (.while_ 1000 (.cmp .ne (.var 3) (.lst .nil)) (.cons (.appPop 4 3 (.call 12 (.cons (.var 0) (.cons (.var 1) (.cons (.b1 .len (.var 3)) .nil))))) .nil)) (.cons (.ret (.var 4)) .nil)))⟩
/-- _law_rest: 0 number 1 many -/
def fn_law_rest : Fn := ⟨2, 2, (.cons (.ret (.bin .sub (.var 0) (.bin .mul (.bin .fdiv (.var 0) (.var 1)) (.var 1)))) .nil)⟩
/-- _law_put: 0 hands 1 row 2 other 3 made 4 turn 5 one -/
def fn_law_put : Fn := ⟨3, 6, (.cons (.assign 3 (.lst .nil)) (.cons (.for_ (.one 4) (.seq (.var 2)) (.cons (.extend 3 (.comp [5] (.one 5) (.seq (.var 1)) .none (.call 33 (.cons (.bin .add (.var 5) (.var 4)) (.cons (.var 0) .nil))))) .nil)) (.cons (.ret (.b1 .tuple (.var 3))) .nil)))⟩
/-- _law_even_row: 0 script 1 town 2 hands 3 degree 4 made 5 again -/
def fn_law_even_row : Fn := ⟨4, 6, (.cons (.assign 4 (.b1 .tuple (.call 35 (.cons (.var 0) (.cons (.var 1) (.cons (.var 2) .nil)))))) (.cons (.for_ (.one 5) (.rng1 (.var 3)) (.cons (.assign 4 (.call 34 (.cons (.var 2) (.cons (.var 4) (.cons (.b1 .tuple (.call 35 (.cons (.var 0) (.cons (.var 1) (.cons (.var 2) .nil))))) .nil))))) .nil)) (.cons (.ite (.andL (.cons (.cmp .eq (.call 12 (.cons (.var 0) (.cons (.var 1) (.cons (.int 3) .nil)))) (.int 0)) (.cons (.cmp .le (.bin .mul (.int 2) (.b1 .len (.var 4))) (.int 32)) .nil))) (.cons (.assign 4 (.bin .add (.var 4) (.rev (.var 4)))) .nil) .nil) (.cons (.ret (.var 4)) .nil))))⟩
/-- _law_near_even: 0 script 1 town 2 hands 3 degree 4 kind 5 made 6 one 7 other -/
def fn_law_near_even : Fn := ⟨4, 8, (.cons (.assign 4 (.call 12 (.cons (.var 0) (.cons (.var 1) (.cons (.int 4) .nil))))) (.cons (.ite (.cmp .eq (.var 4) (.int 0)) (.cons (.ret (.call 19 (.cons (.var 0) (.cons (.var 1) (.cons (.var 2) (.cons (.int 12) .nil)))))) .nil) .nil) (.cons (.assign 5 (.b1 .list (.call 36 (.cons (.var 0) (.cons (.var 1) (.cons (.var 2) (.cons (.var 3) .nil))))))) (.cons (.ite (.cmp .eq (.var 4) (.int 1)) (.cons (.setIdx 5 (.call 12 (.cons (.var 0) (.cons (.var 1) (.cons (.b1 .len (.var 5)) .nil)))) (.call 12 (.cons (.var 0) (.cons (.var 1) (.cons (.var 2) .nil))))) .nil) .nil) (.cons (.ite (.cmp .eq (.var 4) (.int 2)) (.cons (.par 6 7 (.call 12 (.cons (.var 0) (.cons (.var 1) (.cons (.b1 .len (.var 5)) .nil)))) (.call 12 (.cons (.var 0) (.cons (.var 1) (.cons (.b1 .len (.var 5)) .nil))))) (.cons (.swap2 5 (.var 6) (.var 7) (.idx (.var 5) (.var 7)) (.idx (.var 5) (.var 6))) .nil)) .nil) (.cons (.ret (.b1 .tuple (.var 5))) .nil))))))⟩
/-- _law_sums_so: 0 numbers 1 times 2 made 3 again 4 at -/
def fn_law_sums_so : Fn := ⟨2, 5, (.cons (.assign 2 (.b1 .list (.var 0))) (.cons (.for_ (.one 3) (.rng1 (.var 1)) (.cons (.assign 2 (.comp [4] (.one 4) (.rng1 (.b1 .len (.var 2))) .none (.b1 .sum (.slice (.var 2) .none (.some (.bin .add (.var 4) (.int 1))))))) .nil)) (.cons (.ret (.var 2)) .nil)))⟩
/-- _law_moments_so: 0 hands 1 row 2 degree 3 made 4 hand 5 own 6 place 7 k -/
def fn_law_moments_so : Fn := ⟨3, 8, (.cons (.assign 3 (.lst .nil)) (.cons (.for_ (.one 4) (.rng1 (.var 0)) (.cons (.assign 5 (.comp [6] (.one 6) (.rng1 (.b1 .len (.var 1))) (.some (.cmp .eq (.idx (.var 1) (.var 6)) (.var 4))) (.var 6))) (.cons (.append 3 (.comp [7] (.one 7) (.rng1 (.bin .add (.var 2) (.int 1))) .none (.b1 .sum (.comp [6] (.one 6) (.seq (.var 5)) .none (.call 22 (.cons (.var 6) (.cons (.var 7) .nil))))))) .nil))) (.cons (.ret (.var 3)) .nil)))⟩
/-- _law_even_so: 0 hands 1 row 2 degree 3 rows 4 own -/
def fn_law_even_so : Fn := ⟨3, 5, (.cons (.assign 3 (.call 37 (.cons (.var 0) (.cons (.var 1) (.cons (.var 2) .nil))))) (.cons (.ret (.cmp .eq (.comp [4] (.one 4) (.seq (.var 3)) (.some (.cmp .ne (.var 4) (.idx (.var 3) (.int 0)))) (.var 4)) (.lst .nil))) .nil))⟩
/-- _law_pairs: 0 hands 1 made 2 one 3 other -/
def fn_law_pairs : Fn := ⟨1, 4, (.cons (.assign 1 (.lst .nil)) (.cons (.for_ (.one 2) (.rng1 (.var 0)) (.cons (.extend 1 (.comp [3] (.one 3) (.rng2 (.bin .add (.var 2) (.int 1)) (.var 0)) .none (.tup (.cons (.var 2) (.cons (.var 3) .nil))))) .nil)) (.cons (.ret (.var 1)) .nil)))⟩
/-- law: 0 script 1 town 2 hands 3 row 4 one 5 other 6 times 7 due 8 degree 9 ends_there 10 a 11 b 12 signs_there 13 end -/
def fn_law03 : Fn := ⟨1, 14, (.cons (.newRef 1) (.cons (.assign 2 (.bin .add (.int 2) (.call 12 (.cons (.var 0) (.cons (.var 1) (.cons (.int 3) .nil)))))) (.cons (.assign 3 (.call 45 (.cons (.var 0) (.cons (.var 1) (.cons (.var 2) (.cons (.call 12 (.cons (.var 0) (.cons (.var 1) (.cons (.int 3) .nil)))) .nil)))))) (.cons (.unpack [4, 5] (.slice (.call 35 (.cons (.var 0) (.cons (.var 1) (.cons (.var 2) .nil)))) .none (.some (.int 2)))) (.cons (.for_ (.one 6) (.rng1 (.int 10)) (.cons (.assign 7 (.call 43 (.cons (.call 13 (.cons (.var 3) (.cons (.var 4) (.cons (.var 5) .nil)))) (.cons (.var 6) .nil)))) (.cons (.ite (.orL (.cons (.cmp .ne (.callK 44 (.cons (.var 2) (.cons (.var 3) (.cons (.var 4) (.cons (.var 5) .nil)))) (Str.ofString "order") (.var 6)) (.var 7)) (.cons (.andL (.cons (.cmp .eq (.var 6) (.int 1)) (.cons (.cmp .ne (.callD 44 (.cons (.var 2) (.cons (.var 3) (.cons (.var 4) (.cons (.var 5) .nil)))) (.int 1)) (.var 7)) .nil))) .nil))) (.cons (.ret (.bl false)) .nil) .nil) .nil))) (.cons (.for_ (.one 8) (.rng1 (.int 6)) (.cons (.assign 9 (.lst .nil)) (.cons (.for_ (.many [10, 11]) (.seq (.call 42 (.cons (.var 2) .nil))) (.cons (.assign 12 (.call 13 (.cons (.var 3) (.cons (.var 10) (.cons (.var 11) .nil))))) (.cons (.extend 9 (.comp [6] (.one 6) (.rng2 (.int 1) (.bin .add (.var 8) (.int 2))) .none (.idx (.call 43 (.cons (.var 12) (.cons (.var 6) .nil))) (.neg (.int 1))))) .nil))) (.cons (.ite (.not (.call 25 (.cons (.call 41 (.cons (.var 2) (.cons (.var 3) (.cons (.var 8) .nil)))) (.cons (.cmp .eq (.comp [13] (.one 13) (.seq (.var 9)) (.some (.cmp .ne (.var 13) (.int 0))) (.var 13)) (.lst .nil)) .nil)))) (.cons (.ret (.bl false)) .nil) .nil) .nil)))) (.cons (.assign 7 (.neg (.int 1))) (.cons (.while_ 1000 (.call 40 (.cons (.var 2) (.cons (.var 3) (.cons (.bin .add (.var 7) (.int 1)) .nil)))) (.cons (.assign 7 (.bin .add (.var 7) (.int 1))) .nil)) (.cons (.ret (.call 38 (.cons (.call 39 (.cons (.var 2) (.cons (.var 3) .nil))) (.cons (.var 7) .nil)))) .nil)))))))))⟩
/-- powers: 0 number 1 degree 2 made 3 turn -/
def fn_powers : Fn := ⟨2, 4, (.cons (.assign 2 (.lst (.cons (.int 1) .nil))) (.cons (.for_ (.one 3) (.rng1 (.var 1)) (.cons (.append 2 (.bin .mul (.idx (.var 2) (.neg (.int 1))) (.var 0))) .nil)) (.cons (.ret (.var 2)) .nil)))⟩
/-- moments_of: 0 hands 1 row 2 degree 3 made 4 hand 5 place 6 total 7 more -/
def fn_moments_of : Fn := ⟨3, 8, (.cons (.assign 3 (.comp [4] (.one 4) (.rng1 (.var 0)) .none (.bin .mul (.lst (.cons (.int 0) .nil)) (.bin .add (.var 2) (.int 1))))) (.cons (.for_ (.many [5, 4]) (.enum (.var 1)) (.cons (.setIdx 3 (.var 4) (.comp [6, 7] (.many [6, 7]) (.zip (.idx (.var 3) (.var 4)) (.call 46 (.cons (.var 5) (.cons (.var 2) .nil)))) .none (.bin .add (.var 6) (.var 7)))) .nil)) (.cons (.ret (.var 3)) .nil)))⟩
/-- moments: 0 hands 1 row 2 degree -/
def fn_moments : Fn := ⟨3, 3, (.cons (.expr (.call 3 (.cons (.var 0) (.cons (.var 1) .nil)))) (.cons (.ite (.not (.call 0 (.cons (.var 2) (.cons (.int 0) (.cons (.glob (Str.ofString "MOMENTS") (.int 9)) .nil))))) (.cons (.raise 9) .nil) .nil) (.cons (.ret (.call 47 (.cons (.var 0) (.cons (.var 1) (.cons (.var 2) .nil))))) .nil)))⟩
/-- need_order: 0 order 1 bound -/
def fn_need_order : Fn := ⟨2, 2, (.cons (.ite (.not (.call 0 (.cons (.var 0) (.cons (.int 1) (.cons (.glob (Str.ofString "ORDERS") (.int 4)) .nil))))) (.cons (.raise 5) .nil) .nil) (.cons (.ite (.not (.call 0 (.cons (.var 1) (.cons (.int 0) (.cons (.glob (Str.ofString "BOUND") (.int 99)) .nil))))) (.cons (.raise 6) .nil) .nil) .nil))⟩
/-- amount_of: 0 row 1 one 2 other 3 order 4 total -/
def fn_amount_of : Fn := ⟨4, 5, (.cons (.ret (.b1 .sum (.comp [4] (.one 4) (.seq (.call 29 (.cons (.var 0) (.cons (.var 1) (.cons (.var 2) (.cons (.var 3) .nil)))))) .none (.b1 .abs (.var 4))))) .nil)⟩
/-- greatest_of: 0 hands 1 row 2 order 3 one 4 other -/
def fn_greatest_of : Fn := ⟨3, 5, (.cons (.ite (.not (.call 32 (.cons (.var 0) (.cons (.var 1) (.cons (.bin .sub (.var 2) (.int 1)) .nil))))) (.cons (.ret .non) .nil) .nil) (.cons (.ret (.b1 .max (.comp [3, 4] (.many [3, 4]) (.seq (.call 30 (.cons (.var 0) .nil))) .none (.call 49 (.cons (.var 1) (.cons (.var 3) (.cons (.var 4) (.cons (.var 2) .nil)))))))) .nil))⟩
/-- greatest: 0 hands 1 row 2 order 3 bound 4 most -/
def fn_greatest : Fn := ⟨4, 5, (.cons (.expr (.call 3 (.cons (.var 0) (.cons (.var 1) .nil)))) (.cons (.expr (.call 51 (.cons (.var 2) (.cons (.var 3) .nil)))) (.cons (.assign 4 (.call 50 (.cons (.var 0) (.cons (.var 1) (.cons (.var 2) .nil))))) (.cons (.ret (.ite (.isC false .non (.var 4)) .non (.bin .mul (.var 3) (.var 4)))) .nil))))⟩
/-- of_two: 0 hands 1 row 2 one 3 other 4 order 5 bound -/
def fn_of_two : Fn := ⟨6, 6, (.cons (.expr (.call 5 (.cons (.var 0) (.cons (.var 1) (.cons (.var 2) (.cons (.var 3) .nil)))))) (.cons (.expr (.call 51 (.cons (.var 4) (.cons (.var 5) .nil)))) (.cons (.ret (.ite (.call 31 (.cons (.var 1) (.cons (.var 2) (.cons (.var 3) (.cons (.bin .sub (.var 4) (.int 1)) .nil))))) (.bin .mul (.var 5) (.call 49 (.cons (.var 1) (.cons (.var 2) (.cons (.var 3) (.cons (.var 4) .nil)))))) .non)) .nil)))⟩
/-- sign_of: 0 number -/
def fn_sign_of : Fn := ⟨1, 1, (.cons (.ret (.bin .sub (.b1 .int (.cmp .gt (.var 0) (.int 0))) (.b1 .int (.cmp .lt (.var 0) (.int 0))))) .nil)⟩
/-- worst: 0 hands 1 row 2 one 3 other 4 order 5 bound 6 turned 7 made 8 total 9 turn 10 later 11 step -/
def fn_worst : Fn := ⟨6, 12, (.cons (.expr (.call 5 (.cons (.var 0) (.cons (.var 1) (.cons (.var 2) (.cons (.var 3) .nil)))))) (.cons (.expr (.call 51 (.cons (.var 4) (.cons (.var 5) .nil)))) (.cons (.ite (.not (.call 31 (.cons (.var 1) (.cons (.var 2) (.cons (.var 3) (.cons (.bin .sub (.var 4) (.int 1)) .nil)))))) (.cons (.raise 7) .nil) .nil) (.cons (.assign 6 (.ite (.cmp .eq (.bin .mod (.var 4) (.int 2)) (.int 0)) (.var 5) (.bin .sub (.int 0) (.var 5)))) (.cons (.assign 7 (.slice (.comp [8] (.one 8) (.seq (.call 29 (.cons (.var 1) (.cons (.var 2) (.cons (.var 3) (.cons (.var 4) .nil)))))) .none (.bin .mul (.var 6) (.call 52 (.cons (.var 8) .nil)))) .none (.some (.mm true (.int 0) (.bin .sub (.b1 .len (.var 1)) (.var 4)))))) (.cons (.for_ (.one 9) (.rng1 (.var 4)) (.cons (.assign 10 (.lst (.cons (.int 0) .nil))) (.cons (.for_ (.one 11) (.seq (.var 7)) (.cons (.append 10 (.bin .add (.idx (.var 10) (.neg (.int 1))) (.var 11))) .nil)) (.cons (.assign 7 (.var 10)) .nil)))) (.cons (.ret (.b1 .tuple (.slice (.var 7) .none (.some (.b1 .len (.var 1)))))) .nil)))))))⟩
/-- _law_most_so: 0 hands 1 row 2 times 3 made 4 one 5 other 6 total -/
def fn_law_most_so : Fn := ⟨3, 7, (.cons (.ite (.andL (.cons (.cmp .gt (.var 2) (.int 0)) (.cons (.not (.call 40 (.cons (.var 0) (.cons (.var 1) (.cons (.bin .sub (.var 2) (.int 1)) .nil))))) .nil))) (.cons (.ret .non) .nil) .nil) (.cons (.assign 3 (.lst .nil)) (.cons (.for_ (.many [4, 5]) (.seq (.call 42 (.cons (.var 0) .nil))) (.cons (.append 3 (.b1 .sum (.comp [6] (.one 6) (.seq (.call 43 (.cons (.call 13 (.cons (.var 1) (.cons (.var 4) (.cons (.var 5) .nil)))) (.cons (.var 2) .nil)))) .none (.b1 .abs (.var 6))))) .nil)) (.cons (.ret (.b1 .max (.var 3))) .nil))))⟩
/-- _law_bent_worths: 0 script 1 town 2 worths 3 places 4 times 5 reach 6 made 7 later 8 step 9 at 10 turn -/
def fn_law_bent_worths : Fn := ⟨6, 11, (.cons (.assign 6 (.b1 .list (.var 2))) (.cons (.while_ 1000 (.cmp .lt (.b1 .len (.var 6)) (.var 3)) (.cons (.par 7 8 (.slice (.var 6) (.some (.bin .sub (.b1 .len (.var 6)) (.var 4))) .none) (.int 0)) (.cons (.while_ 1000 (.cmp .ne (.var 7) (.lst .nil)) (.cons (.assign 8 (.bin .add (.var 8) (.idx (.var 7) (.neg (.int 1))))) (.cons (.assign 7 (.comp [9] (.one 9) (.rng1 (.bin .sub (.b1 .len (.var 7)) (.int 1))) .none (.bin .sub (.idx (.var 7) (.bin .add (.var 9) (.int 1))) (.idx (.var 7) (.var 9))))) .nil))) (.cons (.assign 10 (.call 12 (.cons (.var 0) (.cons (.var 1) (.cons (.int 4) .nil))))) (.cons (.append 6 (.bin .add (.var 8) (.idx (.lst (.cons (.var 5) (.cons (.bin .sub (.int 0) (.var 5)) (.cons (.int 0) (.cons (.bin .sub (.call 12 (.cons (.var 0) (.cons (.var 1) (.cons (.bin .add (.bin .mul (.int 2) (.var 5)) (.int 1)) .nil)))) (.var 5)) .nil))))) (.var 10)))) .nil))))) (.cons (.ret (.b1 .tuple (.var 6))) .nil)))⟩
/-- law: 0 script 1 town 2 hands 3 times 4 row 5 reach 6 most 7 tops 8 one 9 other 10 own 11 a 12 b 13 worths 14 step 15 again 16 first 17 k 18 some -/
def fn_law05 : Fn := ⟨1, 19, (.cons (.newRef 1) (.cons (.par 2 3 (.bin .add (.int 2) (.call 12 (.cons (.var 0) (.cons (.var 1) (.cons (.int 2) .nil))))) (.bin .add (.int 1) (.call 12 (.cons (.var 0) (.cons (.var 1) (.cons (.int 3) .nil)))))) (.cons (.par 4 5 (.call 36 (.cons (.var 0) (.cons (.var 1) (.cons (.var 2) (.cons (.bin .sub (.var 3) (.int 1)) .nil))))) (.call 12 (.cons (.var 0) (.cons (.var 1) (.cons (.int 100) .nil))))) (.cons (.assign 6 (.callK 56 (.cons (.var 2) (.cons (.var 4) (.cons (.var 3) .nil))) (Str.ofString "bound") (.var 5))) (.cons (.ite (.not (.call 38 (.cons (.var 6) (.cons (.bin .mul (.var 5) (.call 57 (.cons (.var 2) (.cons (.var 4) (.cons (.var 3) .nil))))) .nil)))) (.cons (.ret (.bl false)) .nil) .nil) (.cons (.ite (.cmp .ne (.bin .mul (.callD 56 (.cons (.var 2) (.cons (.var 4) (.cons (.var 3) .nil))) (.int 1)) (.var 5)) (.var 6)) (.cons (.ret (.bl false)) .nil) .nil) (.cons (.assign 7 (.lst .nil)) (.cons (.for_ (.many [8, 9]) (.seq (.call 42 (.cons (.var 2) .nil))) (.cons (.assign 10 (.callK 55 (.cons (.var 2) (.cons (.var 4) (.cons (.var 8) (.cons (.var 9) (.cons (.var 3) .nil))))) (Str.ofString "bound") (.var 5))) (.cons (.append 7 (.var 10)) (.cons (.ite (.cmp .ne (.var 10) (.callK 55 (.cons (.var 2) (.cons (.var 4) (.cons (.var 9) (.cons (.var 8) (.cons (.var 3) .nil))))) (Str.ofString "bound") (.var 5))) (.cons (.ret (.bl false)) .nil) .nil) (.cons (.for_ (.many [11, 12]) (.seq (.tup (.cons (.tup (.cons (.var 8) (.cons (.var 9) .nil))) (.cons (.tup (.cons (.var 9) (.cons (.var 8) .nil))) .nil)))) (.cons (.assign 13 (.callK 54 (.cons (.var 2) (.cons (.var 4) (.cons (.var 11) (.cons (.var 12) (.cons (.var 3) .nil))))) (Str.ofString "bound") (.var 5))) (.cons (.ite (.orL (.cons (.cmp .ne (.call 14 (.cons (.var 2) (.cons (.var 4) (.cons (.var 11) (.cons (.var 12) (.cons (.var 13) .nil)))))) (.var 10)) (.cons (.cmp .ne (.b1 .len (.var 13)) (.b1 .len (.var 4))) .nil))) (.cons (.ret (.bl false)) .nil) .nil) (.cons (.ite (.cmp .ne (.comp [14] (.one 14) (.seq (.call 26 (.cons (.var 13) (.cons (.var 3) .nil)))) (.some (.not (.chain .le .le (.bin .sub (.int 0) (.var 5)) (.var 14) (.var 5)))) (.var 14)) (.lst .nil)) (.cons (.ret (.bl false)) .nil) .nil) .nil)))) (.cons (.for_ (.one 15) (.rng1 (.int 3)) (.cons (.assign 16 (.comp [17] (.one 17) (.rng1 (.var 3)) .none (.bin .sub (.call 12 (.cons (.var 0) (.cons (.var 1) (.cons (.int 19) .nil)))) (.int 9)))) (.cons (.assign 18 (.call 53 (.cons (.var 0) (.cons (.var 1) (.cons (.var 16) (.cons (.b1 .len (.var 4)) (.cons (.var 3) (.cons (.var 5) .nil)))))))) (.cons (.ite (.not (.chain .le .le (.bin .sub (.int 0) (.var 10)) (.call 14 (.cons (.var 2) (.cons (.var 4) (.cons (.var 8) (.cons (.var 9) (.cons (.var 18) .nil)))))) (.var 10))) (.cons (.ret (.bl false)) .nil) .nil) .nil)))) .nil)))))) (.cons (.ret (.cmp .eq (.b1 .max (.var 7)) (.var 6))) .nil)))))))))⟩
/-- _law_two_so: 0 row 1 one 2 other 3 degree 4 rows -/
def fn_law_two_so : Fn := ⟨4, 5, (.cons (.assign 4 (.call 37 (.cons (.int 4) (.cons (.var 0) (.cons (.var 3) .nil))))) (.cons (.ret (.cmp .eq (.idx (.var 4) (.var 1)) (.idx (.var 4) (.var 2)))) .nil))⟩
/-- law: 0 script 1 town 2 hands 3 times 4 row 5 even 6 one 7 other 8 own 9 got 10 found 11 k 12 worths 13 place -/
def fn_law06 : Fn := ⟨1, 14, (.cons (.newRef 1) (.cons (.par 2 3 (.bin .add (.int 2) (.call 12 (.cons (.var 0) (.cons (.var 1) (.cons (.int 3) .nil))))) (.bin .add (.int 1) (.call 12 (.cons (.var 0) (.cons (.var 1) (.cons (.int 4) .nil)))))) (.cons (.assign 4 (.call 45 (.cons (.var 0) (.cons (.var 1) (.cons (.var 2) (.cons (.call 12 (.cons (.var 0) (.cons (.var 1) (.cons (.int 3) .nil)))) .nil)))))) (.cons (.assign 5 (.call 40 (.cons (.var 2) (.cons (.var 4) (.cons (.bin .sub (.var 3) (.int 1)) .nil))))) (.cons (.ite (.cmp .ne (.isC false .non (.callD 56 (.cons (.var 2) (.cons (.var 4) (.cons (.var 3) .nil))) (.int 1))) (.not (.var 5))) (.cons (.ret (.bl false)) .nil) .nil) (.cons (.for_ (.many [6, 7]) (.seq (.call 42 (.cons (.var 2) .nil))) (.cons (.par 8 9 (.call 93 (.cons (.var 4) (.cons (.var 6) (.cons (.var 7) (.cons (.bin .sub (.var 3) (.int 1)) .nil))))) (.call 92 (.cons (.var 2) (.cons (.var 4) (.cons (.var 6) (.cons (.var 7) (.cons (.var 3) .nil))))))) (.cons (.ite (.orL (.cons (.cmp .eq (.isC false .non (.callD 55 (.cons (.var 2) (.cons (.var 4) (.cons (.var 6) (.cons (.var 7) (.cons (.var 3) .nil))))) (.int 1))) (.var 8)) (.cons (.cmp .eq (.cmp .eq (.var 9) (.tup (.cons (.str (Str.ofString "refused")) (.cons (.int 6) .nil)))) (.var 8)) .nil))) (.cons (.ret (.bl false)) .nil) .nil) (.cons (.ite (.not (.var 8)) (.cons (.assign 10 (.lst .nil)) (.cons (.for_ (.one 11) (.rng1 (.var 3)) (.cons (.assign 12 (.b1 .tuple (.comp [13] (.one 13) (.rng1 (.b1 .len (.var 4))) .none (.bin .mul (.int 1000) (.call 22 (.cons (.var 13) (.cons (.var 11) .nil))))))) (.cons (.ite (.isC true .tru (.call 23 (.cons (.var 12) (.cons (.bin .sub (.var 3) (.int 1)) .nil)))) (.cons (.ret (.bl false)) .nil) .nil) (.cons (.append 10 (.b1 .abs (.call 14 (.cons (.var 2) (.cons (.var 4) (.cons (.var 6) (.cons (.var 7) (.cons (.var 12) .nil)))))))) .nil)))) (.cons (.ite (.cmp .lt (.b1 .max (.var 10)) (.int 1000)) (.cons (.ret (.bl false)) .nil) .nil) .nil))) .nil) .nil)))) (.cons (.ret (.cmp .eq (.callK 56 (.cons (.var 2) (.cons (.var 4) (.cons (.var 3) .nil))) (Str.ofString "bound") (.int 0)) (.ite (.var 5) (.int 0) .non))) .nil)))))))⟩
/-- law: 0 script 1 town 2 hands 3 times 4 row 5 reach 6 one 7 other 8 worths 9 due 10 total 11 side 12 worth -/
def fn_law07 : Fn := ⟨1, 13, (.cons (.newRef 1) (.cons (.par 2 3 (.bin .add (.int 2) (.call 12 (.cons (.var 0) (.cons (.var 1) (.cons (.int 3) .nil))))) (.bin .add (.int 1) (.call 12 (.cons (.var 0) (.cons (.var 1) (.cons (.int 3) .nil)))))) (.cons (.ite (.andL (.cons (.cmp .eq (.var 2) (.int 4)) (.cons (.cmp .eq (.var 3) (.int 3)) .nil))) (.cons (.assign 3 (.int 2)) .nil) .nil) (.cons (.par 4 5 (.call 36 (.cons (.var 0) (.cons (.var 1) (.cons (.var 2) (.cons (.bin .sub (.var 3) (.int 1)) .nil))))) (.call 12 (.cons (.var 0) (.cons (.var 1) (.cons (.int 100) .nil))))) (.cons (.unpack [6, 7] (.slice (.call 35 (.cons (.var 0) (.cons (.var 1) (.cons (.var 2) .nil)))) .none (.some (.int 2)))) (.cons (.assign 8 (.callK 54 (.cons (.var 2) (.cons (.var 4) (.cons (.var 6) (.cons (.var 7) (.cons (.var 3) .nil))))) (Str.ofString "bound") (.var 5))) (.cons (.ite (.orL (.cons (.cmp .ne (.slice (.var 8) .none (.some (.var 3))) (.bin .mul (.tup (.cons (.int 0) .nil)) (.var 3))) (.cons (.cmp .ne (.b1 .len (.var 8)) (.b1 .len (.var 4))) .nil))) (.cons (.ret (.bl false)) .nil) .nil) (.cons (.assign 9 (.lst .nil)) (.cons (.for_ (.one 10) (.seq (.slice (.call 43 (.cons (.call 13 (.cons (.var 4) (.cons (.var 6) (.cons (.var 7) .nil)))) (.cons (.var 3) .nil))) .none (.some (.bin .sub (.b1 .len (.var 4)) (.var 3))))) (.cons (.assign 11 (.ite (.cmp .eq (.var 10) (.int 0)) (.int 0) (.ite (.cmp .gt (.var 10) (.int 0)) (.var 5) (.bin .sub (.int 0) (.var 5))))) (.cons (.append 9 (.ite (.cmp .eq (.var 3) (.int 2)) (.var 11) (.bin .sub (.int 0) (.var 11)))) .nil))) (.cons (.ite (.cmp .ne (.call 26 (.cons (.var 8) (.cons (.var 3) .nil))) (.var 9)) (.cons (.ret (.bl false)) .nil) .nil) (.cons (.ite (.cmp .ne (.callK 54 (.cons (.var 2) (.cons (.var 4) (.cons (.var 7) (.cons (.var 6) (.cons (.var 3) .nil))))) (Str.ofString "bound") (.var 5)) (.b1 .tuple (.comp [12] (.one 12) (.seq (.var 8)) .none (.bin .sub (.int 0) (.var 12))))) (.cons (.ret (.bl false)) .nil) .nil) (.cons (.ret (.cmp .eq (.callD 54 (.cons (.var 2) (.cons (.var 4) (.cons (.var 6) (.cons (.var 7) (.cons (.var 3) .nil))))) (.int 1)) (.callK 54 (.cons (.var 2) (.cons (.var 4) (.cons (.var 6) (.cons (.var 7) (.cons (.var 3) .nil))))) (Str.ofString "bound") (.int 1)))) .nil))))))))))))⟩
/-- need_both: 0 hands 1 row 2 other -/
def fn_need_both : Fn := ⟨3, 3, (.cons (.expr (.call 3 (.cons (.var 0) (.cons (.var 1) .nil)))) (.cons (.ite (.not (.call 1 (.cons (.var 0) (.cons (.var 2) .nil)))) (.cons (.raise 2) .nil) .nil) .nil))⟩
/-- need_short: 0 many -/
def fn_need_short : Fn := ⟨1, 1, (.cons (.ite (.cmp .gt (.var 0) (.glob (Str.ofString "LONG") (.int 64))) (.cons (.raise 8) .nil) .nil) .nil)⟩
/-- put_into: 0 hands 1 row 2 other 3 turn 4 one -/
def fn_put_into : Fn := ⟨3, 5, (.cons (.expr (.call 59 (.cons (.var 0) (.cons (.var 1) (.cons (.var 2) .nil))))) (.cons (.expr (.call 58 (.cons (.bin .mul (.b1 .len (.var 1)) (.b1 .len (.var 2))) .nil))) (.cons (.ret (.b1 .tuple (.comp2 [3, 4] [4] (.one 3) (.seq (.var 2)) (.one 4) (.seq (.var 1)) (.bin .mod (.bin .add (.var 4) (.var 3)) (.var 0))))) .nil)))⟩
/-- _law_pick: 0 script 1 town 2 some -/
def fn_law_pick : Fn := ⟨3, 3, (.cons (.ret (.idx (.var 2) (.call 12 (.cons (.var 0) (.cons (.var 1) (.cons (.b1 .len (.var 2)) .nil)))))) .nil)⟩
/-- law: 0 script 1 town 2 hands 3 rows 4 again 5 even 6 some 7 row 8 other 9 made 10 due 11 got 12 one -/
def fn_law08 : Fn := ⟨1, 13, (.cons (.newRef 1) (.cons (.assign 2 (.bin .add (.int 2) (.call 12 (.cons (.var 0) (.cons (.var 1) (.cons (.int 3) .nil)))))) (.cons (.assign 3 (.lst .nil)) (.cons (.for_ (.one 4) (.rng1 (.int 2)) (.cons (.assign 5 (.b1 .tuple (.call 35 (.cons (.var 0) (.cons (.var 1) (.cons (.var 2) .nil)))))) (.cons (.ite (.andL (.cons (.cmp .eq (.var 2) (.int 2)) (.cons (.cmp .eq (.call 12 (.cons (.var 0) (.cons (.var 1) (.cons (.int 2) .nil)))) (.int 0)) .nil))) (.cons (.assign 5 (.call 34 (.cons (.int 2) (.cons (.var 5) (.cons (.b1 .tuple (.call 35 (.cons (.var 0) (.cons (.var 1) (.cons (.int 2) .nil))))) .nil))))) .nil) .nil) (.cons (.assign 6 (.lst (.cons (.var 5) (.cons (.bin .add (.var 5) (.rev (.var 5))) (.cons (.bin .add (.var 5) (.var 5)) (.cons (.call 19 (.cons (.var 0) (.cons (.var 1) (.cons (.var 2) (.cons (.int 7) .nil))))) .nil)))))) (.cons (.append 3 (.call 61 (.cons (.var 0) (.cons (.var 1) (.cons (.var 6) .nil))))) .nil))))) (.cons (.unpack [7, 8] (.var 3)) (.cons (.assign 9 (.call 60 (.cons (.var 2) (.cons (.var 7) (.cons (.var 8) .nil))))) (.cons (.ite (.orL (.cons (.cmp .ne (.var 9) (.call 34 (.cons (.var 2) (.cons (.var 7) (.cons (.var 8) .nil))))) (.cons (.cmp .ne (.call 60 (.cons (.var 2) (.cons (.var 7) (.cons (.tup (.cons (.int 0) .nil)) .nil)))) (.var 7)) (.cons (.cmp .ne (.call 60 (.cons (.var 2) (.cons (.tup (.cons (.int 0) .nil)) (.cons (.var 7) .nil)))) (.var 7)) .nil)))) (.cons (.ret (.bl false)) .nil) .nil) (.cons (.assign 10 (.bin .add (.bin .add (.call 39 (.cons (.var 2) (.cons (.var 7) .nil))) (.call 39 (.cons (.var 2) (.cons (.var 8) .nil)))) (.int 1))) (.cons (.ite (.orL (.cons (.andL (.cons (.cmp .ge (.var 10) (.int 0)) (.cons (.isC true .tru (.call 41 (.cons (.var 2) (.cons (.var 9) (.cons (.var 10) .nil))))) .nil))) (.cons (.cmp .lt (.call 39 (.cons (.var 2) (.cons (.var 9) .nil))) (.var 10)) .nil))) (.cons (.ret (.bl false)) .nil) .nil) (.cons (.ite (.cmp .ge (.var 10) (.int 0)) (.cons (.assign 11 (.call 18 (.cons (.var 2) (.cons (.var 9) (.cons (.call 27 (.cons (.var 0) (.cons (.var 1) (.cons (.b1 .len (.var 9)) (.cons (.var 10) .nil))))) .nil))))) (.cons (.ret (.cmp .eq (.comp [12] (.one 12) (.seq (.var 11)) (.some (.cmp .ne (.var 12) (.idx (.var 11) (.int 0)))) (.var 12)) (.lst .nil))) .nil)) .nil) (.cons (.ret (.bl true)) .nil)))))))))))⟩
/-- joined: 0 hands 1 row 2 other -/
def fn_joined : Fn := ⟨3, 3, (.cons (.expr (.call 59 (.cons (.var 0) (.cons (.var 1) (.cons (.var 2) .nil))))) (.cons (.expr (.call 58 (.cons (.bin .add (.b1 .len (.var 1)) (.b1 .len (.var 2))) .nil))) (.cons (.ret (.bin .add (.var 1) (.var 2))) .nil)))⟩
/-- law: 0 script 1 town 2 hands 3 times 4 row 5 other 6 made 7 one 8 other_hand 9 parts 10 some -/
def fn_law09 : Fn := ⟨1, 11, (.cons (.newRef 1) (.cons (.par 2 3 (.bin .add (.int 2) (.call 12 (.cons (.var 0) (.cons (.var 1) (.cons (.int 3) .nil))))) (.bin .add (.int 1) (.call 12 (.cons (.var 0) (.cons (.var 1) (.cons (.int 2) .nil)))))) (.cons (.par 4 5 (.call 36 (.cons (.var 0) (.cons (.var 1) (.cons (.var 2) (.cons (.bin .sub (.var 3) (.int 1)) .nil))))) (.call 36 (.cons (.var 0) (.cons (.var 1) (.cons (.var 2) (.cons (.bin .sub (.var 3) (.int 1)) .nil)))))) (.cons (.ite (.cmp .gt (.bin .add (.b1 .len (.var 4)) (.b1 .len (.var 5))) (.int 64)) (.cons (.ret (.bl true)) .nil) .nil) (.cons (.assign 6 (.call 62 (.cons (.var 2) (.cons (.var 4) (.cons (.var 5) .nil))))) (.cons (.ite (.orL (.cons (.cmp .ne (.var 6) (.bin .add (.var 4) (.var 5))) (.cons (.cmp .lt (.call 39 (.cons (.var 2) (.cons (.var 6) .nil))) (.mm false (.call 39 (.cons (.var 2) (.cons (.var 4) .nil))) (.call 39 (.cons (.var 2) (.cons (.var 5) .nil))))) .nil))) (.cons (.ret (.bl false)) .nil) .nil) (.cons (.for_ (.many [7, 8]) (.seq (.call 42 (.cons (.var 2) .nil))) (.cons (.assign 9 (.comp [10] (.one 10) (.seq (.tup (.cons (.var 4) (.cons (.var 5) .nil)))) .none (.callK 55 (.cons (.var 2) (.cons (.var 10) (.cons (.var 7) (.cons (.var 8) (.cons (.var 3) .nil))))) (Str.ofString "bound") (.int 3)))) (.cons (.ite (.cmp .ne (.callK 55 (.cons (.var 2) (.cons (.var 6) (.cons (.var 7) (.cons (.var 8) (.cons (.var 3) .nil))))) (Str.ofString "bound") (.int 3)) (.b1 .sum (.var 9))) (.cons (.ret (.bl false)) .nil) .nil) .nil))) (.cons (.ite (.cmp .gt (.callD 56 (.cons (.var 2) (.cons (.var 6) (.cons (.var 3) .nil))) (.int 1)) (.bin .add (.callD 56 (.cons (.var 2) (.cons (.var 4) (.cons (.var 3) .nil))) (.int 1)) (.callD 56 (.cons (.var 2) (.cons (.var 5) (.cons (.var 3) .nil))) (.int 1)))) (.cons (.ret (.bl false)) .nil) .nil) (.cons (.ite (.cmp .ne (.callD 56 (.cons (.var 2) (.cons (.call 62 (.cons (.var 2) (.cons (.var 5) (.cons (.var 4) .nil)))) (.cons (.var 3) .nil))) (.int 1)) (.callD 56 (.cons (.var 2) (.cons (.var 6) (.cons (.var 3) .nil))) (.int 1))) (.cons (.ret (.bl false)) .nil) .nil) (.cons (.assign 10 (.call 19 (.cons (.var 0) (.cons (.var 1) (.cons (.var 2) (.cons (.int 20) .nil)))))) (.cons (.ret (.cmp .ge (.call 39 (.cons (.var 2) (.cons (.call 62 (.cons (.var 2) (.cons (.var 10) (.cons (.var 4) .nil)))) .nil))) (.mm false (.call 39 (.cons (.var 2) (.cons (.var 10) .nil))) (.call 39 (.cons (.var 2) (.cons (.var 4) .nil)))))) .nil)))))))))))⟩
/-- turned: 0 hands 1 row -/
def fn_turned : Fn := ⟨2, 2, (.cons (.expr (.call 3 (.cons (.var 0) (.cons (.var 1) .nil)))) (.cons (.ret (.rev (.var 1))) .nil))⟩
/-- named: 0 hands 1 row 2 names 3 one -/
def fn_named : Fn := ⟨3, 4, (.cons (.expr (.call 3 (.cons (.var 0) (.cons (.var 1) .nil)))) (.cons (.ite (.orL (.cons (.not (.isi .tuple (.var 2))) (.cons (.not (.b1 .all (.comp [3] (.one 3) (.seq (.var 2)) .none (.call 0 (.cons (.var 3) (.cons (.int 0) (.cons (.bin .sub (.var 0) (.int 1)) .nil))))))) .nil))) (.cons (.raise 3) .nil) .nil) (.cons (.ite (.cmp .ne (.b1 .sorted (.var 2)) (.lrange (.var 0))) (.cons (.raise 3) .nil) .nil) (.cons (.ret (.b1 .tuple (.comp [3] (.one 3) (.seq (.var 1)) .none (.idx (.var 2) (.var 3))))) .nil))))⟩
/-- shared_rows: 0 hands 1 left 2 made 3 hand 4 rest 5 row -/
def fn_shared_rows : Fn := ⟨2, 6, (.cons (.ite (.cmp .eq (.b1 .sum (.var 1)) (.int 0)) (.cons (.ret (.lst (.cons (.tup .nil) .nil))) .nil) .nil) (.cons (.assign 2 (.lst .nil)) (.cons (.for_ (.one 3) (.rng1 (.var 0)) (.cons (.ite (.cmp .gt (.idx (.var 1) (.var 3)) (.int 0)) (.cons (.assign 4 (.bin .add (.bin .add (.slice (.var 1) .none (.some (.var 3))) (.lst (.cons (.bin .sub (.idx (.var 1) (.var 3)) (.int 1)) .nil))) (.slice (.var 1) (.some (.bin .add (.var 3) (.int 1))) .none))) (.cons (.extend 2 (.comp [5] (.one 5) (.seq (.call 64 (.cons (.var 0) (.cons (.var 4) .nil)))) .none (.bin .add (.tup (.cons (.var 3) .nil)) (.var 5)))) .nil)) .nil) .nil)) (.cons (.ret (.var 2)) .nil))))⟩
/-- _law_shared: 0 hands 1 left 2 made 3 hand 4 rows 5 row -/
def fn_law_shared : Fn := ⟨2, 6, (.cons (.ite (.cmp .eq (.b1 .sum (.var 1)) (.int 0)) (.cons (.ret (.lst (.cons (.tup .nil) .nil))) .nil) .nil) (.cons (.assign 2 (.lst .nil)) (.cons (.for_ (.one 3) (.rng1 (.var 0)) (.cons (.ite (.cmp .gt (.idx (.var 1) (.var 3)) (.int 0)) (.cons (.assign 4 (.call 65 (.cons (.var 0) (.cons (.bin .add (.bin .add (.slice (.var 1) .none (.some (.var 3))) (.lst (.cons (.bin .sub (.idx (.var 1) (.var 3)) (.int 1)) .nil))) (.slice (.var 1) (.some (.bin .add (.var 3) (.int 1))) .none)) .nil)))) (.cons (.extend 2 (.comp [5] (.one 5) (.seq (.var 4)) .none (.bin .add (.tup (.cons (.var 3) .nil)) (.var 5)))) .nil)) .nil) .nil)) (.cons (.ret (.var 2)) .nil))))⟩
/-- law: 0 script 1 town 2 hands 3 degree 4 row 5 places 6 other -/
def fn_law11 : Fn := ⟨1, 7, (.cons (.newRef 1) (.cons (.assign 2 (.bin .add (.int 2) (.call 12 (.cons (.var 0) (.cons (.var 1) (.cons (.int 3) .nil)))))) (.cons (.assign 3 (.call 12 (.cons (.var 0) (.cons (.var 1) (.cons (.ite (.cmp .eq (.var 2) (.int 2)) (.int 3) (.int 2)) .nil))))) (.cons (.assign 4 (.call 94 (.cons (.var 2) (.cons (.var 3) .nil)))) (.cons (.ite (.orL (.cons (.isC true .tru (.call 41 (.cons (.var 2) (.cons (.var 4) (.cons (.var 3) .nil))))) (.cons (.cmp .ne (.idx (.var 4) (.int 0)) (.int 0)) (.cons (.cmp .lt (.call 39 (.cons (.var 2) (.cons (.var 4) .nil))) (.var 3)) .nil)))) (.cons (.ret (.bl false)) .nil) .nil) (.cons (.ite (.cmp .ne (.b1 .len (.var 4)) (.didx (.cons (.int 0) (.cons (.var 2) (.cons (.int 1) (.cons (.bin .mul (.int 2) (.var 2)) (.cons (.int 2) (.cons (.int 8) .nil)))))) (.var 3))) (.cons (.ret (.bl false)) .nil) .nil) (.cons (.for_ (.one 5) (.rng2 (.int 1) (.bin .add (.b1 .len (.var 4)) (.int 1))) (.cons (.ite (.cmp .ne (.bin .sub (.var 5) (.bin .mul (.bin .fdiv (.var 5) (.var 2)) (.var 2))) (.int 0)) (.cons .cont .nil) .nil) (.cons (.for_ (.one 6) (.seq (.call 65 (.cons (.var 2) (.cons (.bin .mul (.lst (.cons (.bin .fdiv (.var 5) (.var 2)) .nil)) (.var 2)) .nil)))) (.cons (.ite (.cmp .eq (.var 6) (.var 4)) (.cons (.ret (.bl true)) .nil) .nil) (.cons (.ite (.call 40 (.cons (.var 2) (.cons (.var 6) (.cons (.var 3) .nil)))) (.cons (.ret (.bl false)) .nil) .nil) .nil))) .nil))) (.cons (.ret (.bl false)) .nil))))))))⟩
/-- are_places: 0 row 1 one 2 other -/
def fn_are_places : Fn := ⟨3, 3, (.cons (.ret (.andL (.cons (.call 0 (.cons (.var 1) (.cons (.int 0) (.cons (.bin .sub (.b1 .len (.var 0)) (.int 1)) .nil)))) (.cons (.call 0 (.cons (.var 2) (.cons (.int 0) (.cons (.bin .sub (.b1 .len (.var 0)) (.int 1)) .nil)))) (.cons (.cmp .ne (.var 1) (.var 2)) .nil))))) .nil)⟩
/-- exchange_of: 0 row 1 one 2 other 3 made -/
def fn_exchange_of : Fn := ⟨3, 4, (.cons (.assign 3 (.b1 .list (.var 0))) (.cons (.swap2 3 (.var 1) (.var 2) (.idx (.var 0) (.var 2)) (.idx (.var 0) (.var 1))) (.cons (.ret (.b1 .tuple (.var 3))) .nil)))⟩
/-- exchanged: 0 hands 1 row 2 one 3 other -/
def fn_exchanged : Fn := ⟨4, 4, (.cons (.expr (.call 3 (.cons (.var 0) (.cons (.var 1) .nil)))) (.cons (.ite (.not (.call 68 (.cons (.var 1) (.cons (.var 2) (.cons (.var 3) .nil))))) (.cons (.raise 10) .nil) .nil) (.cons (.ret (.call 67 (.cons (.var 1) (.cons (.var 2) (.cons (.var 3) .nil))))) .nil)))⟩
/-- mended_of: 0 hands 1 row 2 order 3 rated 4 now 5 one 6 other 7 most -/
def fn_mended_of : Fn := ⟨3, 8, (.cons (.par 3 4 (.lst .nil) (.call 50 (.cons (.var 0) (.cons (.var 1) (.cons (.var 2) .nil))))) (.cons (.for_ (.one 5) (.rng1 (.b1 .len (.var 1))) (.cons (.for_ (.one 6) (.rng2 (.bin .add (.var 5) (.int 1)) (.b1 .len (.var 1))) (.cons (.ite (.cmp .ne (.idx (.var 1) (.var 5)) (.idx (.var 1) (.var 6))) (.cons (.assign 7 (.call 50 (.cons (.var 0) (.cons (.call 67 (.cons (.var 1) (.cons (.var 5) (.cons (.var 6) .nil)))) (.cons (.var 2) .nil))))) (.cons (.ite (.andL (.cons (.isC true .non (.var 7)) (.cons (.orL (.cons (.isC false .non (.var 4)) (.cons (.cmp .lt (.var 7) (.var 4)) .nil))) .nil))) (.cons (.append 3 (.tup (.cons (.var 7) (.cons (.var 5) (.cons (.var 6) .nil))))) .nil) .nil) .nil)) .nil) .nil)) .nil)) (.cons (.ite (.cmp .eq (.var 3) (.lst .nil)) (.cons (.ret .non) .nil) .nil) (.cons (.unpack [7, 5, 6] (.b1 .min (.var 3))) (.cons (.ret (.tup (.cons (.var 5) (.cons (.var 6) (.cons (.var 7) .nil))))) .nil)))))⟩
/-- need_short: 0 hands 1 row 2 order -/
def fn_need_short__1 : Fn := ⟨3, 3, (.cons (.expr (.call 3 (.cons (.var 0) (.cons (.var 1) .nil)))) (.cons (.expr (.call 51 (.cons (.var 2) (.cons (.int 1) .nil)))) (.cons (.ite (.cmp .gt (.b1 .len (.var 1)) (.glob (Str.ofString "MENDED") (.int 16))) (.cons (.raise 8) .nil) .nil) .nil)))⟩
/-- mended: 0 hands 1 row 2 order -/
def fn_mended : Fn := ⟨3, 3, (.cons (.expr (.call 70 (.cons (.var 0) (.cons (.var 1) (.cons (.var 2) .nil))))) (.cons (.ret (.call 69 (.cons (.var 0) (.cons (.var 1) (.cons (.var 2) .nil))))) .nil))⟩
/-- mended_on: 0 hands 1 row 2 order 3 made 4 best -/
def fn_mended_on : Fn := ⟨3, 5, (.cons (.expr (.call 70 (.cons (.var 0) (.cons (.var 1) (.cons (.var 2) .nil))))) (.cons (.par 3 4 (.lst .nil) (.call 69 (.cons (.var 0) (.cons (.var 1) (.cons (.var 2) .nil))))) (.cons (.while_ 1000 (.isC true .non (.var 4)) (.cons (.append 3 (.var 4)) (.cons (.assign 1 (.call 67 (.cons (.var 1) (.cons (.idx (.var 4) (.int 0)) (.cons (.idx (.var 4) (.int 1)) .nil))))) (.cons (.assign 4 (.call 69 (.cons (.var 0) (.cons (.var 1) (.cons (.var 2) .nil))))) .nil)))) (.cons (.ret (.var 3)) .nil))))⟩
/-- _law_best: 0 hands 1 row 2 times 3 now 4 rated 5 one 6 other 7 later 8 most -/
def fn_law_best : Fn := ⟨3, 9, (.cons (.par 3 4 (.call 57 (.cons (.var 0) (.cons (.var 1) (.cons (.var 2) .nil)))) (.lst .nil)) (.cons (.for_ (.one 5) (.rng1 (.b1 .len (.var 1))) (.cons (.for_ (.one 6) (.rng2 (.bin .add (.var 5) (.int 1)) (.b1 .len (.var 1))) (.cons (.assign 7 (.b1 .list (.var 1))) (.cons (.swap2 7 (.var 5) (.var 6) (.idx (.var 1) (.var 6)) (.idx (.var 1) (.var 5))) (.cons (.assign 8 (.ite (.cmp .ne (.idx (.var 1) (.var 5)) (.idx (.var 1) (.var 6))) (.call 57 (.cons (.var 0) (.cons (.b1 .tuple (.var 7)) (.cons (.var 2) .nil)))) .non)) (.cons (.ite (.andL (.cons (.isC true .non (.var 8)) (.cons (.orL (.cons (.isC false .non (.var 3)) (.cons (.cmp .lt (.var 8) (.var 3)) .nil))) .nil))) (.cons (.append 4 (.tup (.cons (.var 8) (.cons (.var 5) (.cons (.var 6) .nil))))) .nil) .nil) .nil))))) .nil)) (.cons (.ret (.ite (.cmp .ne (.var 4) (.lst .nil)) (.b1 .min (.var 4)) .non)) .nil)))⟩
/-- law: 0 script 1 town 2 hands 3 times 4 row 5 best 6 last 7 one 8 other 9 most 10 later -/
def fn_law13 : Fn := ⟨1, 11, (.cons (.newRef 1) (.cons (.par 2 3 (.bin .add (.int 2) (.call 12 (.cons (.var 0) (.cons (.var 1) (.cons (.int 2) .nil))))) (.bin .add (.int 1) (.call 12 (.cons (.var 0) (.cons (.var 1) (.cons (.int 2) .nil)))))) (.cons (.assign 4 (.slice (.call 45 (.cons (.var 0) (.cons (.var 1) (.cons (.var 2) (.cons (.bin .sub (.var 3) (.int 1)) .nil))))) .none (.some (.int 12)))) (.cons (.assign 5 (.call 74 (.cons (.var 2) (.cons (.var 4) (.cons (.var 3) .nil))))) (.cons (.ite (.cmp .ne (.call 71 (.cons (.var 2) (.cons (.var 4) (.cons (.var 3) .nil)))) (.ite (.isC false .non (.var 5)) .non (.tup (.cons (.idx (.var 5) (.int 1)) (.cons (.idx (.var 5) (.int 2)) (.cons (.idx (.var 5) (.int 0)) .nil)))))) (.cons (.ret (.bl false)) .nil) .nil) (.cons (.assign 6 (.callD 56 (.cons (.var 2) (.cons (.var 4) (.cons (.var 3) .nil))) (.int 1))) (.cons (.for_ (.many [7, 8, 9]) (.seq (.call 72 (.cons (.var 2) (.cons (.var 4) (.cons (.var 3) .nil))))) (.cons (.ite (.orL (.cons (.cmp .ne (.call 71 (.cons (.var 2) (.cons (.var 4) (.cons (.var 3) .nil)))) (.tup (.cons (.var 7) (.cons (.var 8) (.cons (.var 9) .nil))))) (.cons (.andL (.cons (.isC true .non (.var 6)) (.cons (.cmp .ge (.var 9) (.var 6)) .nil))) .nil))) (.cons (.ret (.bl false)) .nil) .nil) (.cons (.assign 10 (.b1 .list (.var 4))) (.cons (.swap2 10 (.var 7) (.var 8) (.idx (.var 4) (.var 8)) (.idx (.var 4) (.var 7))) (.cons (.par 4 6 (.call 73 (.cons (.var 2) (.cons (.var 4) (.cons (.var 7) (.cons (.var 8) .nil))))) (.var 9)) (.cons (.ite (.orL (.cons (.cmp .ne (.var 4) (.b1 .tuple (.var 10))) (.cons (.cmp .ne (.callD 56 (.cons (.var 2) (.cons (.var 4) (.cons (.var 3) .nil))) (.int 1)) (.var 9)) .nil))) (.cons (.ret (.bl false)) .nil) .nil) .nil)))))) (.cons (.ret (.isC false .non (.call 71 (.cons (.var 2) (.cons (.var 4) (.cons (.var 3) .nil)))))) .nil))))))))⟩
/-- all_rows: 0 hands 1 places 2 made 3 place 4 row 5 hand -/
def fn_all_rows : Fn := ⟨2, 6, (.cons (.assign 2 (.lst (.cons (.tup .nil) .nil))) (.cons (.for_ (.one 3) (.rng1 (.var 1)) (.cons (.assign 2 (.comp2 [4, 5] [5] (.one 4) (.seq (.var 2)) (.one 5) (.rng1 (.var 0)) (.bin .add (.var 4) (.tup (.cons (.var 5) .nil))))) .nil)) (.cons (.ret (.var 2)) .nil)))⟩
/-- _law_rows_all: 0 hands 1 places 2 made 3 place 4 later 5 row 6 hand -/
def fn_law_rows_all : Fn := ⟨2, 7, (.cons (.assign 2 (.lst (.cons (.tup .nil) .nil))) (.cons (.for_ (.one 3) (.rng1 (.var 1)) (.cons (.assign 4 (.lst .nil)) (.cons (.for_ (.one 5) (.seq (.var 2)) (.cons (.extend 4 (.comp [6] (.one 6) (.rng1 (.var 0)) .none (.bin .add (.var 5) (.tup (.cons (.var 6) .nil))))) .nil)) (.cons (.assign 2 (.var 4)) .nil)))) (.cons (.ret (.var 2)) .nil)))⟩
/-- law: 0 script 1 town 2 hands 3 row 4 degree 5 rated 6 other 7 a 8 b 9 got 10 many -/
def fn_law14 : Fn := ⟨1, 11, (.cons (.newRef 1) (.cons (.assign 2 (.bin .add (.int 2) (.call 12 (.cons (.var 0) (.cons (.var 1) (.cons (.int 3) .nil)))))) (.cons (.assign 3 (.slice (.call 45 (.cons (.var 0) (.cons (.var 1) (.cons (.var 2) (.cons (.int 1) .nil))))) .none (.some (.didx (.cons (.int 2) (.cons (.int 8) (.cons (.int 3) (.cons (.int 6) (.cons (.int 4) (.cons (.int 4) .nil)))))) (.var 2))))) (.cons (.assign 4 (.call 12 (.cons (.var 0) (.cons (.var 1) (.cons (.int 3) .nil))))) (.cons (.assign 5 (.lst .nil)) (.cons (.for_ (.one 6) (.seq (.call 77 (.cons (.var 2) (.cons (.b1 .len (.var 3)) .nil)))) (.cons (.ite (.call 40 (.cons (.var 2) (.cons (.var 6) (.cons (.var 4) .nil)))) (.cons (.append 5 (.tup (.cons (.b1 .len (.comp [7, 8] (.many [7, 8]) (.zip (.var 3) (.var 6)) (.some (.cmp .ne (.var 7) (.var 8))) (.int 1))) (.cons (.var 6) .nil)))) .nil) .nil) .nil)) (.cons (.assign 9 (.call 76 (.cons (.var 2) (.cons (.var 3) (.cons (.var 4) .nil))))) (.cons (.ite (.cmp .eq (.var 5) (.lst .nil)) (.cons (.ret (.isC false .non (.var 9))) .nil) .nil) (.cons (.unpack [10, 6] (.b1 .min (.var 5))) (.cons (.ite (.orL (.cons (.cmp .ne (.var 9) (.tup (.cons (.var 6) (.cons (.var 10) .nil)))) (.cons (.not (.call 38 (.cons (.idx (.var 9) (.int 1)) (.cons (.var 10) .nil)))) .nil))) (.cons (.ret (.bl false)) .nil) .nil) (.cons (.ret (.cmp .eq (.cmp .eq (.var 9) (.tup (.cons (.var 3) (.cons (.int 0) .nil)))) (.call 41 (.cons (.var 2) (.cons (.var 3) (.cons (.var 4) .nil)))))) .nil)))))))))))⟩
/-- added: 0 state 1 hand 2 more 3 own 4 total 5 one -/
def fn_added : Fn := ⟨3, 6, (.cons (.assign 3 (.b1 .tuple (.comp [4, 5] (.many [4, 5]) (.zip (.idx (.var 0) (.var 1)) (.var 2)) .none (.bin .add (.var 4) (.var 5))))) (.cons (.ret (.bin .add (.bin .add (.slice (.var 0) .none (.some (.var 1))) (.tup (.cons (.var 3) .nil))) (.slice (.var 0) (.some (.bin .add (.var 1) (.int 1))) .none))) .nil))⟩
/-- law: 0 script 1 town 2 hands 3 degree 4 places 5 rows 6 row 7 many 8 other 9 whole 10 parts 11 some 12 hand 13 own 14 far 15 moved 16 a 17 b -/
def fn_law15 : Fn := ⟨1, 18, (.cons (.newRef 1) (.cons (.par 2 3 (.bin .add (.int 2) (.call 12 (.cons (.var 0) (.cons (.var 1) (.cons (.int 3) .nil))))) (.call 12 (.cons (.var 0) (.cons (.var 1) (.cons (.int 4) .nil))))) (.cons (.assign 4 (.bin .add (.int 1) (.call 12 (.cons (.var 0) (.cons (.var 1) (.cons (.didx (.cons (.int 2) (.cons (.int 9) (.cons (.int 3) (.cons (.int 6) (.cons (.int 4) (.cons (.int 5) .nil)))))) (.var 2)) .nil)))))) (.cons (.assign 5 (.comp [6] (.one 6) (.seq (.call 77 (.cons (.var 2) (.cons (.var 4) .nil)))) (.some (.call 40 (.cons (.var 2) (.cons (.var 6) (.cons (.var 3) .nil))))) (.var 6))) (.cons (.ite (.not (.call 38 (.cons (.call 78 (.cons (.var 2) (.cons (.var 4) (.cons (.var 3) .nil)))) (.cons (.b1 .len (.var 5)) .nil)))) (.cons (.ret (.bl false)) .nil) .nil) (.cons (.ite (.orL (.cons (.cmp .ne (.comp [7] (.one 7) (.seq (.tup (.cons (.int 4) (.cons (.int 8) (.cons (.int 12) .nil))))) .none (.call 78 (.cons (.int 2) (.cons (.var 7) (.cons (.int 1) .nil))))) (.lst (.cons (.int 2) (.cons (.int 8) (.cons (.int 58) .nil))))) (.cons (.cmp .ne (.call 78 (.cons (.int 2) (.cons (.int 12) (.cons (.int 0) .nil)))) (.int 924)) (.cons (.cmp .ne (.call 78 (.cons (.int 3) (.cons (.int 6) (.cons (.int 0) .nil)))) (.int 90)) .nil)))) (.cons (.ret (.bl false)) .nil) .nil) (.cons (.par 6 8 (.call 19 (.cons (.var 0) (.cons (.var 1) (.cons (.var 2) (.cons (.int 9) .nil))))) (.call 19 (.cons (.var 0) (.cons (.var 1) (.cons (.var 2) (.cons (.int 9) .nil)))))) (.cons (.par 9 10 (.call 48 (.cons (.var 2) (.cons (.bin .add (.var 6) (.var 8)) (.cons (.int 2) .nil)))) (.comp [11] (.one 11) (.seq (.tup (.cons (.var 6) (.cons (.var 8) .nil)))) .none (.call 48 (.cons (.var 2) (.cons (.var 11) (.cons (.int 2) .nil)))))) (.cons (.for_ (.one 12) (.rng1 (.var 2)) (.cons (.par 13 14 (.idx (.idx (.var 10) (.int 1)) (.var 12)) (.b1 .len (.var 6))) (.cons (.assign 15 (.lst (.cons (.idx (.var 13) (.int 0)) (.cons (.bin .add (.idx (.var 13) (.int 1)) (.bin .mul (.var 14) (.idx (.var 13) (.int 0)))) (.cons (.bin .add (.bin .add (.idx (.var 13) (.int 2)) (.bin .mul (.bin .mul (.int 2) (.var 14)) (.idx (.var 13) (.int 1)))) (.bin .mul (.bin .mul (.var 14) (.var 14)) (.idx (.var 13) (.int 0)))) .nil))))) (.cons (.ite (.cmp .ne (.idx (.var 9) (.var 12)) (.comp [16, 17] (.many [16, 17]) (.zip (.idx (.idx (.var 10) (.int 0)) (.var 12)) (.var 15)) .none (.bin .add (.var 16) (.var 17)))) (.cons (.ret (.bl false)) .nil) .nil) .nil)))) (.cons (.ret (.cmp .eq (.var 9) (.call 37 (.cons (.var 2) (.cons (.bin .add (.var 6) (.var 8)) (.cons (.int 2) .nil)))))) .nil))))))))))⟩
/-- go_on: 0 worths 1 places 2 order 3 made 4 place 5 later 6 step -/
def fn_go_on : Fn := ⟨3, 7, (.cons (.assign 3 (.b1 .list (.var 0))) (.cons (.for_ (.one 4) (.rng2 (.b1 .len (.var 0)) (.var 1)) (.cons (.assign 5 (.call 20 (.cons (.slice (.var 3) (.some (.bin .sub (.b1 .len (.var 3)) (.var 2))) .none) (.cons (.int 0) .nil)))) (.cons (.assign 6 (.int 0)) (.cons (.while_ 1000 (.cmp .ne (.var 5) (.lst .nil)) (.cons (.aug 6 (.idx (.var 5) (.neg (.int 1)))) (.cons (.assign 5 (.call 20 (.cons (.var 5) (.cons (.int 1) .nil)))) .nil))) (.cons (.append 3 (.var 6)) .nil))))) (.cons (.ret (.b1 .tuple (.var 3))) .nil)))⟩
/-- need_count: 0 worths 1 order -/
def fn_need_count : Fn := ⟨2, 2, (.cons (.ite (.not (.call 0 (.cons (.var 1) (.cons (.int 1) (.cons (.mm false (.glob (Str.ofString "ORDERS") (.int 4)) (.b1 .len (.var 0))) .nil))))) (.cons (.raise 5) .nil) .nil) .nil)⟩
/-- need_reach: 0 worths 1 order 2 bound -/
def fn_need_reach : Fn := ⟨3, 3, (.cons (.expr (.call 79 (.cons (.var 0) (.cons (.var 1) .nil)))) (.cons (.ite (.not (.call 0 (.cons (.var 2) (.cons (.int 0) (.cons (.glob (Str.ofString "BOUND") (.int 99)) .nil))))) (.cons (.raise 6) .nil) .nil) .nil))⟩
/-- straight_on: 0 worths 1 places 2 order -/
def fn_straight_on : Fn := ⟨3, 3, (.cons (.ite (.orL (.cons (.not (.call 7 (.cons (.var 0) .nil))) (.cons (.cmp .eq (.var 0) (.tup .nil)) .nil))) (.cons (.raise 4) .nil) .nil) (.cons (.ite (.not (.call 0 (.cons (.var 1) (.cons (.b1 .len (.var 0)) (.cons (.glob (Str.ofString "LONG") (.int 64)) .nil))))) (.cons (.raise 10) .nil) .nil) (.cons (.expr (.call 79 (.cons (.var 0) (.cons (.var 2) .nil)))) (.cons (.ret (.call 80 (.cons (.var 0) (.cons (.var 1) (.cons (.var 2) .nil))))) .nil))))⟩
/-- tails_of: 0 numbers 1 order 2 made 3 turn 4 total 5 later 6 one -/
def fn_tails_of : Fn := ⟨2, 7, (.cons (.assign 2 (.b1 .list (.var 0))) (.cons (.for_ (.one 3) (.rng1 (.var 1)) (.cons (.par 4 5 (.int 0) (.lst .nil)) (.cons (.for_ (.one 6) (.seq (.rev (.var 2))) (.cons (.aug 4 (.var 6)) (.cons (.append 5 (.var 4)) .nil))) (.cons (.assign 2 (.rev (.var 5))) .nil)))) (.cons (.ret (.var 2)) .nil)))⟩
/-- need_told: 0 row 1 told 2 order 3 bound -/
def fn_need_told : Fn := ⟨4, 4, (.cons (.ite (.orL (.cons (.not (.call 7 (.cons (.var 1) .nil))) (.cons (.not (.chain .le .le (.int 1) (.b1 .len (.var 1)) (.b1 .len (.var 0)))) .nil))) (.cons (.raise 4) .nil) .nil) (.cons (.expr (.call 81 (.cons (.var 1) (.cons (.var 2) (.cons (.var 3) .nil))))) .nil))⟩
/-- foreseen_of: 0 row 1 told 2 one 3 other 4 order 5 bound 6 signs 7 worths 8 lead 9 sign 10 worth 11 far 12 tail -/
def fn_foreseen_of : Fn := ⟨6, 13, (.cons (.assign 6 (.call 4 (.cons (.var 0) (.cons (.var 2) (.cons (.var 3) .nil))))) (.cons (.assign 7 (.call 80 (.cons (.var 1) (.cons (.b1 .len (.var 0)) (.cons (.var 4) .nil))))) (.cons (.assign 8 (.b1 .sum (.comp [9, 10] (.many [9, 10]) (.zip (.var 6) (.var 7)) .none (.bin .mul (.var 9) (.var 10))))) (.cons (.assign 11 (.bin .mul (.var 5) (.b1 .sum (.comp [12] (.one 12) (.seq (.slice (.call 82 (.cons (.var 6) (.cons (.var 4) .nil))) (.some (.b1 .len (.var 1))) .none)) .none (.b1 .abs (.var 12)))))) (.cons (.ret (.tup (.cons (.bin .sub (.var 8) (.var 11)) (.cons (.bin .add (.var 8) (.var 11)) .nil)))) .nil)))))⟩
/-- foreseen: 0 hands 1 row 2 told 3 one 4 other 5 order 6 bound -/
def fn_foreseen : Fn := ⟨7, 7, (.cons (.expr (.call 5 (.cons (.var 0) (.cons (.var 1) (.cons (.var 3) (.cons (.var 4) .nil)))))) (.cons (.expr (.call 84 (.cons (.var 1) (.cons (.var 2) (.cons (.var 5) (.cons (.var 6) .nil)))))) (.cons (.ret (.call 83 (.cons (.var 1) (.cons (.var 2) (.cons (.var 3) (.cons (.var 4) (.cons (.var 5) (.cons (.var 6) .nil)))))))) .nil)))⟩
/-- _law_tails: 0 numbers 1 times 2 made 3 again 4 at -/
def fn_law_tails : Fn := ⟨2, 5, (.cons (.assign 2 (.b1 .list (.var 0))) (.cons (.for_ (.one 3) (.rng1 (.var 1)) (.cons (.assign 2 (.comp [4] (.one 4) (.rng1 (.b1 .len (.var 2))) .none (.b1 .sum (.slice (.var 2) (.some (.var 4)) .none)))) .nil)) (.cons (.ret (.var 2)) .nil)))⟩
/-- _law_met: 0 row 1 told 2 pair 3 times 4 reach 5 side 6 tails_there 7 made 8 place 9 step 10 turn -/
def fn_law_met : Fn := ⟨6, 11, (.cons (.par 6 7 (.call 86 (.cons (.call 13 (.cons (.var 0) (.cons (.idx (.var 2) (.int 0)) (.cons (.idx (.var 2) (.int 1)) .nil)))) (.cons (.var 3) .nil))) (.b1 .list (.var 1))) (.cons (.for_ (.one 8) (.rng2 (.b1 .len (.var 1)) (.b1 .len (.var 0))) (.cons (.assign 9 (.idx (.call 85 (.cons (.b1 .tuple (.var 7)) (.cons (.bin .add (.var 8) (.int 1)) (.cons (.var 3) .nil)))) (.neg (.int 1)))) (.cons (.assign 10 (.ite (.cmp .eq (.idx (.var 6) (.var 8)) (.int 0)) (.int 0) (.ite (.cmp .gt (.idx (.var 6) (.var 8)) (.int 0)) (.var 4) (.bin .sub (.int 0) (.var 4))))) (.cons (.append 7 (.bin .add (.var 9) (.bin .mul (.var 5) (.var 10)))) .nil)))) (.cons (.ret (.b1 .tuple (.var 7))) .nil)))⟩
/-- law: 0 script 1 town 2 hands 3 times 4 row 5 place 6 many 7 told 8 reach 9 one 10 other 11 straight 12 steps 13 step 14 base 15 far 16 tail 17 got 18 side 19 worths 20 again -/
def fn_law16 : Fn := ⟨1, 21, (.cons (.newRef 1) (.cons (.par 2 3 (.bin .add (.int 2) (.call 12 (.cons (.var 0) (.cons (.var 1) (.cons (.int 3) .nil))))) (.bin .add (.int 1) (.call 12 (.cons (.var 0) (.cons (.var 1) (.cons (.int 4) .nil)))))) (.cons (.assign 4 (.b1 .tuple (.comp [5] (.one 5) (.rng1 (.bin .add (.var 3) (.call 12 (.cons (.var 0) (.cons (.var 1) (.cons (.int 12) .nil)))))) .none (.call 12 (.cons (.var 0) (.cons (.var 1) (.cons (.var 2) .nil))))))) (.cons (.assign 6 (.bin .add (.var 3) (.call 12 (.cons (.var 0) (.cons (.var 1) (.cons (.bin .add (.bin .sub (.b1 .len (.var 4)) (.var 3)) (.int 1)) .nil)))))) (.cons (.assign 7 (.b1 .tuple (.comp [5] (.one 5) (.rng1 (.var 6)) .none (.bin .sub (.call 12 (.cons (.var 0) (.cons (.var 1) (.cons (.int 41) .nil)))) (.int 20))))) (.cons (.assign 8 (.call 12 (.cons (.var 0) (.cons (.var 1) (.cons (.int 6) .nil))))) (.cons (.unpack [9, 10] (.slice (.call 35 (.cons (.var 0) (.cons (.var 1) (.cons (.var 2) .nil)))) .none (.some (.int 2)))) (.cons (.assign 11 (.call 85 (.cons (.var 7) (.cons (.b1 .len (.var 4)) (.cons (.var 3) .nil))))) (.cons (.assign 12 (.call 26 (.cons (.var 11) (.cons (.var 3) .nil)))) (.cons (.ite (.orL (.cons (.cmp .ne (.slice (.var 11) .none (.some (.var 6))) (.var 7)) (.cons (.cmp .ne (.comp [13] (.one 13) (.seq (.slice (.var 12) (.some (.mm true (.int 0) (.bin .sub (.var 6) (.var 3)))) .none)) (.some (.cmp .ne (.var 13) (.int 0))) (.var 13)) (.lst .nil)) .nil))) (.cons (.ret (.bl false)) .nil) .nil) (.cons (.assign 14 (.call 15 (.cons (.var 4) (.cons (.var 9) (.cons (.var 10) (.cons (.var 11) .nil)))))) (.cons (.assign 15 (.bin .mul (.var 8) (.b1 .sum (.comp [16] (.one 16) (.seq (.slice (.call 86 (.cons (.call 13 (.cons (.var 4) (.cons (.var 9) (.cons (.var 10) .nil)))) (.cons (.var 3) .nil))) (.some (.var 6)) .none)) .none (.b1 .abs (.var 16)))))) (.cons (.assign 17 (.callK 87 (.cons (.var 2) (.cons (.var 4) (.cons (.var 7) (.cons (.var 9) (.cons (.var 10) (.cons (.var 3) .nil)))))) (Str.ofString "bound") (.var 8))) (.cons (.ite (.cmp .ne (.var 17) (.tup (.cons (.bin .sub (.var 14) (.var 15)) (.cons (.bin .add (.var 14) (.var 15)) .nil)))) (.cons (.ret (.bl false)) .nil) .nil) (.cons (.ite (.cmp .ne (.callK 87 (.cons (.var 2) (.cons (.var 4) (.cons (.var 7) (.cons (.var 10) (.cons (.var 9) (.cons (.var 3) .nil)))))) (Str.ofString "bound") (.var 8)) (.tup (.cons (.bin .sub (.bin .sub (.int 0) (.var 14)) (.var 15)) (.cons (.bin .sub (.var 15) (.var 14)) .nil)))) (.cons (.ret (.bl false)) .nil) .nil) (.cons (.for_ (.one 18) (.seq (.tup (.cons (.neg (.int 1)) (.cons (.int 1) .nil)))) (.cons (.assign 19 (.call 88 (.cons (.var 4) (.cons (.var 7) (.cons (.tup (.cons (.var 9) (.cons (.var 10) .nil))) (.cons (.var 3) (.cons (.var 8) (.cons (.var 18) .nil)))))))) (.cons (.ite (.cmp .ne (.call 14 (.cons (.var 2) (.cons (.var 4) (.cons (.var 9) (.cons (.var 10) (.cons (.var 19) .nil)))))) (.bin .add (.var 14) (.bin .mul (.var 18) (.var 15)))) (.cons (.ret (.bl false)) .nil) .nil) .nil))) (.cons (.for_ (.one 20) (.rng1 (.int 4)) (.cons (.assign 19 (.call 53 (.cons (.var 0) (.cons (.var 1) (.cons (.var 7) (.cons (.b1 .len (.var 4)) (.cons (.var 3) (.cons (.var 8) .nil)))))))) (.cons (.ite (.not (.chain .le .le (.idx (.var 17) (.int 0)) (.call 14 (.cons (.var 2) (.cons (.var 4) (.cons (.var 9) (.cons (.var 10) (.cons (.var 19) .nil)))))) (.idx (.var 17) (.int 1)))) (.cons (.ret (.bl false)) .nil) .nil) .nil))) (.cons (.ret (.cmp .eq (.callD 87 (.cons (.var 2) (.cons (.var 4) (.cons (.var 7) (.cons (.var 9) (.cons (.var 10) (.cons (.var 3) .nil)))))) (.int 1)) (.callK 87 (.cons (.var 2) (.cons (.var 4) (.cons (.var 7) (.cons (.var 9) (.cons (.var 10) (.cons (.var 3) .nil)))))) (Str.ofString "bound") (.int 1)))) .nil))))))))))))))))))⟩
/-- most_of: 0 hands 1 row 2 told 3 order 4 bound 5 made 6 one 7 other 8 least 9 greatest -/
def fn_most_of : Fn := ⟨5, 10, (.cons (.assign 5 (.lst .nil)) (.cons (.for_ (.many [6, 7]) (.seq (.call 30 (.cons (.var 0) .nil))) (.cons (.unpack [8, 9] (.call 83 (.cons (.var 1) (.cons (.var 2) (.cons (.var 6) (.cons (.var 7) (.cons (.var 3) (.cons (.var 4) .nil)))))))) (.cons (.extend 5 (.lst (.cons (.var 9) (.cons (.bin .sub (.int 0) (.var 8)) .nil)))) .nil))) (.cons (.ret (.b1 .max (.var 5))) .nil)))⟩
/-- calming: 0 hands 1 row 2 told 3 order 4 bound 5 rated 6 now 7 one 8 other 9 most -/
def fn_calming : Fn := ⟨5, 10, (.cons (.expr (.call 3 (.cons (.var 0) (.cons (.var 1) .nil)))) (.cons (.expr (.call 84 (.cons (.var 1) (.cons (.var 2) (.cons (.var 3) (.cons (.var 4) .nil)))))) (.cons (.ite (.cmp .gt (.b1 .len (.var 1)) (.glob (Str.ofString "CALMED") (.int 24))) (.cons (.raise 8) .nil) .nil) (.cons (.par 5 6 (.lst .nil) (.call 89 (.cons (.var 0) (.cons (.var 1) (.cons (.var 2) (.cons (.var 3) (.cons (.var 4) .nil))))))) (.cons (.for_ (.one 7) (.rng2 (.b1 .len (.var 2)) (.b1 .len (.var 1))) (.cons (.for_ (.one 8) (.rng2 (.bin .add (.var 7) (.int 1)) (.b1 .len (.var 1))) (.cons (.ite (.cmp .ne (.idx (.var 1) (.var 7)) (.idx (.var 1) (.var 8))) (.cons (.assign 9 (.call 89 (.cons (.var 0) (.cons (.call 67 (.cons (.var 1) (.cons (.var 7) (.cons (.var 8) .nil)))) (.cons (.var 2) (.cons (.var 3) (.cons (.var 4) .nil))))))) (.cons (.ite (.cmp .lt (.var 9) (.var 6)) (.cons (.append 5 (.tup (.cons (.var 9) (.cons (.var 7) (.cons (.var 8) .nil))))) .nil) .nil) .nil)) .nil) .nil)) .nil)) (.cons (.ite (.cmp .eq (.var 5) (.lst .nil)) (.cons (.ret .non) .nil) .nil) (.cons (.unpack [9, 7, 8] (.b1 .min (.var 5))) (.cons (.ret (.tup (.cons (.var 7) (.cons (.var 8) (.cons (.var 9) .nil))))) .nil))))))))⟩
/-- _law_most_foreseen: 0 hands 1 row 2 told 3 times 4 reach 5 made 6 one 7 other -/
def fn_law_most_foreseen : Fn := ⟨5, 8, (.cons (.assign 5 (.lst .nil)) (.cons (.for_ (.many [6, 7]) (.seq (.call 42 (.cons (.var 0) .nil))) (.cons (.append 5 (.idx (.callK 87 (.cons (.var 0) (.cons (.var 1) (.cons (.var 2) (.cons (.var 6) (.cons (.var 7) (.cons (.var 3) .nil)))))) (Str.ofString "bound") (.var 4)) (.int 1))) (.cons (.append 5 (.idx (.callK 87 (.cons (.var 0) (.cons (.var 1) (.cons (.var 2) (.cons (.var 7) (.cons (.var 6) (.cons (.var 3) .nil)))))) (Str.ofString "bound") (.var 4)) (.int 1))) .nil))) (.cons (.ret (.b1 .max (.var 5))) .nil)))⟩
/-- law: 0 script 1 town 2 hands 3 times 4 row 5 place 6 many 7 reach 8 told 9 now 10 rated 11 one 12 other 13 later 14 most 15 got -/
def fn_law17 : Fn := ⟨1, 16, (.cons (.newRef 1) (.cons (.par 2 3 (.bin .add (.int 2) (.call 12 (.cons (.var 0) (.cons (.var 1) (.cons (.int 3) .nil))))) (.bin .add (.int 1) (.call 12 (.cons (.var 0) (.cons (.var 1) (.cons (.int 3) .nil)))))) (.cons (.assign 4 (.b1 .tuple (.comp [5] (.one 5) (.rng1 (.bin .add (.var 3) (.call 12 (.cons (.var 0) (.cons (.var 1) (.cons (.int 8) .nil)))))) .none (.call 12 (.cons (.var 0) (.cons (.var 1) (.cons (.var 2) .nil))))))) (.cons (.par 6 7 (.bin .add (.var 3) (.call 12 (.cons (.var 0) (.cons (.var 1) (.cons (.bin .add (.bin .sub (.b1 .len (.var 4)) (.var 3)) (.int 1)) .nil))))) (.call 12 (.cons (.var 0) (.cons (.var 1) (.cons (.int 6) .nil))))) (.cons (.assign 8 (.b1 .tuple (.comp [5] (.one 5) (.rng1 (.var 6)) .none (.bin .sub (.call 12 (.cons (.var 0) (.cons (.var 1) (.cons (.int 21) .nil)))) (.int 10))))) (.cons (.par 9 10 (.call 91 (.cons (.var 2) (.cons (.var 4) (.cons (.var 8) (.cons (.var 3) (.cons (.var 7) .nil)))))) (.lst .nil)) (.cons (.for_ (.one 11) (.rng2 (.var 6) (.b1 .len (.var 4))) (.cons (.for_ (.one 12) (.rng2 (.bin .add (.var 11) (.int 1)) (.b1 .len (.var 4))) (.cons (.assign 13 (.b1 .list (.var 4))) (.cons (.swap2 13 (.var 11) (.var 12) (.idx (.var 4) (.var 12)) (.idx (.var 4) (.var 11))) (.cons (.assign 14 (.call 91 (.cons (.var 2) (.cons (.b1 .tuple (.var 13)) (.cons (.var 8) (.cons (.var 3) (.cons (.var 7) .nil))))))) (.cons (.ite (.andL (.cons (.cmp .ne (.idx (.var 4) (.var 11)) (.idx (.var 4) (.var 12))) (.cons (.cmp .lt (.var 14) (.var 9)) .nil))) (.cons (.append 10 (.tup (.cons (.var 14) (.cons (.var 11) (.cons (.var 12) .nil))))) .nil) .nil) .nil))))) .nil)) (.cons (.assign 15 (.callK 90 (.cons (.var 2) (.cons (.var 4) (.cons (.var 8) (.cons (.var 3) .nil)))) (Str.ofString "bound") (.var 7))) (.cons (.ite (.cmp .eq (.var 10) (.lst .nil)) (.cons (.ret (.isC false .non (.var 15))) .nil) .nil) (.cons (.unpack [14, 11, 12] (.b1 .min (.var 10))) (.cons (.ret (.cmp .eq (.var 15) (.tup (.cons (.var 11) (.cons (.var 12) (.cons (.var 14) .nil)))))) .nil)))))))))))⟩
/-- law: 0 script 1 town 2 hands 3 row 4 worths 5 place 6 own 7 smooth 8 both 9 a 10 b 11 power 12 changed 13 one 14 other 15 ahead 16 worth 17 gap -/
def fn_law19 : Fn := ⟨1, 18, (.cons (.newRef 1) (.cons (.assign 2 (.bin .add (.int 2) (.call 12 (.cons (.var 0) (.cons (.var 1) (.cons (.int 3) .nil)))))) (.cons (.assign 3 (.call 45 (.cons (.var 0) (.cons (.var 1) (.cons (.var 2) (.cons (.call 12 (.cons (.var 0) (.cons (.var 1) (.cons (.int 3) .nil)))) .nil)))))) (.cons (.assign 4 (.b1 .tuple (.comp [5] (.one 5) (.seq (.var 3)) .none (.bin .sub (.call 12 (.cons (.var 0) (.cons (.var 1) (.cons (.int 199) .nil)))) (.int 99))))) (.cons (.assign 6 (.call 39 (.cons (.var 2) (.cons (.var 3) .nil)))) (.cons (.assign 7 (.call 27 (.cons (.var 0) (.cons (.var 1) (.cons (.b1 .len (.var 3)) (.cons (.mm true (.int 0) (.var 6)) .nil)))))) (.cons (.assign 8 (.b1 .tuple (.comp [9, 10] (.many [9, 10]) (.zip (.var 4) (.var 7)) .none (.bin .add (.var 9) (.var 10))))) (.cons (.assign 11 (.b1 .tuple (.comp [5] (.one 5) (.rng1 (.b1 .len (.var 3))) .none (.call 22 (.cons (.var 5) (.cons (.bin .add (.var 6) (.int 1)) .nil)))))) (.cons (.assign 12 (.lst .nil)) (.cons (.for_ (.many [13, 14]) (.seq (.call 42 (.cons (.var 2) .nil))) (.cons (.assign 15 (.call 14 (.cons (.var 2) (.cons (.var 3) (.cons (.var 13) (.cons (.var 14) (.cons (.var 4) .nil))))))) (.cons (.ite (.andL (.cons (.cmp .ge (.var 6) (.int 0)) (.cons (.cmp .ne (.call 14 (.cons (.var 2) (.cons (.var 3) (.cons (.var 13) (.cons (.var 14) (.cons (.var 8) .nil)))))) (.var 15)) .nil))) (.cons (.ret (.bl false)) .nil) .nil) (.cons (.ite (.cmp .ne (.call 14 (.cons (.var 2) (.cons (.var 3) (.cons (.var 13) (.cons (.var 14) (.cons (.var 8) .nil)))))) (.bin .add (.var 15) (.call 14 (.cons (.var 2) (.cons (.var 3) (.cons (.var 13) (.cons (.var 14) (.cons (.var 7) .nil)))))))) (.cons (.ret (.bl false)) .nil) .nil) (.cons (.ite (.cmp .ne (.call 14 (.cons (.var 2) (.cons (.var 3) (.cons (.var 13) (.cons (.var 14) (.cons (.b1 .tuple (.comp [16] (.one 16) (.seq (.var 4)) .none (.bin .mul (.int 2) (.var 16)))) .nil)))))) (.bin .mul (.int 2) (.var 15))) (.cons (.ret (.bl false)) .nil) .nil) (.cons (.append 12 (.call 14 (.cons (.var 2) (.cons (.var 3) (.cons (.var 13) (.cons (.var 14) (.cons (.var 11) .nil))))))) .nil)))))) (.cons (.ite (.orL (.cons (.cmp .eq (.comp [17] (.one 17) (.seq (.var 12)) (.some (.cmp .ne (.var 17) (.int 0))) (.var 17)) (.lst .nil)) (.cons (.isC true .tru (.call 23 (.cons (.var 11) (.cons (.bin .add (.var 6) (.int 1)) .nil)))) .nil))) (.cons (.ret (.bl false)) .nil) .nil) (.cons (.ret (.orL (.cons (.cmp .le (.b1 .len (.var 3)) (.bin .add (.var 6) (.int 2))) (.cons (.cmp .ne (.idx (.callK 24 (.cons (.var 11) .nil) (Str.ofString "order") (.bin .add (.var 6) (.int 1))) (.int 0)) (.int 0)) .nil)))) .nil))))))))))))⟩
/-- sums: 0 hands 1 row 2 one 3 other 4 order -/
def fn_sums__1 : Fn := ⟨5, 5, (.cons (.expr (.call 5 (.cons (.var 0) (.cons (.var 1) (.cons (.var 2) (.cons (.var 3) .nil)))))) (.cons (.ite (.not (.call 0 (.cons (.var 4) (.cons (.int 0) (.cons (.glob (Str.ofString "MOST_sums") (.int 9)) .nil))))) (.cons (.raise 5) .nil) .nil) (.cons (.ret (.call 29 (.cons (.var 1) (.cons (.var 2) (.cons (.var 3) (.cons (.var 4) .nil)))))) .nil)))⟩
/-- is_even: 0 hands 1 row 2 degree -/
def fn_is_even__1 : Fn := ⟨3, 3, (.cons (.expr (.call 3 (.cons (.var 0) (.cons (.var 1) .nil)))) (.cons (.ite (.not (.call 0 (.cons (.var 2) (.cons (.int 0) (.cons (.glob (Str.ofString "MOST_sums") (.int 9)) .nil))))) (.cons (.raise 9) .nil) .nil) (.cons (.ret (.call 32 (.cons (.var 0) (.cons (.var 1) (.cons (.var 2) .nil))))) .nil)))⟩
/-- differences: 0 worths 1 order -/
def fn_differences__1 : Fn := ⟨2, 2, (.cons (.expr (.call 21 (.cons (.var 0) .nil))) (.cons (.ite (.not (.call 0 (.cons (.var 1) (.cons (.int 0) (.cons (.glob (Str.ofString "MOST_smooth") (.int 9)) .nil))))) (.cons (.raise 5) .nil) .nil) (.cons (.ret (.call 20 (.cons (.var 0) (.cons (.var 1) .nil)))) .nil)))⟩
/-- is_smooth: 0 worths 1 degree 2 one -/
def fn_is_smooth__1 : Fn := ⟨2, 3, (.cons (.expr (.call 21 (.cons (.var 0) .nil))) (.cons (.ite (.not (.call 0 (.cons (.var 1) (.cons (.int 0) (.cons (.glob (Str.ofString "MOST_smooth") (.int 9)) .nil))))) (.cons (.raise 9) .nil) .nil) (.cons (.ret (.b1 .all (.comp [2] (.one 2) (.seq (.call 20 (.cons (.var 0) (.cons (.bin .add (.var 1) (.int 1)) .nil)))) .none (.cmp .eq (.var 2) (.int 0))))) .nil)))⟩
/-- row_text: 0 hands 1 row -/
def fn_row_text : Fn := ⟨2, 2, (.cons (.expr (.call 3 (.cons (.var 0) (.cons (.var 1) .nil)))) (.cons (.ret (.call 98 (.cons (.var 1) .nil))) .nil))⟩
/-- _law_degrees_refused: 0 row 1 off 2 what 3 hands 4 long 5 told 6 many -/
def fn_law_degrees_refused : Fn := ⟨1, 7, (.cons (.for_ (.one 1) (.seq (.lst (.cons .non (.cons (.neg (.int 1)) (.cons (.int 10) (.cons (.str (Str.ofString "1")) (.cons (.bl true) .nil))))))) (.cons (.ite (.cmp .ne (.comp [2] (.one 2) (.seq (.tup (.cons (.int 5) (.cons (.int 6) (.cons (.int 16) .nil))))) .none (.call 112 (.cons (.var 2) (.cons (.int 2) (.cons (.var 0) (.cons (.var 1) (.cons .non (.cons .non .nil)))))))) (.bin .mul (.lst (.cons (.tup (.cons (.str (Str.ofString "refused")) (.cons (.int 8) .nil))) .nil)) (.int 3))) (.cons (.ret (.bl false)) .nil) .nil) (.cons (.ite (.orL (.cons (.cmp .ne (.call 113 (.cons (.int 0) (.cons (.tup (.cons (.int 1) .nil)) (.cons (.var 1) .nil)))) (.tup (.cons (.str (Str.ofString "refused")) (.cons (.int 8) .nil)))) (.cons (.cmp .ne (.call 113 (.cons (.int 1) (.cons (.tup (.cons (.int 1) .nil)) (.cons (.var 1) .nil)))) (.tup (.cons (.str (Str.ofString "refused")) (.cons (.int 4) .nil)))) .nil))) (.cons (.ret (.bl false)) .nil) .nil) (.cons (.ite (.cmp .ne (.call 112 (.cons (.int 18) (.cons (.int 2) (.cons (.var 1) (.cons .non (.cons .non (.cons .non .nil))))))) (.tup (.cons (.str (Str.ofString "refused")) (.cons (.int 8) .nil)))) (.cons (.ret (.bl false)) .nil) .nil) .nil)))) (.cons (.for_ (.one 3) (.seq (.tup (.cons (.int 3) (.cons (.int 4) .nil)))) (.cons (.ite (.cmp .ne (.call 112 (.cons (.int 18) (.cons (.var 3) (.cons (.int 2) (.cons .non (.cons .non (.cons .non .nil))))))) (.tup (.cons (.str (Str.ofString "refused")) (.cons (.int 8) .nil)))) (.cons (.ret (.bl false)) .nil) .nil) .nil)) (.cons (.ite (.orL (.cons (.cmp .ne (.call 112 (.cons (.int 18) (.cons (.int 2) (.cons (.int 4) (.cons .non (.cons .non (.cons .non .nil))))))) (.tup (.cons (.str (Str.ofString "refused")) (.cons (.int 8) .nil)))) (.cons (.cmp .ne (.call 112 (.cons (.int 16) (.cons (.int 2) (.cons (.var 0) (.cons (.int 3) (.cons .non (.cons .non .nil))))))) (.tup (.cons (.str (Str.ofString "refused")) (.cons (.int 8) .nil)))) .nil))) (.cons (.ret (.bl false)) .nil) .nil) (.cons (.for_ (.one 1) (.seq (.lst (.cons .non (.cons (.tup .nil) (.cons (.lst (.cons (.int 1) .nil)) (.cons (.tup (.cons .non .nil)) (.cons (.tup (.cons (.bl true) .nil)) (.cons (.str (Str.ofString "1")) .nil)))))))) (.cons (.ite (.cmp .ne (.comp [2] (.one 2) (.rng1 (.int 2)) .none (.call 113 (.cons (.var 2) (.cons (.var 1) (.cons (.int 1) .nil))))) (.bin .mul (.lst (.cons (.tup (.cons (.str (Str.ofString "refused")) (.cons (.int 3) .nil))) .nil)) (.int 2))) (.cons (.ret (.bl false)) .nil) .nil) .nil)) (.cons (.assign 4 (.bin .mul (.tup (.cons (.int 0) (.cons (.int 1) .nil))) (.int 16))) (.cons (.assign 5 (.lst (.cons (.call 112 (.cons (.int 7) (.cons (.int 2) (.cons (.var 4) (.cons (.tup (.cons (.int 0) (.cons (.int 1) (.cons (.int 1) .nil)))) (.cons .non (.cons .non .nil))))))) (.cons (.call 112 (.cons (.int 8) (.cons (.int 2) (.cons (.var 4) (.cons (.bin .add (.var 4) (.tup (.cons (.int 0) .nil))) (.cons .non (.cons .non .nil))))))) .nil)))) (.cons (.ite (.cmp .ne (.var 5) (.bin .mul (.lst (.cons (.tup (.cons (.str (Str.ofString "refused")) (.cons (.int 7) .nil))) .nil)) (.int 2))) (.cons (.ret (.bl false)) .nil) .nil) (.cons (.assign 5 (.lst (.cons (.call 112 (.cons (.int 7) (.cons (.int 2) (.cons (.var 4) (.cons (.tup (.cons (.int 0) (.cons (.int 1) .nil))) (.cons .non (.cons .non .nil))))))) (.cons (.call 112 (.cons (.int 8) (.cons (.int 2) (.cons (.var 4) (.cons (.var 4) (.cons .non (.cons .non .nil))))))) .nil)))) (.cons (.ite (.cmp .ne (.var 5) (.lst (.cons (.bin .add (.var 4) (.bin .mul (.tup (.cons (.int 1) (.cons (.int 0) .nil))) (.int 16))) (.cons (.bin .mul (.var 4) (.int 2)) .nil)))) (.cons (.ret (.bl false)) .nil) .nil) (.cons (.for_ (.many [3, 6]) (.seq (.tup (.cons (.tup (.cons (.int 2) (.cons (.int 13) .nil))) (.cons (.tup (.cons (.int 3) (.cons (.int 9) .nil))) (.cons (.tup (.cons (.int 4) (.cons (.int 7) .nil))) .nil))))) (.cons (.ite (.cmp .ne (.call 112 (.cons (.int 16) (.cons (.var 3) (.cons (.bin .mul (.tup (.cons (.int 0) .nil)) (.var 6)) (.cons (.int 0) (.cons .non (.cons .non .nil))))))) (.tup (.cons (.str (Str.ofString "refused")) (.cons (.int 7) .nil)))) (.cons (.ret (.bl false)) .nil) .nil) .nil)) (.cons (.ite (.orL (.cons (.isC true .non (.call 112 (.cons (.int 16) (.cons (.int 4) (.cons (.bin .mul (.tup (.cons (.int 0) .nil)) (.int 6)) (.cons (.int 0) (.cons .non (.cons .non .nil)))))))) (.cons (.isC true .non (.call 112 (.cons (.int 16) (.cons (.int 3) (.cons (.bin .mul (.tup (.cons (.int 0) .nil)) (.int 8)) (.cons (.int 2) (.cons .non (.cons .non .nil)))))))) .nil))) (.cons (.ret (.bl false)) .nil) .nil) (.cons (.ite (.cmp .ne (.comp [2] (.one 2) (.seq (.tup (.cons (.int 5) (.cons (.int 16) .nil)))) .none (.call 112 (.cons (.var 2) (.cons (.int 2) (.cons (.var 0) (.cons (.int 9) (.cons .non (.cons .non .nil)))))))) (.lst (.cons (.bl false) (.cons (.tup (.cons (.str (Str.ofString "refused")) (.cons (.int 8) .nil))) .nil)))) (.cons (.ret (.bl false)) .nil) .nil) (.cons (.ite (.cmp .ne (.call 112 (.cons (.int 11) (.cons (.int 2) (.cons (.bin .mul (.tup (.cons (.int 0) (.cons (.int 1) .nil))) (.int 9)) (.cons (.int 1) (.cons .non (.cons .non .nil))))))) (.tup (.cons (.str (Str.ofString "refused")) (.cons (.int 7) .nil)))) (.cons (.ret (.bl false)) .nil) .nil) (.cons (.ret (.isC false .non (.call 112 (.cons (.int 11) (.cons (.int 2) (.cons (.bin .mul (.tup (.cons (.int 0) (.cons (.int 1) .nil))) (.int 8)) (.cons (.int 1) (.cons .non (.cons .non .nil))))))))) .nil))))))))))))))⟩
/-- law: 0 script 1 town 2 row 3 off 4 what 5 one 6 other -/
def fn_law20 : Fn := ⟨1, 7, (.cons (.newRef 1) (.cons (.assign 2 (.tup (.cons (.int 0) (.cons (.int 1) (.cons (.int 1) (.cons (.int 0) .nil)))))) (.cons (.for_ (.one 3) (.seq (.lst (.cons .non (.cons (.int 1) (.cons (.int 5) (.cons (.str (Str.ofString "2")) (.cons (.bl true) .nil))))))) (.cons (.ite (.cmp .ne (.comp [4] (.one 4) (.rng1 (.int 20)) .none (.call 112 (.cons (.var 4) (.cons (.var 3) (.cons .non (.cons .non (.cons .non (.cons .non .nil)))))))) (.bin .mul (.lst (.cons (.tup (.cons (.str (Str.ofString "refused")) (.cons (.int 0) .nil))) .nil)) (.int 20))) (.cons (.ret (.bl false)) .nil) .nil) .nil)) (.cons (.for_ (.one 3) (.seq (.lst (.cons .non (.cons (.tup .nil) (.cons (.lst (.cons (.int 0) (.cons (.int 1) .nil))) (.cons (.tup (.cons (.int 0) (.cons (.int 2) .nil))) (.cons (.tup (.cons (.int 0) (.cons (.neg (.int 1)) .nil))) (.cons (.tup (.cons (.int 0) (.cons (.bl true) .nil))) (.cons (.tup (.cons (.int 0) (.cons (.str (Str.ofString "1")) .nil))) (.cons (.bin .mul (.tup (.cons (.int 0) .nil)) (.int 65)) (.cons (.str (Str.ofString "ab")) (.cons (.tup (.cons .non .nil)) .nil)))))))))))) (.cons (.ite (.isC true .fls (.call 17 (.cons (.int 2) (.cons (.var 3) .nil)))) (.cons (.ret (.bl false)) .nil) .nil) (.cons (.ite (.cmp .ne (.comp [4] (.one 4) (.rng1 (.int 18)) (.some (.cmp .ne (.var 4) (.int 3))) (.call 112 (.cons (.var 4) (.cons (.int 2) (.cons (.var 3) (.cons .non (.cons .non (.cons .non .nil)))))))) (.bin .mul (.lst (.cons (.tup (.cons (.str (Str.ofString "refused")) (.cons (.int 1) .nil))) .nil)) (.int 17))) (.cons (.ret (.bl false)) .nil) .nil) (.cons (.ite (.cmp .ne (.comp [4] (.one 4) (.seq (.tup (.cons (.int 7) (.cons (.int 8) .nil)))) .none (.call 112 (.cons (.var 4) (.cons (.int 2) (.cons (.var 2) (.cons (.var 3) (.cons .non (.cons .non .nil)))))))) (.bin .mul (.lst (.cons (.tup (.cons (.str (Str.ofString "refused")) (.cons (.int 1) .nil))) .nil)) (.int 2))) (.cons (.ret (.bl false)) .nil) .nil) .nil)))) (.cons (.for_ (.many [5, 6]) (.seq (.lst (.cons (.tup (.cons .non (.cons (.int 0) .nil))) (.cons (.tup (.cons (.int 0) (.cons .non .nil))) (.cons (.tup (.cons (.int 0) (.cons (.int 0) .nil))) (.cons (.tup (.cons (.int 0) (.cons (.int 2) .nil))) (.cons (.tup (.cons (.int 2) (.cons (.int 0) .nil))) (.cons (.tup (.cons (.int 3) (.cons (.int 1) .nil))) (.cons (.tup (.cons (.neg (.int 1)) (.cons (.int 0) .nil))) (.cons (.tup (.cons (.bl true) (.cons (.int 0) .nil))) (.cons (.tup (.cons (.int 0) (.cons (.str (Str.ofString "1")) .nil))) .nil))))))))))) (.cons (.ite (.cmp .ne (.comp [4] (.one 4) (.seq (.tup (.cons (.int 12) (.cons (.int 13) (.cons (.int 15) .nil))))) .none (.call 112 (.cons (.var 4) (.cons (.int 2) (.cons (.var 2) (.cons (.var 5) (.cons (.var 6) (.cons .non .nil)))))))) (.bin .mul (.lst (.cons (.tup (.cons (.str (Str.ofString "refused")) (.cons (.int 2) .nil))) .nil)) (.int 3))) (.cons (.ret (.bl false)) .nil) .nil) .nil)) (.cons (.for_ (.one 3) (.seq (.lst (.cons .non (.cons (.tup .nil) (.cons (.tup (.cons (.int 0) .nil)) (.cons (.tup (.cons (.int 0) (.cons (.int 0) .nil))) (.cons (.tup (.cons (.int 1) (.cons (.int 2) .nil))) (.cons (.lst (.cons (.int 0) (.cons (.int 1) .nil))) (.cons (.tup (.cons (.int 0) (.cons (.int 1) (.cons (.int 0) .nil)))) (.cons (.tup (.cons (.int 0) (.cons (.bl true) .nil))) .nil)))))))))) (.cons (.ite (.cmp .ne (.call 112 (.cons (.int 9) (.cons (.int 2) (.cons (.var 2) (.cons (.var 3) (.cons .non (.cons .non .nil))))))) (.tup (.cons (.str (Str.ofString "refused")) (.cons (.int 2) .nil)))) (.cons (.ret (.bl false)) .nil) .nil) .nil)) (.cons (.for_ (.one 3) (.seq (.lst (.cons .non (.cons (.lst (.cons (.int 0) (.cons (.int 0) (.cons (.int 0) (.cons (.int 0) .nil))))) (.cons (.tup (.cons (.int 0) (.cons (.int 0) (.cons (.int 0) .nil)))) (.cons (.bin .mul (.tup (.cons (.int 0) .nil)) (.int 5)) (.cons (.tup (.cons (.int 0) (.cons (.int 0) (.cons (.int 0) (.cons (.bl true) .nil))))) (.cons (.tup (.cons (.int 0) (.cons (.int 0) (.cons (.int 0) (.cons .non .nil))))) (.cons (.tup .nil) .nil))))))))) (.cons (.ite (.orL (.cons (.cmp .ne (.call 112 (.cons (.int 4) (.cons (.int 2) (.cons (.var 2) (.cons (.var 3) (.cons .non (.cons .non .nil))))))) (.tup (.cons (.str (Str.ofString "refused")) (.cons (.int 3) .nil)))) (.cons (.cmp .ne (.call 112 (.cons (.int 15) (.cons (.int 2) (.cons (.var 2) (.cons (.int 0) (.cons (.int 1) (.cons (.var 3) .nil))))))) (.tup (.cons (.str (Str.ofString "refused")) (.cons (.int 3) .nil)))) .nil))) (.cons (.ret (.bl false)) .nil) .nil) .nil)) (.cons (.ret (.call 114 (.cons (.var 2) .nil))) .nil))))))))⟩
/-- _law_told_refused: 0 row 1 off 2 what -/
def fn_law_told_refused : Fn := ⟨1, 3, (.cons (.for_ (.one 1) (.seq (.lst (.cons .non (.cons (.lst (.cons (.int 1) .nil)) (.cons (.tup (.cons (.int 1) (.cons .non .nil))) (.cons (.tup (.cons (.int 1) (.cons (.bl true) .nil))) (.cons (.bin .mul (.tup (.cons (.int 0) .nil)) (.int 5)) (.cons (.str (Str.ofString "12")) .nil)))))))) (.cons (.ite (.cmp .ne (.comp [2] (.one 2) (.seq (.tup (.cons (.int 11) (.cons (.int 12) .nil)))) .none (.call 95 (.cons (.var 2) (.cons (.var 0) (.cons (.var 1) (.cons .non (.cons .non .nil))))))) (.bin .mul (.lst (.cons (.tup (.cons (.str (Str.ofString "refused")) (.cons (.int 3) .nil))) .nil)) (.int 2))) (.cons (.ret (.bl false)) .nil) .nil) .nil)) (.cons (.for_ (.one 1) (.seq (.lst (.cons .non (.cons (.lst (.cons (.int 1) .nil)) (.cons (.tup (.cons (.int 1) (.cons .non .nil))) (.cons (.tup (.cons (.bl true) .nil)) .nil)))))) (.cons (.ite (.cmp .ne (.call 95 (.cons (.int 10) (.cons (.var 1) (.cons .non (.cons .non (.cons .non .nil)))))) (.tup (.cons (.str (Str.ofString "refused")) (.cons (.int 3) .nil)))) (.cons (.ret (.bl false)) .nil) .nil) .nil)) (.cons (.for_ (.one 1) (.seq (.lst (.cons .non (.cons (.int 1) (.cons (.int 65) (.cons (.str (Str.ofString "3")) (.cons (.bl true) .nil))))))) (.cons (.ite (.cmp .ne (.call 95 (.cons (.int 10) (.cons (.tup (.cons (.int 1) (.cons (.int 2) .nil))) (.cons (.var 1) (.cons (.int 1) (.cons .non .nil)))))) (.tup (.cons (.str (Str.ofString "refused")) (.cons (.int 9) .nil)))) (.cons (.ret (.bl false)) .nil) .nil) .nil)) (.cons (.ite (.cmp .ne (.comp [2] (.one 2) (.seq (.tup (.cons (.int 11) (.cons (.int 12) .nil)))) .none (.call 95 (.cons (.var 2) (.cons (.var 0) (.cons (.tup (.cons (.int 1) (.cons (.int 2) .nil))) (.cons (.int 3) (.cons (.int 1) .nil))))))) (.bin .mul (.lst (.cons (.tup (.cons (.str (Str.ofString "refused")) (.cons (.int 4) .nil))) .nil)) (.int 2))) (.cons (.ret (.bl false)) .nil) .nil) (.cons (.ite (.orL (.cons (.cmp .ne (.call 95 (.cons (.int 10) (.cons (.tup .nil) (.cons (.int 5) (.cons (.int 1) (.cons .non .nil)))))) (.tup (.cons (.str (Str.ofString "refused")) (.cons (.int 3) .nil)))) (.cons (.cmp .ne (.call 95 (.cons (.int 11) (.cons (.var 0) (.cons (.tup .nil) (.cons (.int 1) (.cons (.int 1) .nil)))))) (.tup (.cons (.str (Str.ofString "refused")) (.cons (.int 3) .nil)))) .nil))) (.cons (.ret (.bl false)) .nil) .nil) (.cons (.ite (.cmp .ne (.call 95 (.cons (.int 12) (.cons (.bin .add (.bin .mul (.tup (.cons (.int 0) (.cons (.int 1) .nil))) (.int 12)) (.tup (.cons (.int 0) .nil))) (.cons (.tup (.cons (.int 1) .nil)) (.cons (.int 1) (.cons (.int 1) .nil)))))) (.tup (.cons (.str (Str.ofString "refused")) (.cons (.int 7) .nil)))) (.cons (.ret (.bl false)) .nil) .nil) (.cons (.ret (.cmp .eq (.call 95 (.cons (.int 10) (.cons (.tup (.cons (.int 3) .nil)) (.cons (.int 64) (.cons (.int 1) (.cons .non .nil)))))) (.bin .mul (.tup (.cons (.int 3) .nil)) (.int 64)))) .nil)))))))⟩
/-- _law_counts_refused: 0 hands 1 many 2 more 3 off 4 what -/
def fn_law_counts_refused : Fn := ⟨0, 5, (.cons (.for_ (.many [0, 1, 2]) (.seq (.tup (.cons (.tup (.cons (.int 2) (.cons (.int 10) (.cons (.int 12) .nil)))) (.cons (.tup (.cons (.int 3) (.cons (.int 6) (.cons (.int 8) .nil)))) (.cons (.tup (.cons (.int 4) (.cons (.int 5) (.cons (.int 6) .nil)))) .nil))))) (.cons (.for_ (.one 3) (.seq (.lst (.cons .non (.cons (.int 0) (.cons (.bin .add (.var 1) (.int 1)) (.cons (.str (Str.ofString "2")) (.cons (.bl true) .nil))))))) (.cons (.ite (.cmp .ne (.comp [4] (.one 4) (.seq (.tup (.cons (.int 6) (.cons (.int 7) .nil)))) .none (.call 95 (.cons (.var 4) (.cons (.var 0) (.cons (.var 3) (.cons .non (.cons .non .nil))))))) (.bin .mul (.lst (.cons (.tup (.cons (.str (Str.ofString "refused")) (.cons (.int 9) .nil))) .nil)) (.int 2))) (.cons (.ret (.bl false)) .nil) .nil) .nil)) (.cons (.for_ (.one 3) (.seq (.lst (.cons .non (.cons (.int 0) (.cons (.bin .add (.var 2) (.int 1)) (.cons (.str (Str.ofString "2")) (.cons (.bl true) .nil))))))) (.cons (.ite (.cmp .ne (.call 95 (.cons (.int 8) (.cons (.var 0) (.cons (.var 3) (.cons .non (.cons .non .nil)))))) (.tup (.cons (.str (Str.ofString "refused")) (.cons (.int 9) .nil)))) (.cons (.ret (.bl false)) .nil) .nil) .nil)) (.cons (.for_ (.one 3) (.seq (.lst (.cons .non (.cons (.neg (.int 1)) (.cons (.int 4) (.cons (.str (Str.ofString "1")) (.cons (.bl true) .nil))))))) (.cons (.ite (.cmp .ne (.call 95 (.cons (.int 8) (.cons (.var 0) (.cons (.var 2) (.cons (.var 3) (.cons .non .nil)))))) (.tup (.cons (.str (Str.ofString "refused")) (.cons (.int 8) .nil)))) (.cons (.ret (.bl false)) .nil) .nil) .nil)) .nil)))) (.cons (.for_ (.one 3) (.seq (.lst (.cons .non (.cons (.int 1) (.cons (.int 5) (.cons (.bl true) .nil)))))) (.cons (.ite (.cmp .ne (.comp [4] (.one 4) (.seq (.tup (.cons (.int 6) (.cons (.int 7) (.cons (.int 8) .nil))))) .none (.call 95 (.cons (.var 4) (.cons (.var 3) (.cons .non (.cons .non (.cons .non .nil))))))) (.bin .mul (.lst (.cons (.tup (.cons (.str (Str.ofString "refused")) (.cons (.int 0) .nil))) .nil)) (.int 3))) (.cons (.ret (.bl false)) .nil) .nil) .nil)) (.cons (.ret (.bl true)) .nil)))⟩
/-- law: 0 script 1 town 2 row 3 off 4 what 5 one 6 other -/
def fn_law21 : Fn := ⟨1, 7, (.cons (.newRef 1) (.cons (.assign 2 (.tup (.cons (.int 0) (.cons (.int 1) (.cons (.int 1) (.cons (.int 0) .nil)))))) (.cons (.for_ (.one 3) (.seq (.lst (.cons .non (.cons (.int 0) (.cons (.int 5) (.cons (.str (Str.ofString "1")) (.cons (.bl true) (.cons (.neg (.int 1)) .nil)))))))) (.cons (.ite (.cmp .ne (.comp [4] (.one 4) (.seq (.tup (.cons (.int 0) (.cons (.int 1) (.cons (.int 2) (.cons (.int 3) (.cons (.int 4) .nil))))))) .none (.call 95 (.cons (.var 4) (.cons (.var 2) (.cons (.var 3) (.cons (.int 100) (.cons .non .nil))))))) (.bin .mul (.lst (.cons (.tup (.cons (.str (Str.ofString "refused")) (.cons (.int 4) .nil))) .nil)) (.int 5))) (.cons (.ret (.bl false)) .nil) .nil) (.cons (.ite (.cmp .ne (.comp [4] (.one 4) (.seq (.tup (.cons (.int 6) (.cons (.int 7) .nil)))) .none (.call 95 (.cons (.var 4) (.cons (.int 2) (.cons (.int 4) (.cons (.var 3) (.cons .non .nil))))))) (.bin .mul (.lst (.cons (.tup (.cons (.str (Str.ofString "refused")) (.cons (.int 4) .nil))) .nil)) (.int 2))) (.cons (.ret (.bl false)) .nil) .nil) (.cons (.ite (.cmp .ne (.comp [4] (.one 4) (.seq (.tup (.cons (.int 11) (.cons (.int 12) .nil)))) .none (.call 95 (.cons (.var 4) (.cons (.var 2) (.cons (.tup (.cons (.int 1) (.cons (.int 2) (.cons (.int 3) (.cons (.int 4) .nil))))) (.cons (.var 3) (.cons (.int 100) .nil))))))) (.bin .mul (.lst (.cons (.tup (.cons (.str (Str.ofString "refused")) (.cons (.int 4) .nil))) .nil)) (.int 2))) (.cons (.ret (.bl false)) .nil) .nil) (.cons (.ite (.cmp .ne (.call 95 (.cons (.int 10) (.cons (.tup (.cons (.int 1) (.cons (.int 2) (.cons (.int 3) (.cons (.int 4) .nil))))) (.cons (.int 9) (.cons (.var 3) (.cons .non .nil)))))) (.tup (.cons (.str (Str.ofString "refused")) (.cons (.int 4) .nil)))) (.cons (.ret (.bl false)) .nil) .nil) .nil))))) (.cons (.for_ (.one 3) (.seq (.lst (.cons .non (.cons (.neg (.int 1)) (.cons (.int 100) (.cons (.str (Str.ofString "1")) (.cons (.bl true) .nil))))))) (.cons (.ite (.cmp .ne (.comp [4] (.one 4) (.seq (.tup (.cons (.int 0) (.cons (.int 3) (.cons (.int 4) .nil))))) .none (.call 95 (.cons (.var 4) (.cons (.var 2) (.cons (.int 1) (.cons (.var 3) (.cons .non .nil))))))) (.bin .mul (.lst (.cons (.tup (.cons (.str (Str.ofString "refused")) (.cons (.int 5) .nil))) .nil)) (.int 3))) (.cons (.ret (.bl false)) .nil) .nil) (.cons (.ite (.cmp .ne (.comp [4] (.one 4) (.seq (.tup (.cons (.int 11) (.cons (.int 12) .nil)))) .none (.call 95 (.cons (.var 4) (.cons (.var 2) (.cons (.tup (.cons (.int 1) (.cons (.int 2) .nil))) (.cons (.int 2) (.cons (.var 3) .nil))))))) (.bin .mul (.lst (.cons (.tup (.cons (.str (Str.ofString "refused")) (.cons (.int 5) .nil))) .nil)) (.int 2))) (.cons (.ret (.bl false)) .nil) .nil) .nil))) (.cons (.for_ (.one 3) (.seq (.lst (.cons .non (.cons (.neg (.int 1)) (.cons (.int 10) (.cons (.str (Str.ofString "1")) (.cons (.bl true) .nil))))))) (.cons (.ite (.cmp .ne (.call 95 (.cons (.int 5) (.cons (.var 2) (.cons (.var 3) (.cons .non (.cons .non .nil)))))) (.tup (.cons (.str (Str.ofString "refused")) (.cons (.int 4) .nil)))) (.cons (.ret (.bl false)) .nil) .nil) .nil)) (.cons (.ite (.orL (.cons (.cmp .ne (.call 95 (.cons (.int 4) (.cons (.tup (.cons (.int 0) (.cons (.int 1) (.cons (.int 1) .nil)))) (.cons (.int 1) (.cons (.int 1) (.cons .non .nil)))))) (.tup (.cons (.str (Str.ofString "refused")) (.cons (.int 6) .nil)))) (.cons (.cmp .ne (.call 95 (.cons (.int 4) (.cons (.var 2) (.cons (.int 3) (.cons (.int 1) (.cons .non .nil)))))) (.tup (.cons (.str (Str.ofString "refused")) (.cons (.int 6) .nil)))) .nil))) (.cons (.ret (.bl false)) .nil) .nil) (.cons (.for_ (.many [5, 6]) (.seq (.lst (.cons (.tup (.cons .non (.cons (.int 0) .nil))) (.cons (.tup (.cons (.int 0) (.cons (.int 0) .nil))) (.cons (.tup (.cons (.int 0) (.cons (.int 4) .nil))) (.cons (.tup (.cons (.int 4) (.cons (.int 0) .nil))) (.cons (.tup (.cons (.int 5) (.cons (.int 1) .nil))) (.cons (.tup (.cons (.neg (.int 1)) (.cons (.int 0) .nil))) (.cons (.tup (.cons (.int 0) (.cons (.bl true) .nil))) (.cons (.tup (.cons (.str (Str.ofString "0")) (.cons (.int 1) .nil))) .nil)))))))))) (.cons (.ite (.cmp .ne (.call 95 (.cons (.int 9) (.cons (.var 2) (.cons (.var 5) (.cons (.var 6) (.cons .non .nil)))))) (.tup (.cons (.str (Str.ofString "refused")) (.cons (.int 9) .nil)))) (.cons (.ret (.bl false)) .nil) .nil) .nil)) (.cons (.ite (.orL (.cons (.cmp .ne (.call 95 (.cons (.int 9) (.cons (.var 2) (.cons (.int 3) (.cons (.int 1) (.cons .non .nil)))))) (.tup (.cons (.int 0) (.cons (.int 0) (.cons (.int 1) (.cons (.int 1) .nil)))))) (.cons (.cmp .ne (.call 95 (.cons (.int 9) (.cons (.var 2) (.cons (.int 1) (.cons (.int 0) (.cons .non .nil)))))) (.tup (.cons (.int 1) (.cons (.int 0) (.cons (.int 1) (.cons (.int 0) .nil)))))) .nil))) (.cons (.ret (.bl false)) .nil) .nil) (.cons (.ret (.andL (.cons (.call 97 (.cons (.var 2) .nil)) (.cons (.call 96 .nil) .nil)))) .nil)))))))))⟩
def tbl : Nat → Option Fn
  | 0 => some fn_is_whole
  | 1 => some fn_good_row
  | 2 => some fn_need_hands
  | 3 => some fn_need_row
  | 4 => some fn_signs_of
  | 5 => some fn_need_two
  | 6 => some fn_is_any_whole
  | 7 => some fn_are_worths
  | 8 => some fn_totals_of
  | 9 => some fn_need_worths
  | 10 => some fn_law_cell_at
  | 11 => some fn_law_mixed
  | 12 => some fn_law_draw
  | 13 => some fn_law_signs_so
  | 14 => some fn_lead
  | 15 => some fn_law_lead_so
  | 16 => some fn_signs
  | 17 => some fn_is_row
  | 18 => some fn_totals
  | 19 => some fn_law_some_row
  | 20 => some fn_differences_of
  | 21 => some fn_need_some
  | 22 => some fn_law_power
  | 23 => some fn_is_smooth
  | 24 => some fn_differences
  | 25 => some fn_law_same_truth
  | 26 => some fn_law_steps_so
  | 27 => some fn_law_smooth_worths
  | 28 => some fn_summed
  | 29 => some fn_sums_of
  | 30 => some fn_pairs_of
  | 31 => some fn_two_even
  | 32 => some fn_even_of
  | 33 => some fn_law_rest
  | 34 => some fn_law_put
  | 35 => some fn_law_order_of
  | 36 => some fn_law_even_row
  | 37 => some fn_law_moments_so
  | 38 => some fn_law_same_number
  | 39 => some fn_evenness
  | 40 => some fn_law_even_so
  | 41 => some fn_is_even
  | 42 => some fn_law_pairs
  | 43 => some fn_law_sums_so
  | 44 => some fn_sums
  | 45 => some fn_law_near_even
  | 46 => some fn_powers
  | 47 => some fn_moments_of
  | 48 => some fn_moments
  | 49 => some fn_amount_of
  | 50 => some fn_greatest_of
  | 51 => some fn_need_order
  | 52 => some fn_sign_of
  | 53 => some fn_law_bent_worths
  | 54 => some fn_worst
  | 55 => some fn_of_two
  | 56 => some fn_greatest
  | 57 => some fn_law_most_so
  | 58 => some fn_need_short
  | 59 => some fn_need_both
  | 60 => some fn_put_into
  | 61 => some fn_law_pick
  | 62 => some fn_joined
  | 63 => some fn_named
  | 64 => some fn_shared_rows
  | 65 => some fn_law_shared
  | 67 => some fn_exchange_of
  | 68 => some fn_are_places
  | 69 => some fn_mended_of
  | 70 => some fn_need_short__1
  | 71 => some fn_mended
  | 72 => some fn_mended_on
  | 73 => some fn_exchanged
  | 74 => some fn_law_best
  | 75 => some fn_all_rows
  | 77 => some fn_law_rows_all
  | 79 => some fn_need_count
  | 80 => some fn_go_on
  | 81 => some fn_need_reach
  | 82 => some fn_tails_of
  | 83 => some fn_foreseen_of
  | 84 => some fn_need_told
  | 85 => some fn_straight_on
  | 86 => some fn_law_tails
  | 87 => some fn_foreseen
  | 88 => some fn_law_met
  | 89 => some fn_most_of
  | 90 => some fn_calming
  | 91 => some fn_law_most_foreseen
  | 93 => some fn_law_two_so
  | 96 => some fn_law_counts_refused
  | 97 => some fn_law_told_refused
  | 102 => some fn_row_text
  | 106 => some fn_turned
  | 107 => some fn_added
  | 108 => some fn_sums__1
  | 109 => some fn_is_even__1
  | 110 => some fn_differences__1
  | 111 => some fn_is_smooth__1
  | 114 => some fn_law_degrees_refused
  | 901 => some fn_law01
  | 902 => some fn_law02
  | 903 => some fn_law03
  | 905 => some fn_law05
  | 906 => some fn_law06
  | 907 => some fn_law07
  | 908 => some fn_law08
  | 909 => some fn_law09
  | 911 => some fn_law11
  | 913 => some fn_law13
  | 914 => some fn_law14
  | 915 => some fn_law15
  | 916 => some fn_law16
  | 917 => some fn_law17
  | 919 => some fn_law19
  | 920 => some fn_law20
  | 921 => some fn_law21
  | _ => none
theorem c_is_whole {S : List Int} {n : Nat} {ds : List D} : callN tbl S (n + 1) 0 ds = runFn S (callN tbl S n) fn_is_whole ds := rfl
theorem c_good_row {S : List Int} {n : Nat} {ds : List D} : callN tbl S (n + 1) 1 ds = runFn S (callN tbl S n) fn_good_row ds := rfl
theorem c_need_hands {S : List Int} {n : Nat} {ds : List D} : callN tbl S (n + 1) 2 ds = runFn S (callN tbl S n) fn_need_hands ds := rfl
theorem c_need_row {S : List Int} {n : Nat} {ds : List D} : callN tbl S (n + 1) 3 ds = runFn S (callN tbl S n) fn_need_row ds := rfl
theorem c_signs_of {S : List Int} {n : Nat} {ds : List D} : callN tbl S (n + 1) 4 ds = runFn S (callN tbl S n) fn_signs_of ds := rfl
theorem c_need_two {S : List Int} {n : Nat} {ds : List D} : callN tbl S (n + 1) 5 ds = runFn S (callN tbl S n) fn_need_two ds := rfl
theorem c_is_any_whole {S : List Int} {n : Nat} {ds : List D} : callN tbl S (n + 1) 6 ds = runFn S (callN tbl S n) fn_is_any_whole ds := rfl
theorem c_are_worths {S : List Int} {n : Nat} {ds : List D} : callN tbl S (n + 1) 7 ds = runFn S (callN tbl S n) fn_are_worths ds := rfl
theorem c_totals_of {S : List Int} {n : Nat} {ds : List D} : callN tbl S (n + 1) 8 ds = runFn S (callN tbl S n) fn_totals_of ds := rfl
theorem c_need_worths {S : List Int} {n : Nat} {ds : List D} : callN tbl S (n + 1) 9 ds = runFn S (callN tbl S n) fn_need_worths ds := rfl
theorem c_law_cell_at {S : List Int} {n : Nat} {ds : List D} : callN tbl S (n + 1) 10 ds = runFn S (callN tbl S n) fn_law_cell_at ds := rfl
theorem c_law_mixed {S : List Int} {n : Nat} {ds : List D} : callN tbl S (n + 1) 11 ds = runFn S (callN tbl S n) fn_law_mixed ds := rfl
theorem c_law_draw {S : List Int} {n : Nat} {ds : List D} : callN tbl S (n + 1) 12 ds = runFn S (callN tbl S n) fn_law_draw ds := rfl
theorem c_law_signs_so {S : List Int} {n : Nat} {ds : List D} : callN tbl S (n + 1) 13 ds = runFn S (callN tbl S n) fn_law_signs_so ds := rfl
theorem c_lead {S : List Int} {n : Nat} {ds : List D} : callN tbl S (n + 1) 14 ds = runFn S (callN tbl S n) fn_lead ds := rfl
theorem c_law_lead_so {S : List Int} {n : Nat} {ds : List D} : callN tbl S (n + 1) 15 ds = runFn S (callN tbl S n) fn_law_lead_so ds := rfl
theorem c_signs {S : List Int} {n : Nat} {ds : List D} : callN tbl S (n + 1) 16 ds = runFn S (callN tbl S n) fn_signs ds := rfl
theorem c_is_row {S : List Int} {n : Nat} {ds : List D} : callN tbl S (n + 1) 17 ds = runFn S (callN tbl S n) fn_is_row ds := rfl
theorem c_totals {S : List Int} {n : Nat} {ds : List D} : callN tbl S (n + 1) 18 ds = runFn S (callN tbl S n) fn_totals ds := rfl
theorem c_law_some_row {S : List Int} {n : Nat} {ds : List D} : callN tbl S (n + 1) 19 ds = runFn S (callN tbl S n) fn_law_some_row ds := rfl
theorem c_differences_of {S : List Int} {n : Nat} {ds : List D} : callN tbl S (n + 1) 20 ds = runFn S (callN tbl S n) fn_differences_of ds := rfl
theorem c_need_some {S : List Int} {n : Nat} {ds : List D} : callN tbl S (n + 1) 21 ds = runFn S (callN tbl S n) fn_need_some ds := rfl
theorem c_law_power {S : List Int} {n : Nat} {ds : List D} : callN tbl S (n + 1) 22 ds = runFn S (callN tbl S n) fn_law_power ds := rfl
theorem c_is_smooth {S : List Int} {n : Nat} {ds : List D} : callN tbl S (n + 1) 23 ds = runFn S (callN tbl S n) fn_is_smooth ds := rfl
theorem c_differences {S : List Int} {n : Nat} {ds : List D} : callN tbl S (n + 1) 24 ds = runFn S (callN tbl S n) fn_differences ds := rfl
theorem c_law_same_truth {S : List Int} {n : Nat} {ds : List D} : callN tbl S (n + 1) 25 ds = runFn S (callN tbl S n) fn_law_same_truth ds := rfl
theorem c_law_steps_so {S : List Int} {n : Nat} {ds : List D} : callN tbl S (n + 1) 26 ds = runFn S (callN tbl S n) fn_law_steps_so ds := rfl
theorem c_law_smooth_worths {S : List Int} {n : Nat} {ds : List D} : callN tbl S (n + 1) 27 ds = runFn S (callN tbl S n) fn_law_smooth_worths ds := rfl
theorem c_summed {S : List Int} {n : Nat} {ds : List D} : callN tbl S (n + 1) 28 ds = runFn S (callN tbl S n) fn_summed ds := rfl
theorem c_sums_of {S : List Int} {n : Nat} {ds : List D} : callN tbl S (n + 1) 29 ds = runFn S (callN tbl S n) fn_sums_of ds := rfl
theorem c_pairs_of {S : List Int} {n : Nat} {ds : List D} : callN tbl S (n + 1) 30 ds = runFn S (callN tbl S n) fn_pairs_of ds := rfl
theorem c_two_even {S : List Int} {n : Nat} {ds : List D} : callN tbl S (n + 1) 31 ds = runFn S (callN tbl S n) fn_two_even ds := rfl
theorem c_even_of {S : List Int} {n : Nat} {ds : List D} : callN tbl S (n + 1) 32 ds = runFn S (callN tbl S n) fn_even_of ds := rfl
theorem c_law_rest {S : List Int} {n : Nat} {ds : List D} : callN tbl S (n + 1) 33 ds = runFn S (callN tbl S n) fn_law_rest ds := rfl
theorem c_law_put {S : List Int} {n : Nat} {ds : List D} : callN tbl S (n + 1) 34 ds = runFn S (callN tbl S n) fn_law_put ds := rfl
theorem c_law_order_of {S : List Int} {n : Nat} {ds : List D} : callN tbl S (n + 1) 35 ds = runFn S (callN tbl S n) fn_law_order_of ds := rfl
theorem c_law_even_row {S : List Int} {n : Nat} {ds : List D} : callN tbl S (n + 1) 36 ds = runFn S (callN tbl S n) fn_law_even_row ds := rfl
theorem c_law_moments_so {S : List Int} {n : Nat} {ds : List D} : callN tbl S (n + 1) 37 ds = runFn S (callN tbl S n) fn_law_moments_so ds := rfl
theorem c_law_same_number {S : List Int} {n : Nat} {ds : List D} : callN tbl S (n + 1) 38 ds = runFn S (callN tbl S n) fn_law_same_number ds := rfl
theorem c_evenness {S : List Int} {n : Nat} {ds : List D} : callN tbl S (n + 1) 39 ds = runFn S (callN tbl S n) fn_evenness ds := rfl
theorem c_law_even_so {S : List Int} {n : Nat} {ds : List D} : callN tbl S (n + 1) 40 ds = runFn S (callN tbl S n) fn_law_even_so ds := rfl
theorem c_is_even {S : List Int} {n : Nat} {ds : List D} : callN tbl S (n + 1) 41 ds = runFn S (callN tbl S n) fn_is_even ds := rfl
theorem c_law_pairs {S : List Int} {n : Nat} {ds : List D} : callN tbl S (n + 1) 42 ds = runFn S (callN tbl S n) fn_law_pairs ds := rfl
theorem c_law_sums_so {S : List Int} {n : Nat} {ds : List D} : callN tbl S (n + 1) 43 ds = runFn S (callN tbl S n) fn_law_sums_so ds := rfl
theorem c_sums {S : List Int} {n : Nat} {ds : List D} : callN tbl S (n + 1) 44 ds = runFn S (callN tbl S n) fn_sums ds := rfl
theorem c_law_near_even {S : List Int} {n : Nat} {ds : List D} : callN tbl S (n + 1) 45 ds = runFn S (callN tbl S n) fn_law_near_even ds := rfl
theorem c_powers {S : List Int} {n : Nat} {ds : List D} : callN tbl S (n + 1) 46 ds = runFn S (callN tbl S n) fn_powers ds := rfl
theorem c_moments_of {S : List Int} {n : Nat} {ds : List D} : callN tbl S (n + 1) 47 ds = runFn S (callN tbl S n) fn_moments_of ds := rfl
theorem c_moments {S : List Int} {n : Nat} {ds : List D} : callN tbl S (n + 1) 48 ds = runFn S (callN tbl S n) fn_moments ds := rfl
theorem c_amount_of {S : List Int} {n : Nat} {ds : List D} : callN tbl S (n + 1) 49 ds = runFn S (callN tbl S n) fn_amount_of ds := rfl
theorem c_greatest_of {S : List Int} {n : Nat} {ds : List D} : callN tbl S (n + 1) 50 ds = runFn S (callN tbl S n) fn_greatest_of ds := rfl
theorem c_need_order {S : List Int} {n : Nat} {ds : List D} : callN tbl S (n + 1) 51 ds = runFn S (callN tbl S n) fn_need_order ds := rfl
theorem c_sign_of {S : List Int} {n : Nat} {ds : List D} : callN tbl S (n + 1) 52 ds = runFn S (callN tbl S n) fn_sign_of ds := rfl
theorem c_law_bent_worths {S : List Int} {n : Nat} {ds : List D} : callN tbl S (n + 1) 53 ds = runFn S (callN tbl S n) fn_law_bent_worths ds := rfl
theorem c_worst {S : List Int} {n : Nat} {ds : List D} : callN tbl S (n + 1) 54 ds = runFn S (callN tbl S n) fn_worst ds := rfl
theorem c_of_two {S : List Int} {n : Nat} {ds : List D} : callN tbl S (n + 1) 55 ds = runFn S (callN tbl S n) fn_of_two ds := rfl
theorem c_greatest {S : List Int} {n : Nat} {ds : List D} : callN tbl S (n + 1) 56 ds = runFn S (callN tbl S n) fn_greatest ds := rfl
theorem c_law_most_so {S : List Int} {n : Nat} {ds : List D} : callN tbl S (n + 1) 57 ds = runFn S (callN tbl S n) fn_law_most_so ds := rfl
theorem c_need_short {S : List Int} {n : Nat} {ds : List D} : callN tbl S (n + 1) 58 ds = runFn S (callN tbl S n) fn_need_short ds := rfl
theorem c_need_both {S : List Int} {n : Nat} {ds : List D} : callN tbl S (n + 1) 59 ds = runFn S (callN tbl S n) fn_need_both ds := rfl
theorem c_put_into {S : List Int} {n : Nat} {ds : List D} : callN tbl S (n + 1) 60 ds = runFn S (callN tbl S n) fn_put_into ds := rfl
theorem c_law_pick {S : List Int} {n : Nat} {ds : List D} : callN tbl S (n + 1) 61 ds = runFn S (callN tbl S n) fn_law_pick ds := rfl
theorem c_joined {S : List Int} {n : Nat} {ds : List D} : callN tbl S (n + 1) 62 ds = runFn S (callN tbl S n) fn_joined ds := rfl
theorem c_named {S : List Int} {n : Nat} {ds : List D} : callN tbl S (n + 1) 63 ds = runFn S (callN tbl S n) fn_named ds := rfl
theorem c_shared_rows {S : List Int} {n : Nat} {ds : List D} : callN tbl S (n + 1) 64 ds = runFn S (callN tbl S n) fn_shared_rows ds := rfl
theorem c_law_shared {S : List Int} {n : Nat} {ds : List D} : callN tbl S (n + 1) 65 ds = runFn S (callN tbl S n) fn_law_shared ds := rfl
theorem c_exchange_of {S : List Int} {n : Nat} {ds : List D} : callN tbl S (n + 1) 67 ds = runFn S (callN tbl S n) fn_exchange_of ds := rfl
theorem c_are_places {S : List Int} {n : Nat} {ds : List D} : callN tbl S (n + 1) 68 ds = runFn S (callN tbl S n) fn_are_places ds := rfl
theorem c_mended_of {S : List Int} {n : Nat} {ds : List D} : callN tbl S (n + 1) 69 ds = runFn S (callN tbl S n) fn_mended_of ds := rfl
theorem c_need_short__1 {S : List Int} {n : Nat} {ds : List D} : callN tbl S (n + 1) 70 ds = runFn S (callN tbl S n) fn_need_short__1 ds := rfl
theorem c_mended {S : List Int} {n : Nat} {ds : List D} : callN tbl S (n + 1) 71 ds = runFn S (callN tbl S n) fn_mended ds := rfl
theorem c_mended_on {S : List Int} {n : Nat} {ds : List D} : callN tbl S (n + 1) 72 ds = runFn S (callN tbl S n) fn_mended_on ds := rfl
theorem c_exchanged {S : List Int} {n : Nat} {ds : List D} : callN tbl S (n + 1) 73 ds = runFn S (callN tbl S n) fn_exchanged ds := rfl
theorem c_law_best {S : List Int} {n : Nat} {ds : List D} : callN tbl S (n + 1) 74 ds = runFn S (callN tbl S n) fn_law_best ds := rfl
theorem c_all_rows {S : List Int} {n : Nat} {ds : List D} : callN tbl S (n + 1) 75 ds = runFn S (callN tbl S n) fn_all_rows ds := rfl
theorem c_law_rows_all {S : List Int} {n : Nat} {ds : List D} : callN tbl S (n + 1) 77 ds = runFn S (callN tbl S n) fn_law_rows_all ds := rfl
theorem c_need_count {S : List Int} {n : Nat} {ds : List D} : callN tbl S (n + 1) 79 ds = runFn S (callN tbl S n) fn_need_count ds := rfl
theorem c_go_on {S : List Int} {n : Nat} {ds : List D} : callN tbl S (n + 1) 80 ds = runFn S (callN tbl S n) fn_go_on ds := rfl
theorem c_need_reach {S : List Int} {n : Nat} {ds : List D} : callN tbl S (n + 1) 81 ds = runFn S (callN tbl S n) fn_need_reach ds := rfl
theorem c_tails_of {S : List Int} {n : Nat} {ds : List D} : callN tbl S (n + 1) 82 ds = runFn S (callN tbl S n) fn_tails_of ds := rfl
theorem c_foreseen_of {S : List Int} {n : Nat} {ds : List D} : callN tbl S (n + 1) 83 ds = runFn S (callN tbl S n) fn_foreseen_of ds := rfl
theorem c_need_told {S : List Int} {n : Nat} {ds : List D} : callN tbl S (n + 1) 84 ds = runFn S (callN tbl S n) fn_need_told ds := rfl
theorem c_straight_on {S : List Int} {n : Nat} {ds : List D} : callN tbl S (n + 1) 85 ds = runFn S (callN tbl S n) fn_straight_on ds := rfl
theorem c_law_tails {S : List Int} {n : Nat} {ds : List D} : callN tbl S (n + 1) 86 ds = runFn S (callN tbl S n) fn_law_tails ds := rfl
theorem c_foreseen {S : List Int} {n : Nat} {ds : List D} : callN tbl S (n + 1) 87 ds = runFn S (callN tbl S n) fn_foreseen ds := rfl
theorem c_law_met {S : List Int} {n : Nat} {ds : List D} : callN tbl S (n + 1) 88 ds = runFn S (callN tbl S n) fn_law_met ds := rfl
theorem c_most_of {S : List Int} {n : Nat} {ds : List D} : callN tbl S (n + 1) 89 ds = runFn S (callN tbl S n) fn_most_of ds := rfl
theorem c_calming {S : List Int} {n : Nat} {ds : List D} : callN tbl S (n + 1) 90 ds = runFn S (callN tbl S n) fn_calming ds := rfl
theorem c_law_most_foreseen {S : List Int} {n : Nat} {ds : List D} : callN tbl S (n + 1) 91 ds = runFn S (callN tbl S n) fn_law_most_foreseen ds := rfl
theorem c_law_two_so {S : List Int} {n : Nat} {ds : List D} : callN tbl S (n + 1) 93 ds = runFn S (callN tbl S n) fn_law_two_so ds := rfl
theorem c_law_counts_refused {S : List Int} {n : Nat} {ds : List D} : callN tbl S (n + 1) 96 ds = runFn S (callN tbl S n) fn_law_counts_refused ds := rfl
theorem c_law_told_refused {S : List Int} {n : Nat} {ds : List D} : callN tbl S (n + 1) 97 ds = runFn S (callN tbl S n) fn_law_told_refused ds := rfl
theorem c_row_text {S : List Int} {n : Nat} {ds : List D} : callN tbl S (n + 1) 102 ds = runFn S (callN tbl S n) fn_row_text ds := rfl
theorem c_turned {S : List Int} {n : Nat} {ds : List D} : callN tbl S (n + 1) 106 ds = runFn S (callN tbl S n) fn_turned ds := rfl
theorem c_added {S : List Int} {n : Nat} {ds : List D} : callN tbl S (n + 1) 107 ds = runFn S (callN tbl S n) fn_added ds := rfl
theorem c_sums__1 {S : List Int} {n : Nat} {ds : List D} : callN tbl S (n + 1) 108 ds = runFn S (callN tbl S n) fn_sums__1 ds := rfl
theorem c_is_even__1 {S : List Int} {n : Nat} {ds : List D} : callN tbl S (n + 1) 109 ds = runFn S (callN tbl S n) fn_is_even__1 ds := rfl
theorem c_differences__1 {S : List Int} {n : Nat} {ds : List D} : callN tbl S (n + 1) 110 ds = runFn S (callN tbl S n) fn_differences__1 ds := rfl
theorem c_is_smooth__1 {S : List Int} {n : Nat} {ds : List D} : callN tbl S (n + 1) 111 ds = runFn S (callN tbl S n) fn_is_smooth__1 ds := rfl
theorem c_law_degrees_refused {S : List Int} {n : Nat} {ds : List D} : callN tbl S (n + 1) 114 ds = runFn S (callN tbl S n) fn_law_degrees_refused ds := rfl
theorem c_law01 {S : List Int} {n : Nat} {ds : List D} : callN tbl S (n + 1) 901 ds = runFn S (callN tbl S n) fn_law01 ds := rfl
theorem c_law02 {S : List Int} {n : Nat} {ds : List D} : callN tbl S (n + 1) 902 ds = runFn S (callN tbl S n) fn_law02 ds := rfl
theorem c_law03 {S : List Int} {n : Nat} {ds : List D} : callN tbl S (n + 1) 903 ds = runFn S (callN tbl S n) fn_law03 ds := rfl
theorem c_law05 {S : List Int} {n : Nat} {ds : List D} : callN tbl S (n + 1) 905 ds = runFn S (callN tbl S n) fn_law05 ds := rfl
theorem c_law06 {S : List Int} {n : Nat} {ds : List D} : callN tbl S (n + 1) 906 ds = runFn S (callN tbl S n) fn_law06 ds := rfl
theorem c_law07 {S : List Int} {n : Nat} {ds : List D} : callN tbl S (n + 1) 907 ds = runFn S (callN tbl S n) fn_law07 ds := rfl
theorem c_law08 {S : List Int} {n : Nat} {ds : List D} : callN tbl S (n + 1) 908 ds = runFn S (callN tbl S n) fn_law08 ds := rfl
theorem c_law09 {S : List Int} {n : Nat} {ds : List D} : callN tbl S (n + 1) 909 ds = runFn S (callN tbl S n) fn_law09 ds := rfl
theorem c_law11 {S : List Int} {n : Nat} {ds : List D} : callN tbl S (n + 1) 911 ds = runFn S (callN tbl S n) fn_law11 ds := rfl
theorem c_law13 {S : List Int} {n : Nat} {ds : List D} : callN tbl S (n + 1) 913 ds = runFn S (callN tbl S n) fn_law13 ds := rfl
theorem c_law14 {S : List Int} {n : Nat} {ds : List D} : callN tbl S (n + 1) 914 ds = runFn S (callN tbl S n) fn_law14 ds := rfl
theorem c_law15 {S : List Int} {n : Nat} {ds : List D} : callN tbl S (n + 1) 915 ds = runFn S (callN tbl S n) fn_law15 ds := rfl
theorem c_law16 {S : List Int} {n : Nat} {ds : List D} : callN tbl S (n + 1) 916 ds = runFn S (callN tbl S n) fn_law16 ds := rfl
theorem c_law17 {S : List Int} {n : Nat} {ds : List D} : callN tbl S (n + 1) 917 ds = runFn S (callN tbl S n) fn_law17 ds := rfl
theorem c_law19 {S : List Int} {n : Nat} {ds : List D} : callN tbl S (n + 1) 919 ds = runFn S (callN tbl S n) fn_law19 ds := rfl
theorem c_law20 {S : List Int} {n : Nat} {ds : List D} : callN tbl S (n + 1) 920 ds = runFn S (callN tbl S n) fn_law20 ds := rfl
theorem c_law21 {S : List Int} {n : Nat} {ds : List D} : callN tbl S (n + 1) 921 ds = runFn S (callN tbl S n) fn_law21 ds := rfl
end Ev

set_option Elab.async false
set_option linter.all false
set_option maxRecDepth 100000
set_option maxHeartbeats 0
namespace Ev
theorem opt_some {α : Type} {a : α} : M.opt (some a) = pure a := rfl
theorem no_bind {α β : Type} {f : α → M β} : ((M.no : M α) >>= f) = M.no := rfl
theorem run_bind {α β : Type} {x : M α} {f : α → M β} {a : α} {μ μ1 : Mu} (h : x μ = .ok a μ1) : (x >>= f) μ = f a μ1 := by
  show M.bnd x f μ = _
  unfold M.bnd
  rw [h]
theorem pure_run {α : Type} {a : α} {μ : Mu} : (pure a : M α) μ = .ok a μ := rfl
section
variable {b : Bool} {i : Int} {s : PySem.Str} {ds : List D} {k : Nat}
theorem sc_non : D.sc .non = true := rfl
theorem sc_bl : D.sc (.bl b) = true := rfl
theorem sc_int : D.sc (.int i) = true := rfl
theorem sc_str : D.sc (.str s) = true := rfl
theorem sc_tup : D.sc (.tup ds) = false := rfl
theorem sc_lst : D.sc (.lst ds) = false := rfl
theorem sc_scr : D.sc .scr = false := rfl
theorem sc_mref : D.sc (.mref k) = false := rfl
theorem flat_lst : D.flat (.lst ds) = ds.all D.sc := rfl
theorem flat_tup : D.flat (.tup ds) = false := rfl
theorem flat_int : D.flat (.int i) = true := rfl
theorem flat_bl : D.flat (.bl b) = true := rfl
theorem flat_non : D.flat .non = true := rfl
theorem flat_mref : D.flat (.mref k) = false := rfl
theorem flat_scr : D.flat .scr = false := rfl
theorem isL_lst : D.isL (.lst ds) = true := rfl
theorem isL_tup : D.isL (.tup ds) = false := rfl
theorem isL_int : D.isL (.int i) = false := rfl
theorem isL_bl : D.isL (.bl b) = false := rfl
theorem isL_non : D.isL .non = false := rfl
theorem isL_scr : D.isL .scr = false := rfl
theorem isL_mref : D.isL (.mref k) = false := rfl
theorem isL_str : D.isL (.str s) = false := rfl
end
theorem sc_ints (l : List Int) : (l.map D.int).all D.sc = true := by
  induction l with
  | nil => rfl
  | cons x l ih => rw [List.map_cons, List.all_cons, ih]; rfl
theorem sc_map {α : Type} (f : α → Int) (l : List α) : (l.map fun x => D.int (f x)).all D.sc = true := by
  induction l with
  | nil => rfl
  | cons x l ih => rw [List.map_cons, List.all_cons, ih]; rfl
theorem opt_if {α : Type} {c : Prop} [Decidable c] {a : α} (h : c) : M.opt (if c then some a else none) = pure a := by rw [if_pos h]; rfl
/-! ### comprehensions and loops -/
theorem compM_pure {f : D → M (Option D)} (g : D → Option D) : ∀ {ds : List D}, (∀ d ∈ ds, f d = pure (g d)) → compM f ds = pure (ds.filterMap g)
  | [], _ => rfl
  | d :: ds, h => by
    unfold compM
    rw [h d (by simp), compM_pure g fun x hx => h x (List.mem_cons_of_mem _ hx)]
    simp only [pure_bind, List.filterMap_cons]
    cases g d <;> rfl
theorem compM_map {f : D → M (Option D)} (g : D → D) {ds : List D} (h : ∀ d ∈ ds, f d = pure (some (g d))) : compM f ds = pure (ds.map g) := by
  rw [compM_pure (fun d => some (g d)) h]
  congr 1
  induction ds with
  | nil => rfl
  | cons d ds ih => rw [List.filterMap_cons, List.map_cons, ih fun x hx => h x (List.mem_cons_of_mem _ hx)]
theorem compM_maps {α : Type} {f : D → M (Option D)} (u : α → D) (g : α → D) {xs : List α} (h : ∀ x ∈ xs, f (u x) = pure (some (g x))) : compM f (xs.map u) = pure (xs.map g) := by
  induction xs with
  | nil => rfl
  | cons x xs ih =>
    rw [List.map_cons, List.map_cons]
    unfold compM
    rw [h x (by simp), ih fun y hy => h y (List.mem_cons_of_mem _ hy)]
    rfl
theorem compM_filt {α : Type} {f : D → M (Option D)} (u : α → D) (g : α → Option D) {xs : List α} (h : ∀ x ∈ xs, f (u x) = pure (g x)) : compM f (xs.map u) = pure (xs.filterMap g) := by
  induction xs with
  | nil => rfl
  | cons x xs ih =>
    rw [List.map_cons, List.filterMap_cons]
    unfold compM
    rw [h x (by simp), ih fun y hy => h y (List.mem_cons_of_mem _ hy)]
    simp only [pure_bind]
    cases g x <;> rfl
/-- with a state -/
theorem compM_run {f : D → M (Option D)} (g : Nat → D) (m : Nat → Mu) : ∀ {ds : List D} (k : Nat), (∀ i d, ds[i]? = some d → f d (m (k + i)) = .ok (some (g (k + i))) (m (k + i + 1))) → compM f ds (m k) = .ok ((List.range ds.length).map fun i => g (k + i)) (m (k + ds.length))
  | [], k, _ => rfl
  | d :: ds, k, h => by
    unfold compM
    have h0 : f d (m k) = .ok (some (g k)) (m (k + 1)) := h 0 d rfl
    rw [run_bind h0, run_bind (compM_run g m (k + 1) fun i x hx => by
      have := h (i + 1) x (by simpa using hx)
      rw [show k + (i + 1) = k + 1 + i by omega] at this
      exact this)]
    rw [List.length_cons, List.range_succ_eq_map, List.map_cons, List.map_map, show k + (ds.length + 1) = k + 1 + ds.length by omega]
    show R.ok (g k :: _) _ = R.ok (g k :: _) _
    congr 3
    funext i
    show g (k + 1 + i) = g (k + (i + 1))
    congr 1
    omega
theorem forM_run {step : D → Env → M (Fl × Env)} (J : Nat → Env → Mu → Prop) : ∀ {ds : List D} {k : Nat} {ρ : Env} {μ : Mu}, J k ρ μ → (∀ i d ρ μ, ds[i]? = some d → J (k + i) ρ μ → ∃ ρ' μ', (step d ρ μ = .ok (.next, ρ') μ' ∨ step d ρ μ = .ok (.cont, ρ') μ') ∧ J (k + i + 1) ρ' μ') →
    ∃ ρ' μ', forM step ds ρ μ = .ok (.next, ρ') μ' ∧ J (k + ds.length) ρ' μ'
  | [], k, ρ, μ, j, _ => ⟨ρ, μ, rfl, j⟩
  | d :: ds, k, ρ, μ, j, h => by
    obtain ⟨ρ1, μ1, e, j1⟩ := h 0 d ρ μ rfl j
    obtain ⟨ρ2, μ2, e2, j2⟩ := forM_run (ds := ds) J (k := k + 1) j1 fun i x ρ μ hx hj => by
      have := h (i + 1) x ρ μ (by simpa using hx) (by rw [show k + (i + 1) = k + 1 + i by omega]; exact hj)
      rw [show k + (i + 1) + 1 = k + 1 + i + 1 by omega] at this
      exact this
    refine ⟨ρ2, μ2, ?_, by rw [List.length_cons, show k + (ds.length + 1) = k + 1 + ds.length by omega]; exact j2⟩
    unfold forM
    rcases e with e | e
    · rw [run_bind e]; exact e2
    · rw [run_bind e]; exact e2
/-- a loop that keeps no state but the environment's -/
theorem forM_fold {α : Type} {step : D → Env → M (Fl × Env)} (u : α → D) (ρ : List α → Env) : ∀ {xs done : List α}, (∀ p x r, done ++ xs = p ++ x :: r → step (u x) (ρ p) = pure (.next, ρ (p ++ [x]))) → forM step (xs.map u) (ρ done) = pure (.next, ρ (done ++ xs))
  | [], done, _ => by rw [List.append_nil]; rfl
  | x :: xs, done, h => by
    rw [List.map_cons]
    unfold forM
    rw [h done x xs rfl]
    have := forM_fold (xs := xs) (done := done ++ [x]) u ρ fun p y r e => h p y r (by rw [← e]; simp)
    rw [List.append_assoc] at this
    exact this
theorem forM_next {α : Type} {step : D → Env → M (Fl × Env)} (u : α → D) (ρ : List α → Env) {xs : List α} (h : ∀ p x r, xs = p ++ x :: r → step (u x) (ρ p) = pure (.next, ρ (p ++ [x]))) : forM step (xs.map u) (ρ []) = pure (.next, ρ xs) :=
  forM_fold (done := []) u ρ h
/-! ### statements, run -/
section
variable {S : List Int} {c : Nat → List D → M D} {ρ ρ1 : Env} {μ μ1 μ2 : Mu} {ss sa sb : ISs} {s : IS} {e : IE} {d : D} {i : Nat}
theorem seqR (h : evS S c s ρ μ = .ok (.next, ρ1) μ1) : evSs S c (.cons s ss) ρ μ = evSs S c ss ρ1 μ1 := by
  rw [evSs, run_bind h]
theorem setR (h : evE S c e ρ μ = .ok d μ1) : evSs S c (.cons (.assign i e) ss) ρ μ = evSs S c ss (bindTo ρ i e d) μ1 := by
  refine seqR ?_
  rw [evS, run_bind h]
  rfl
theorem exprR (h : evE S c e ρ μ = .ok d μ1) : evSs S c (.cons (.expr e) ss) ρ μ = evSs S c ss ρ μ1 := by
  refine seqR ?_
  rw [evS, run_bind h]
  rfl
theorem retR (h : evE S c e ρ μ = .ok d μ1) : evSs S c (.cons (.ret e) ss) ρ μ = .ok (.ret d, ρ) μ1 := by
  have : evS S c (.ret e) ρ μ = .ok (.ret d, ρ) μ1 := by
    rw [evS, run_bind h]
    rfl
  rw [evSs, run_bind this]
  rfl
theorem ifF (h : evE S c e ρ μ = .ok (.bl false) μ1) (h2 : evSs S c sb ρ μ1 = .ok (.next, ρ1) μ2) : evSs S c (.cons (.ite e sa sb) ss) ρ μ = evSs S c ss ρ1 μ2 := by
  refine seqR ?_
  rw [evS, run_bind h]
  exact h2
theorem ifN (h : evE S c e ρ μ = .ok (.bl false) μ1) : evSs S c (.cons (.ite e sa .nil) ss) ρ μ = evSs S c ss ρ μ1 := ifF h (by rw [evSs]; rfl)
theorem ifT (h : evE S c e ρ μ = .ok (.bl true) μ1) (h2 : evSs S c sa ρ μ1 = .ok (.next, ρ1) μ2) : evSs S c (.cons (.ite e sa sb) ss) ρ μ = evSs S c ss ρ1 μ2 := by
  refine seqR ?_
  rw [evS, run_bind h]
  exact h2
theorem ifRet (h : evE S c e ρ μ = .ok (.bl true) μ1) (h2 : evSs S c sa ρ μ1 = .ok (.ret d, ρ1) μ2) : evSs S c (.cons (.ite e sa sb) ss) ρ μ = .ok (.ret d, ρ1) μ2 := by
  have : evS S c (.ite e sa sb) ρ μ = .ok (.ret d, ρ1) μ2 := by
    rw [evS, run_bind h]
    exact h2
  rw [evSs, run_bind this]
  rfl
theorem nilR : evSs S c .nil ρ μ = .ok (.next, ρ) μ := by rw [evSs]; rfl
theorem runR {fn : Fn} {ds : List D} (hl : ds.length = fn.params) (h : evSs S c fn.body (startE fn.slots ds) μ = .ok (.ret d, ρ1) μ1) : runFn S c fn ds μ = .ok d μ1 := by
  unfold runFn
  rw [if_pos hl, run_bind h]
  rfl
theorem forR {tg : Tg} {it : IT} {body : ISs} {ds : List D} (J : Nat → Env → Mu → Prop) (h : evT S c it ρ μ = .ok ds μ1) (h0 : J 0 (thaw ρ (lostT it ds)) μ1)
    (hs : ∀ i d ρ μ, ds[i]? = some d → J i ρ μ → ∃ ρ1 ρ' μ', tgPut ρ tg d = some ρ1 ∧ (evSs S c body ρ1 μ = .ok (.next, ρ') μ' ∨ evSs S c body ρ1 μ = .ok (.cont, ρ') μ') ∧ J (i + 1) ρ' μ') :
    ∃ ρ' μ', evSs S c (.cons (.for_ tg it body) ss) ρ μ = evSs S c ss ρ' μ' ∧ J ds.length ρ' μ' := by
  obtain ⟨ρ', μ', e1, e2⟩ := forM_run (step := fun d ρ => M.opt (tgPut ρ tg d) >>= fun ρ1 => evSs S c body ρ1) J (ds := ds) (k := 0) h0 fun i d ρ μ hd hj => by
    rw [Nat.zero_add] at hj ⊢
    obtain ⟨ρ1, ρ', μ', h1, h2, h3⟩ := hs i d ρ μ hd hj
    refine ⟨ρ', μ', ?_, h3⟩
    rw [h1, opt_some, pure_bind]
    exact h2
  rw [Nat.zero_add] at e2
  refine ⟨ρ', μ', seqR ?_, e2⟩
  rw [evS, run_bind h]
  exact e1
end
section
variable {S : List Int} {xs : List D} {i : Int} {b : Bool}
theorem q1_lenL : b1M S .len (.lst xs) = pure (.int xs.length) := rfl
theorem q1_lenT : b1M S .len (.tup xs) = pure (.int xs.length) := rfl
theorem q1_lenS : b1M S .len .scr = pure (.int S.length) := rfl
theorem q1_sumL : b1M S .sum (.lst xs) = M.opt ((intsOf xs).map fun is => .int is.sum) := rfl
theorem q1_sumT : b1M S .sum (.tup xs) = M.opt ((intsOf xs).map fun is => .int is.sum) := rfl
theorem q1_abs : b1M S .abs (.int i) = pure (.int (if i < 0 then -i else i)) := rfl
theorem q1_listL : b1M S .list (.lst xs) = pure (.lst xs) := rfl
theorem q1_listT : b1M S .list (.tup xs) = pure (.lst xs) := rfl
theorem q1_tupleL : b1M S .tuple (.lst xs) = pure (.tup xs) := rfl
theorem q1_tupleT : b1M S .tuple (.tup xs) = pure (.tup xs) := rfl
theorem q1_intI : b1M S .int (.int i) = pure (.int i) := rfl
theorem q1_intB : b1M S .int (.bl b) = pure (.int (if b then 1 else 0)) := rfl
theorem q1_all : b1M S .all (.lst xs) = M.opt ((blsOf xs).map fun bs => .bl (bs.all id)) := rfl
theorem q1_min : b1M S .min (.lst xs) = M.opt ((intsOf xs).bind fun is => (minI is).map .int) := rfl
theorem q1_max : b1M S .max (.lst xs) = M.opt ((intsOf xs).bind fun is => (maxI is).map .int) := rfl
end
section
variable {S : List Int} {c : Nat → List D → M D} {ρ : Env} {a b e lo' : IE} {es : IEs} {i : Int} {s x : PySem.Str} {k f : Nat} {d : D} {o o' : BOp}
theorem v_non  : evE S c .non ρ = pure .non := by rw [evE] <;> rfl
theorem v_bl {b : Bool} : evE S c (.bl b) ρ = pure (.bl b) := by rw [evE] <;> rfl
theorem v_int  : evE S c (.int i) ρ = pure (.int i) := by rw [evE] <;> rfl
theorem v_str  : evE S c (.str s) ρ = pure (.str s) := by rw [evE] <;> rfl
theorem v_var  : evE S c (.var k) ρ = M.opt (look ρ k) := by rw [evE] <;> rfl
theorem v_glob  : evE S c (.glob x d) ρ = pure d := by rw [evE] <;> rfl
theorem v_bin  : evE S c (.bin o a b) ρ = evE S c a ρ >>= fun x => evE S c b ρ >>= fun y => M.opt (binD o x y) := by rw [evE] <;> rfl
theorem v_neg  : evE S c (.neg a) ρ = evE S c a ρ >>= fun x => M.opt (negD x) := by rw [evE] <;> rfl
theorem v_not  : evE S c (.not a) ρ = evE S c a ρ >>= fun x => M.opt (truth x) >>= fun b => pure (.bl (!b)) := by rw [evE] <;> rfl
theorem v_cmp {o : COp} : evE S c (.cmp o a b) ρ = evE S c a ρ >>= fun x => evE S c b ρ >>= fun y => M.opt (cmpD S o x y) := by rw [evE] <;> rfl
theorem v_chain {o o' : COp} : evE S c (.chain o o' a b e) ρ = evE S c a ρ >>= fun x => evE S c b ρ >>= fun y => M.opt (cmpD S o x y) >>= fun t => M.opt (truth t) >>= fun k => if k = true then evE S c e ρ >>= fun z => M.opt (cmpD S o' y z) else pure (.bl false) := by rw [evE] <;> rfl
theorem v_isC {n : Bool} {k : IsC} : evE S c (.isC n k a) ρ = evE S c a ρ >>= fun x => M.opt (isD n k x) := by rw [evE] <;> rfl
theorem v_andL  : evE S c (.andL es) ρ = evAnd S c es ρ := by rw [evE] <;> rfl
theorem v_orL  : evE S c (.orL es) ρ = evOr S c es ρ := by rw [evE] <;> rfl
theorem v_ite  : evE S c (.ite e a b) ρ = evE S c e ρ >>= fun x => M.opt (truth x) >>= fun k => if k = true then evE S c a ρ else evE S c b ρ := by rw [evE] <;> rfl
theorem v_tup  : evE S c (.tup es) ρ = evEs S c es ρ >>= fun ds => if ds.length ≤ 1000 then pure (.tup ds) else M.no := by rw [evE] <;> rfl
theorem v_lst  : evE S c (.lst es) ρ = evEs S c es ρ >>= fun ds => if ds.length ≤ 1000 then pure (.lst ds) else M.no := by rw [evE] <;> rfl
theorem v_idx  : evE S c (.idx a b) ρ = evE S c a ρ >>= fun x => evE S c b ρ >>= fun y => M.opt (idxD S x y) := by rw [evE] <;> rfl
theorem v_slice {lo hi : IO} : evE S c (.slice a lo hi) ρ = evE S c a ρ >>= fun x => evO S c lo ρ >>= fun l => M.opt (optI l) >>= fun l => evO S c hi ρ >>= fun h => M.opt (optI h) >>= fun h => M.opt (sliceD x l h) := by rw [evE] <;> rfl
theorem v_rev  : evE S c (.rev a) ρ = evE S c a ρ >>= fun x => M.opt (revD x) := by rw [evE] <;> rfl
theorem v_call  : evE S c (.call f es) ρ = evEs S c es ρ >>= fun ds => c f ds := by rw [evE] <;> rfl
theorem v_callD  : evE S c (.callD f es d) ρ = evEs S c es ρ >>= fun ds => c f (ds ++ [d]) := by rw [evE] <;> rfl
theorem v_callK  : evE S c (.callK f es x e) ρ = evEs S c es ρ >>= fun ds => evE S c e ρ >>= fun d => c f (ds ++ [d]) := by rw [evE] <;> rfl
theorem v_b1 {q : B1} : evE S c (.b1 q a) ρ = evE S c a ρ >>= fun x => b1M S q x := by rw [evE] <;> rfl
theorem v_mm {m : Bool} : evE S c (.mm m a b) ρ = evE S c a ρ >>= fun x => evE S c b ρ >>= fun y => M.opt (match x, y with | .int i, .int j => some (.int (if m then (if j > i then j else i) else (if j < i then j else i))) | _, _ => none) := by rw [evE] <;> rfl
theorem v_isi {t : Ty} : evE S c (.isi t a) ρ = evE S c a ρ >>= fun x => M.opt ((tyD x t).map .bl) := by rw [evE] <;> rfl
theorem v_lrange  : evE S c (.lrange a) ρ = evE S c a ρ >>= fun x => M.opt (match x with | .int i => if 0 ≤ i ∧ i ≤ 1000 then some (.lst (rngD 0 i)) else none | _ => none) := by rw [evE] <;> rfl
theorem v_dget  : evE S c (.dget es a b) ρ = evPs S c es ρ >>= fun kvs => evE S c a ρ >>= fun x => evE S c b ρ >>= fun y => M.opt (dgetD kvs x y) := by rw [evE] <;> rfl
theorem v_didx  : evE S c (.didx es a) ρ = evPs S c es ρ >>= fun kvs => evE S c a ρ >>= fun x => M.opt (didxD kvs x) := by rw [evE] <;> rfl
theorem w_assign  : evS S c (.assign k e) ρ = evE S c e ρ >>= fun d => pure (.next, bindTo ρ k e d) := by rw [evS] <;> rfl
theorem w_par  : evS S c (.par k f a b) ρ = evE S c a ρ >>= fun x => evE S c b ρ >>= fun y => pure (.next, bindTo (bindTo ρ f b y) k a x) := by rw [evS] <;> rfl
theorem w_unpack {is : List Nat} : evS S c (.unpack is e) ρ = evE S c e ρ >>= fun d => M.opt (tgPut (thaw ρ (lost e d)) (.many is) d) >>= fun ρ1 => pure (.next, ρ1) := by rw [evS] <;> rfl
theorem w_append  : evS S c (.append k e) ρ = evE S c e ρ >>= fun d => appTo ρ k e d >>= fun ρ1 => pure (.next, ρ1) := by rw [evS] <;> rfl
theorem w_expr  : evS S c (.expr e) ρ = evE S c e ρ >>= fun _ => pure (.next, ρ) := by rw [evS] <;> rfl
theorem w_ite {sa sb : ISs} : evS S c (.ite e sa sb) ρ = evE S c e ρ >>= fun x => M.opt (truth x) >>= fun k => if k = true then evSs S c sa ρ else evSs S c sb ρ := by rw [evS] <;> rfl
theorem w_ret  : evS S c (.ret e) ρ = evE S c e ρ >>= fun d => pure (.ret d, ρ) := by rw [evS] <;> rfl
theorem w_cont  : evS S c .cont ρ = pure (.cont, ρ) := by rw [evS] <;> rfl
theorem w_raise  : evS S c (.raise k) ρ = M.err k := by rw [evS] <;> rfl
theorem w_aug  : evS S c (.aug k e) ρ = M.opt (look ρ k) >>= fun x => evE S c e ρ >>= fun y => M.opt (match x, y with | .int a, .int b => some (Fl.next, ρ.set k (some (false, .int (a + b)))) | _, _ => none) := by rw [evS] <;> rfl
theorem w_augIdx  : evS S c (.augIdx k a e) ρ = evE S c a ρ >>= fun j => M.opt (ownL ρ k) >>= fun ds => M.opt (idxD S (.lst ds) j) >>= fun a => evE S c e ρ >>= fun b => M.opt (match a, b with | .int a, .int b => (setD ds j (.int (a + b))).map fun es => (Fl.next, ρ.set k (some (true, .lst es))) | _, _ => none) := by rw [evS] <;> rfl
theorem w_for {tg : Tg} {it : IT} {body : ISs} {ds : List D} (h : evT S c it ρ = pure ds) : evS S c (.for_ tg it body) ρ = forM (fun d ρ => M.opt (tgPut ρ tg d) >>= fun ρ1 => evSs S c body ρ1) ds (thaw ρ (lostT it ds)) := by
  rw [evS, h, pure_bind]
theorem for_cong {step step' : D → Env → M (Fl × Env)} {ds : List D} {ρ ρ' : Env} (h : forM step ds ρ = pure (.next, ρ')) (e : step' = step) : forM step' ds ρ = pure (.next, ρ') := by rw [e]; exact h
/-! ### comprehensions of any term -/
variable {vs : List Nat} {tg : Tg} {it : IT} {elt : IE}
theorem evComp {α : Type} (u g : α → D) {xs : List α} (h1 : evT S c it ρ = pure (xs.map u)) (h2 : ∀ x ∈ xs, ∃ ρ1, tgPut (thaw (wipeE ρ vs) (lkT it)) tg (u x) = some ρ1 ∧ evE S c elt ρ1 = pure (g x)) (h3 : xs.length ≤ 1000000) :
    evE S c (.comp vs tg it .none elt) ρ = pure (.lst (xs.map g)) := by
  rw [evE, h1, pure_bind, compM_maps u g fun x hx => ?_, pure_bind, if_pos (by rw [List.length_map]; exact h3)]
  obtain ⟨ρ1, e1, e2⟩ := h2 x hx
  rw [e1, opt_some, pure_bind, evC, pure_bind, if_pos rfl, e2, pure_bind]
theorem evCompF {α : Type} (u g : α → D) (p : α → Bool) {cd : IE} {xs : List α} (h1 : evT S c it ρ = pure (xs.map u)) (h2 : ∀ x ∈ xs, ∃ ρ1, tgPut (thaw (wipeE ρ vs) (lkT it)) tg (u x) = some ρ1 ∧ evE S c cd ρ1 = pure (.bl (p x)) ∧ (p x = true → evE S c elt ρ1 = pure (g x))) (h3 : xs.length ≤ 1000000) :
    evE S c (.comp vs tg it (.some cd) elt) ρ = pure (.lst ((xs.filter p).map g)) := by
  rw [evE, h1, pure_bind, compM_filt u (fun x => if p x = true then some (g x) else none) fun x hx => ?_, pure_bind]
  · have e : xs.filterMap (fun x => if p x = true then some (g x) else none) = (xs.filter p).map g := by
      rw [← List.filterMap_eq_map, List.filterMap_filter]
      rfl
    rw [e, if_pos]
    rw [List.length_map]
    exact Nat.le_trans (List.length_filter_le ..) h3
  · obtain ⟨ρ1, e1, e2, e3⟩ := h2 x hx
    rw [e1, opt_some, pure_bind, evC, e2, pure_bind]
    show (pure (p x) >>= _) = _
    rw [pure_bind]
    by_cases h : p x = true
    · rw [if_pos h, if_pos h, e3 h, pure_bind]
    · rw [if_neg h, if_neg h]
theorem evCompR {ds : List D} (g : Nat → D) (m : Nat → Mu) {μ : Mu} (h1 : evT S c it ρ μ = .ok ds (m 0)) (h2 : ∀ i d, ds[i]? = some d → ∃ ρ1, tgPut (thaw (wipeE ρ vs) (lkT it)) tg d = some ρ1 ∧ evE S c elt ρ1 (m i) = .ok (g i) (m (i + 1))) (h3 : ds.length ≤ 1000000) :
    evE S c (.comp vs tg it .none elt) ρ μ = .ok (.lst ((List.range ds.length).map g)) (m ds.length) := by
  have h := compM_run (f := fun d => M.opt (tgPut (thaw (wipeE ρ vs) (lkT it)) tg d) >>= fun ρ1 => evC S c .none ρ1 >>= fun k => if k = true then evE S c elt ρ1 >>= fun x => pure (some x) else pure none) g m (ds := ds) 0 fun i d hd => by
    obtain ⟨ρ1, e1, e2⟩ := h2 i d hd
    rw [e1, opt_some, pure_bind, evC, pure_bind, if_pos rfl, Nat.zero_add, run_bind e2]
    rfl
  simp only [Nat.zero_add] at h
  rw [evE, run_bind h1, run_bind h, if_pos (by rw [List.length_map, List.length_range]; exact h3)]
  rfl
end
end Ev

set_option Elab.async false
set_option linter.all false
set_option maxRecDepth 100000
set_option maxHeartbeats 1000000
namespace Ev
abbrev iD (l : List Int) : List D := l.map D.int
section
variable {S : List Int} {n : Nat}
theorem e_is_whole {t lo hi : Int} : callN tbl S (n + 1) 0 [.int t, .int lo, .int hi] = pure (.bl (decide (lo ≤ t) && decide (t ≤ hi))) := by
  rw [c_is_whole]
  simp [fn_is_whole, runFn, startE, evSs, evEs, v_non, v_bl, v_int, v_str, v_var, v_glob, v_bin, v_neg, v_not, v_cmp, v_chain, v_isC, v_andL, v_orL, v_ite, v_tup, v_lst, v_idx, v_slice, v_rev, v_call, v_callD, v_callK, v_b1, v_mm, v_isi, v_lrange, v_dget, v_didx, w_assign, w_par, w_unpack, w_append, w_expr, w_ite, w_ret, w_cont, w_raise, w_aug, w_augIdx, evAnd, evOr, evO, evC, evT, look, put, puts, tgPut, wipeE, thaw, lk, lks, lkT, lost, lostT, newL, bindTo, ownL, sc_non, sc_bl, sc_int, sc_str, sc_tup, sc_lst, sc_scr, sc_mref, flat_lst, flat_int, flat_tup, flat_bl, flat_non, flat_mref, flat_scr, isL_lst, isL_tup, isL_int, isL_bl, isL_non, isL_scr, isL_mref, isL_str, opt_some, no_bind, tyD, truth, cmpD, ordI, binD, negD, isD, idxD, q1_lenL, q1_lenT, q1_lenS, q1_sumL, q1_sumT, q1_abs, q1_listL, q1_listT, q1_tupleL, q1_tupleT, q1_intI, q1_intB, q1_all, q1_min, q1_max, items, fin, pure_bind, bind_assoc, optI, sliceD]
  by_cases h : lo ≤ t <;> simp [h]
theorem e_is_any_whole {t : Int} : callN tbl S (n + 1) 6 [.int t] = pure (.bl true) := by
  rw [c_is_any_whole]
  simp [fn_is_any_whole, runFn, startE, evSs, evEs, v_non, v_bl, v_int, v_str, v_var, v_glob, v_bin, v_neg, v_not, v_cmp, v_chain, v_isC, v_andL, v_orL, v_ite, v_tup, v_lst, v_idx, v_slice, v_rev, v_call, v_callD, v_callK, v_b1, v_mm, v_isi, v_lrange, v_dget, v_didx, w_assign, w_par, w_unpack, w_append, w_expr, w_ite, w_ret, w_cont, w_raise, w_aug, w_augIdx, evAnd, evOr, evO, evC, evT, look, put, puts, tgPut, wipeE, thaw, lk, lks, lkT, lost, lostT, newL, bindTo, ownL, sc_non, sc_bl, sc_int, sc_str, sc_tup, sc_lst, sc_scr, sc_mref, flat_lst, flat_int, flat_tup, flat_bl, flat_non, flat_mref, flat_scr, isL_lst, isL_tup, isL_int, isL_bl, isL_non, isL_scr, isL_mref, isL_str, opt_some, no_bind, tyD, truth, cmpD, ordI, binD, negD, isD, idxD, q1_lenL, q1_lenT, q1_lenS, q1_sumL, q1_sumT, q1_abs, q1_listL, q1_listT, q1_tupleL, q1_tupleT, q1_intI, q1_intB, q1_all, q1_min, q1_max, items, fin, pure_bind, bind_assoc, optI, sliceD]
theorem e_need_hands {h : Int} (h1 : 2 ≤ h) (h2 : h ≤ 4) : callN tbl S (n + 2) 2 [.int h] = pure .non := by
  rw [c_need_hands]
  simp [fn_need_hands, runFn, startE, evSs, evEs, v_non, v_bl, v_int, v_str, v_var, v_glob, v_bin, v_neg, v_not, v_cmp, v_chain, v_isC, v_andL, v_orL, v_ite, v_tup, v_lst, v_idx, v_slice, v_rev, v_call, v_callD, v_callK, v_b1, v_mm, v_isi, v_lrange, v_dget, v_didx, w_assign, w_par, w_unpack, w_append, w_expr, w_ite, w_ret, w_cont, w_raise, w_aug, w_augIdx, evAnd, evOr, evO, evC, evT, look, put, puts, tgPut, wipeE, thaw, lk, lks, lkT, lost, lostT, newL, bindTo, ownL, sc_non, sc_bl, sc_int, sc_str, sc_tup, sc_lst, sc_scr, sc_mref, flat_lst, flat_int, flat_tup, flat_bl, flat_non, flat_mref, flat_scr, isL_lst, isL_tup, isL_int, isL_bl, isL_non, isL_scr, isL_mref, isL_str, opt_some, no_bind, tyD, truth, cmpD, ordI, binD, negD, isD, idxD, q1_lenL, q1_lenT, q1_lenS, q1_sumL, q1_sumT, q1_abs, q1_listL, q1_listT, q1_tupleL, q1_tupleT, q1_intI, q1_intB, q1_all, q1_min, q1_max, items, fin, pure_bind, bind_assoc, optI, sliceD, e_is_whole, h1, h2]
/-- a row of that many hands -/
def Row (h : Int) (r : List Int) : Prop := 1 ≤ r.length ∧ r.length ≤ 64 ∧ ∀ x ∈ r, 0 ≤ x ∧ x < h
theorem blsOf_true {α : Type} : ∀ (l : List α), blsOf (l.map fun _ => .bl true) = some (l.map fun _ => true)
  | [] => rfl
  | _ :: l => by simp [blsOf, blsOf_true l]
theorem e_good_row {h : Int} {r : List Int} (g : Row h r) : callN tbl S (n + 2) 1 [.int h, .tup (iD r)] = pure (.bl true) := by
  obtain ⟨g1, g2, g3⟩ := g
  rw [c_good_row]
  have hc : ∀ ρ, ρ = [some (false, D.int h), some (false, D.tup (iD r)), none] → evE S (callN tbl S (n + 1)) (.comp [2] (.one 2) (.seq (.var 1)) .none (.call 0 (.cons (.var 2) (.cons (.int 0) (.cons (.bin .sub (.var 0) (.int 1)) .nil))))) ρ = pure (.lst (r.map fun _ => .bl true)) := by
    rintro _ rfl
    refine evComp D.int (fun _ => .bl true) (by simp [runFn, startE, evSs, evEs, v_non, v_bl, v_int, v_str, v_var, v_glob, v_bin, v_neg, v_not, v_cmp, v_chain, v_isC, v_andL, v_orL, v_ite, v_tup, v_lst, v_idx, v_slice, v_rev, v_call, v_callD, v_callK, v_b1, v_mm, v_isi, v_lrange, v_dget, v_didx, w_assign, w_par, w_unpack, w_append, w_expr, w_ite, w_ret, w_cont, w_raise, w_aug, w_augIdx, evAnd, evOr, evO, evC, evT, look, put, puts, tgPut, wipeE, thaw, lk, lks, lkT, lost, lostT, newL, bindTo, ownL, sc_non, sc_bl, sc_int, sc_str, sc_tup, sc_lst, sc_scr, sc_mref, flat_lst, flat_int, flat_tup, flat_bl, flat_non, flat_mref, flat_scr, isL_lst, isL_tup, isL_int, isL_bl, isL_non, isL_scr, isL_mref, isL_str, opt_some, no_bind, tyD, truth, cmpD, ordI, binD, negD, isD, idxD, q1_lenL, q1_lenT, q1_lenS, q1_sumL, q1_sumT, q1_abs, q1_listL, q1_listT, q1_tupleL, q1_tupleT, q1_intI, q1_intB, q1_all, q1_min, q1_max, items, fin, pure_bind, bind_assoc, optI, sliceD]) (fun x hx => ⟨_, rfl, ?_⟩) (by omega)
    have := g3 x hx
    simp [runFn, startE, evSs, evEs, v_non, v_bl, v_int, v_str, v_var, v_glob, v_bin, v_neg, v_not, v_cmp, v_chain, v_isC, v_andL, v_orL, v_ite, v_tup, v_lst, v_idx, v_slice, v_rev, v_call, v_callD, v_callK, v_b1, v_mm, v_isi, v_lrange, v_dget, v_didx, w_assign, w_par, w_unpack, w_append, w_expr, w_ite, w_ret, w_cont, w_raise, w_aug, w_augIdx, evAnd, evOr, evO, evC, evT, look, put, puts, tgPut, wipeE, thaw, lk, lks, lkT, lost, lostT, newL, bindTo, ownL, sc_non, sc_bl, sc_int, sc_str, sc_tup, sc_lst, sc_scr, sc_mref, flat_lst, flat_int, flat_tup, flat_bl, flat_non, flat_mref, flat_scr, isL_lst, isL_tup, isL_int, isL_bl, isL_non, isL_scr, isL_mref, isL_str, opt_some, no_bind, tyD, truth, cmpD, ordI, binD, negD, isD, idxD, q1_lenL, q1_lenT, q1_lenS, q1_sumL, q1_sumT, q1_abs, q1_listL, q1_listT, q1_tupleL, q1_tupleT, q1_intI, q1_intB, q1_all, q1_min, q1_max, items, fin, pure_bind, bind_assoc, optI, sliceD, e_is_whole, this.1, show x ≤ h - 1 by omega]
  simp [fn_good_row, runFn, startE, evSs, evEs, v_non, v_bl, v_int, v_str, v_var, v_glob, v_bin, v_neg, v_not, v_cmp, v_chain, v_isC, v_andL, v_orL, v_ite, v_tup, v_lst, v_idx, v_slice, v_rev, v_call, v_callD, v_callK, v_b1, v_mm, v_isi, v_lrange, v_dget, v_didx, w_assign, w_par, w_unpack, w_append, w_expr, w_ite, w_ret, w_cont, w_raise, w_aug, w_augIdx, evAnd, evOr, evO, evC, evT, look, put, puts, tgPut, wipeE, thaw, lk, lks, lkT, lost, lostT, newL, bindTo, ownL, sc_non, sc_bl, sc_int, sc_str, sc_tup, sc_lst, sc_scr, sc_mref, flat_lst, flat_int, flat_tup, flat_bl, flat_non, flat_mref, flat_scr, isL_lst, isL_tup, isL_int, isL_bl, isL_non, isL_scr, isL_mref, isL_str, opt_some, no_bind, tyD, truth, cmpD, ordI, binD, negD, isD, idxD, q1_lenL, q1_lenT, q1_lenS, q1_sumL, q1_sumT, q1_abs, q1_listL, q1_listT, q1_tupleL, q1_tupleT, q1_intI, q1_intB, q1_all, q1_min, q1_max, items, fin, pure_bind, bind_assoc, optI, sliceD, hc, g1, g2]
  simp [show (1 : Int) ≤ r.length by omega, show (r.length : Int) ≤ 64 by omega, show r.length ≤ 1000000 by omega, blsOf_true, opt_some]
  congr 2
  simp [List.all_eq_true]
theorem e_is_row {h : Int} {r : List Int} (h1 : 2 ≤ h) (h2 : h ≤ 4) (g : Row h r) : callN tbl S (n + 3) 17 [.int h, .tup (iD r)] = pure (.bl true) := by
  rw [c_is_row]
  simp [fn_is_row, runFn, startE, evSs, evEs, v_non, v_bl, v_int, v_str, v_var, v_glob, v_bin, v_neg, v_not, v_cmp, v_chain, v_isC, v_andL, v_orL, v_ite, v_tup, v_lst, v_idx, v_slice, v_rev, v_call, v_callD, v_callK, v_b1, v_mm, v_isi, v_lrange, v_dget, v_didx, w_assign, w_par, w_unpack, w_append, w_expr, w_ite, w_ret, w_cont, w_raise, w_aug, w_augIdx, evAnd, evOr, evO, evC, evT, look, put, puts, tgPut, wipeE, thaw, lk, lks, lkT, lost, lostT, newL, bindTo, ownL, sc_non, sc_bl, sc_int, sc_str, sc_tup, sc_lst, sc_scr, sc_mref, flat_lst, flat_int, flat_tup, flat_bl, flat_non, flat_mref, flat_scr, isL_lst, isL_tup, isL_int, isL_bl, isL_non, isL_scr, isL_mref, isL_str, opt_some, no_bind, tyD, truth, cmpD, ordI, binD, negD, isD, idxD, q1_lenL, q1_lenT, q1_lenS, q1_sumL, q1_sumT, q1_abs, q1_listL, q1_listT, q1_tupleL, q1_tupleT, q1_intI, q1_intB, q1_all, q1_min, q1_max, items, fin, pure_bind, bind_assoc, optI, sliceD, e_need_hands h1 h2, e_good_row g]
theorem e_need_row {h : Int} {r : List Int} (h1 : 2 ≤ h) (h2 : h ≤ 4) (g : Row h r) : callN tbl S (n + 3) 3 [.int h, .tup (iD r)] = pure .non := by
  rw [c_need_row]
  simp [fn_need_row, runFn, startE, evSs, evEs, v_non, v_bl, v_int, v_str, v_var, v_glob, v_bin, v_neg, v_not, v_cmp, v_chain, v_isC, v_andL, v_orL, v_ite, v_tup, v_lst, v_idx, v_slice, v_rev, v_call, v_callD, v_callK, v_b1, v_mm, v_isi, v_lrange, v_dget, v_didx, w_assign, w_par, w_unpack, w_append, w_expr, w_ite, w_ret, w_cont, w_raise, w_aug, w_augIdx, evAnd, evOr, evO, evC, evT, look, put, puts, tgPut, wipeE, thaw, lk, lks, lkT, lost, lostT, newL, bindTo, ownL, sc_non, sc_bl, sc_int, sc_str, sc_tup, sc_lst, sc_scr, sc_mref, flat_lst, flat_int, flat_tup, flat_bl, flat_non, flat_mref, flat_scr, isL_lst, isL_tup, isL_int, isL_bl, isL_non, isL_scr, isL_mref, isL_str, opt_some, no_bind, tyD, truth, cmpD, ordI, binD, negD, isD, idxD, q1_lenL, q1_lenT, q1_lenS, q1_sumL, q1_sumT, q1_abs, q1_listL, q1_listT, q1_tupleL, q1_tupleT, q1_intI, q1_intB, q1_all, q1_min, q1_max, items, fin, pure_bind, bind_assoc, optI, sliceD, e_need_hands h1 h2, e_good_row g]
theorem sh_int {m : Nat} {i : Int} : sh m (.int i) = true := by cases m <;> rfl
theorem e_need_two {h a b : Int} {r : List Int} (h1 : 2 ≤ h) (h2 : h ≤ 4) (g : Row h r) (a1 : 0 ≤ a) (a2 : a < h) (b1 : 0 ≤ b) (b2 : b < h) (ab : a ≠ b) : callN tbl S (n + 4) 5 [.int h, .tup (iD r), .int a, .int b] = pure .non := by
  rw [c_need_two]
  simp [fn_need_two, runFn, startE, evSs, evEs, v_non, v_bl, v_int, v_str, v_var, v_glob, v_bin, v_neg, v_not, v_cmp, v_chain, v_isC, v_andL, v_orL, v_ite, v_tup, v_lst, v_idx, v_slice, v_rev, v_call, v_callD, v_callK, v_b1, v_mm, v_isi, v_lrange, v_dget, v_didx, w_assign, w_par, w_unpack, w_append, w_expr, w_ite, w_ret, w_cont, w_raise, w_aug, w_augIdx, evAnd, evOr, evO, evC, evT, look, put, puts, tgPut, wipeE, thaw, lk, lks, lkT, lost, lostT, newL, bindTo, ownL, sc_non, sc_bl, sc_int, sc_str, sc_tup, sc_lst, sc_scr, sc_mref, flat_lst, flat_int, flat_tup, flat_bl, flat_non, flat_mref, flat_scr, isL_lst, isL_tup, isL_int, isL_bl, isL_non, isL_scr, isL_mref, isL_str, opt_some, no_bind, tyD, truth, cmpD, ordI, binD, negD, isD, idxD, q1_lenL, q1_lenT, q1_lenS, q1_sumL, q1_sumT, q1_abs, q1_listL, q1_listT, q1_tupleL, q1_tupleT, q1_intI, q1_intB, q1_all, q1_min, q1_max, items, fin, pure_bind, bind_assoc, optI, sliceD, e_need_row h1 h2 g, e_is_whole, a1, b1, show a ≤ h - 1 by omega, show b ≤ h - 1 by omega, sh_int, deq, ab]
def sgn (a b x : Int) : Int := (if x = a then 1 else 0) - (if x = b then 1 else 0)
theorem e_signs_of {a b : Int} {r : List Int} (hl : r.length ≤ 1000) : callN tbl S (n + 1) 4 [.tup (iD r), .int a, .int b] = pure (.lst (iD (r.map (sgn a b)))) := by
  rw [c_signs_of]
  have hc : evE S (callN tbl S n) (.comp [3] (.one 3) (.seq (.var 0)) .none (.bin .sub (.b1 .int (.cmp .eq (.var 3) (.var 1))) (.b1 .int (.cmp .eq (.var 3) (.var 2))))) [some (false, .tup (iD r)), some (false, .int a), some (false, .int b), none] = pure (.lst (r.map fun x => .int (sgn a b x))) := by
    refine evComp D.int _ (by simp [runFn, startE, evSs, evEs, v_non, v_bl, v_int, v_str, v_var, v_glob, v_bin, v_neg, v_not, v_cmp, v_chain, v_isC, v_andL, v_orL, v_ite, v_tup, v_lst, v_idx, v_slice, v_rev, v_call, v_callD, v_callK, v_b1, v_mm, v_isi, v_lrange, v_dget, v_didx, w_assign, w_par, w_unpack, w_append, w_expr, w_ite, w_ret, w_cont, w_raise, w_aug, w_augIdx, evAnd, evOr, evO, evC, evT, look, put, puts, tgPut, wipeE, thaw, lk, lks, lkT, lost, lostT, newL, bindTo, ownL, sc_non, sc_bl, sc_int, sc_str, sc_tup, sc_lst, sc_scr, sc_mref, flat_lst, flat_int, flat_tup, flat_bl, flat_non, flat_mref, flat_scr, isL_lst, isL_tup, isL_int, isL_bl, isL_non, isL_scr, isL_mref, isL_str, opt_some, no_bind, tyD, truth, cmpD, ordI, binD, negD, isD, idxD, q1_lenL, q1_lenT, q1_lenS, q1_sumL, q1_sumT, q1_abs, q1_listL, q1_listT, q1_tupleL, q1_tupleT, q1_intI, q1_intB, q1_all, q1_min, q1_max, items, fin, pure_bind, bind_assoc, optI, sliceD]) (fun x hx => ⟨_, rfl, ?_⟩) (by omega)
    simp [runFn, startE, evSs, evEs, v_non, v_bl, v_int, v_str, v_var, v_glob, v_bin, v_neg, v_not, v_cmp, v_chain, v_isC, v_andL, v_orL, v_ite, v_tup, v_lst, v_idx, v_slice, v_rev, v_call, v_callD, v_callK, v_b1, v_mm, v_isi, v_lrange, v_dget, v_didx, w_assign, w_par, w_unpack, w_append, w_expr, w_ite, w_ret, w_cont, w_raise, w_aug, w_augIdx, evAnd, evOr, evO, evC, evT, look, put, puts, tgPut, wipeE, thaw, lk, lks, lkT, lost, lostT, newL, bindTo, ownL, sc_non, sc_bl, sc_int, sc_str, sc_tup, sc_lst, sc_scr, sc_mref, flat_lst, flat_int, flat_tup, flat_bl, flat_non, flat_mref, flat_scr, isL_lst, isL_tup, isL_int, isL_bl, isL_non, isL_scr, isL_mref, isL_str, opt_some, no_bind, tyD, truth, cmpD, ordI, binD, negD, isD, idxD, q1_lenL, q1_lenT, q1_lenS, q1_sumL, q1_sumT, q1_abs, q1_listL, q1_listT, q1_tupleL, q1_tupleT, q1_intI, q1_intB, q1_all, q1_min, q1_max, items, fin, pure_bind, bind_assoc, optI, sliceD, sh_int, deq, sgn]
  simp [fn_signs_of, runFn, startE, evSs, evEs, v_non, v_bl, v_int, v_str, v_var, v_glob, v_bin, v_neg, v_not, v_cmp, v_chain, v_isC, v_andL, v_orL, v_ite, v_tup, v_lst, v_idx, v_slice, v_rev, v_call, v_callD, v_callK, v_b1, v_mm, v_isi, v_lrange, v_dget, v_didx, w_assign, w_par, w_unpack, w_append, w_expr, w_ite, w_ret, w_cont, w_raise, w_aug, w_augIdx, evAnd, evOr, evO, evC, evT, look, put, puts, tgPut, wipeE, thaw, lk, lks, lkT, lost, lostT, newL, bindTo, ownL, sc_non, sc_bl, sc_int, sc_str, sc_tup, sc_lst, sc_scr, sc_mref, flat_lst, flat_int, flat_tup, flat_bl, flat_non, flat_mref, flat_scr, isL_lst, isL_tup, isL_int, isL_bl, isL_non, isL_scr, isL_mref, isL_str, opt_some, no_bind, tyD, truth, cmpD, ordI, binD, negD, isD, idxD, q1_lenL, q1_lenT, q1_lenS, q1_sumL, q1_sumT, q1_abs, q1_listL, q1_listT, q1_tupleL, q1_tupleT, q1_intI, q1_intB, q1_all, q1_min, q1_max, items, fin, pure_bind, bind_assoc, optI, sliceD, hc, List.map_map, Function.comp_def]
theorem e_signs {h a b : Int} {r : List Int} (h1 : 2 ≤ h) (h2 : h ≤ 4) (g : Row h r) (a1 : 0 ≤ a) (a2 : a < h) (b1 : 0 ≤ b) (b2 : b < h) (ab : a ≠ b) : callN tbl S (n + 5) 16 [.int h, .tup (iD r), .int a, .int b] = pure (.lst (iD (r.map (sgn a b)))) := by
  rw [c_signs]
  simp [fn_signs, runFn, startE, evSs, evEs, v_non, v_bl, v_int, v_str, v_var, v_glob, v_bin, v_neg, v_not, v_cmp, v_chain, v_isC, v_andL, v_orL, v_ite, v_tup, v_lst, v_idx, v_slice, v_rev, v_call, v_callD, v_callK, v_b1, v_mm, v_isi, v_lrange, v_dget, v_didx, w_assign, w_par, w_unpack, w_append, w_expr, w_ite, w_ret, w_cont, w_raise, w_aug, w_augIdx, evAnd, evOr, evO, evC, evT, look, put, puts, tgPut, wipeE, thaw, lk, lks, lkT, lost, lostT, newL, bindTo, ownL, sc_non, sc_bl, sc_int, sc_str, sc_tup, sc_lst, sc_scr, sc_mref, flat_lst, flat_int, flat_tup, flat_bl, flat_non, flat_mref, flat_scr, isL_lst, isL_tup, isL_int, isL_bl, isL_non, isL_scr, isL_mref, isL_str, opt_some, no_bind, tyD, truth, cmpD, ordI, binD, negD, isD, idxD, q1_lenL, q1_lenT, q1_lenS, q1_sumL, q1_sumT, q1_abs, q1_listL, q1_listT, q1_tupleL, q1_tupleT, q1_intI, q1_intB, q1_all, q1_min, q1_max, items, fin, pure_bind, bind_assoc, optI, sliceD, e_need_two h1 h2 g a1 a2 b1 b2 ab, e_signs_of (show r.length ≤ 1000 from Nat.le_trans g.2.1 (by decide))]
theorem e_are_worths {w : List Int} (hl : w.length ≤ 1000) : callN tbl S (n + 2) 7 [.tup (iD w)] = pure (.bl true) := by
  rw [c_are_worths]
  have hc : evE S (callN tbl S (n + 1)) (.comp [1] (.one 1) (.seq (.var 0)) .none (.call 6 (.cons (.var 1) .nil))) [some (false, .tup (iD w)), none] = pure (.lst (w.map fun _ => .bl true)) := by
    refine evComp D.int (fun _ => .bl true) (by simp [runFn, startE, evSs, evEs, v_non, v_bl, v_int, v_str, v_var, v_glob, v_bin, v_neg, v_not, v_cmp, v_chain, v_isC, v_andL, v_orL, v_ite, v_tup, v_lst, v_idx, v_slice, v_rev, v_call, v_callD, v_callK, v_b1, v_mm, v_isi, v_lrange, v_dget, v_didx, w_assign, w_par, w_unpack, w_append, w_expr, w_ite, w_ret, w_cont, w_raise, w_aug, w_augIdx, evAnd, evOr, evO, evC, evT, look, put, puts, tgPut, wipeE, thaw, lk, lks, lkT, lost, lostT, newL, bindTo, ownL, sc_non, sc_bl, sc_int, sc_str, sc_tup, sc_lst, sc_scr, sc_mref, flat_lst, flat_int, flat_tup, flat_bl, flat_non, flat_mref, flat_scr, isL_lst, isL_tup, isL_int, isL_bl, isL_non, isL_scr, isL_mref, isL_str, opt_some, no_bind, tyD, truth, cmpD, ordI, binD, negD, isD, idxD, q1_lenL, q1_lenT, q1_lenS, q1_sumL, q1_sumT, q1_abs, q1_listL, q1_listT, q1_tupleL, q1_tupleT, q1_intI, q1_intB, q1_all, q1_min, q1_max, items, fin, pure_bind, bind_assoc, optI, sliceD]) (fun x hx => ⟨_, rfl, ?_⟩) (by omega)
    simp [runFn, startE, evSs, evEs, v_non, v_bl, v_int, v_str, v_var, v_glob, v_bin, v_neg, v_not, v_cmp, v_chain, v_isC, v_andL, v_orL, v_ite, v_tup, v_lst, v_idx, v_slice, v_rev, v_call, v_callD, v_callK, v_b1, v_mm, v_isi, v_lrange, v_dget, v_didx, w_assign, w_par, w_unpack, w_append, w_expr, w_ite, w_ret, w_cont, w_raise, w_aug, w_augIdx, evAnd, evOr, evO, evC, evT, look, put, puts, tgPut, wipeE, thaw, lk, lks, lkT, lost, lostT, newL, bindTo, ownL, sc_non, sc_bl, sc_int, sc_str, sc_tup, sc_lst, sc_scr, sc_mref, flat_lst, flat_int, flat_tup, flat_bl, flat_non, flat_mref, flat_scr, isL_lst, isL_tup, isL_int, isL_bl, isL_non, isL_scr, isL_mref, isL_str, opt_some, no_bind, tyD, truth, cmpD, ordI, binD, negD, isD, idxD, q1_lenL, q1_lenT, q1_lenS, q1_sumL, q1_sumT, q1_abs, q1_listL, q1_listT, q1_tupleL, q1_tupleT, q1_intI, q1_intB, q1_all, q1_min, q1_max, items, fin, pure_bind, bind_assoc, optI, sliceD, e_is_any_whole]
  simp [fn_are_worths, runFn, startE, evSs, evEs, v_non, v_bl, v_int, v_str, v_var, v_glob, v_bin, v_neg, v_not, v_cmp, v_chain, v_isC, v_andL, v_orL, v_ite, v_tup, v_lst, v_idx, v_slice, v_rev, v_call, v_callD, v_callK, v_b1, v_mm, v_isi, v_lrange, v_dget, v_didx, w_assign, w_par, w_unpack, w_append, w_expr, w_ite, w_ret, w_cont, w_raise, w_aug, w_augIdx, evAnd, evOr, evO, evC, evT, look, put, puts, tgPut, wipeE, thaw, lk, lks, lkT, lost, lostT, newL, bindTo, ownL, sc_non, sc_bl, sc_int, sc_str, sc_tup, sc_lst, sc_scr, sc_mref, flat_lst, flat_int, flat_tup, flat_bl, flat_non, flat_mref, flat_scr, isL_lst, isL_tup, isL_int, isL_bl, isL_non, isL_scr, isL_mref, isL_str, opt_some, no_bind, tyD, truth, cmpD, ordI, binD, negD, isD, idxD, q1_lenL, q1_lenT, q1_lenS, q1_sumL, q1_sumT, q1_abs, q1_listL, q1_listT, q1_tupleL, q1_tupleT, q1_intI, q1_intB, q1_all, q1_min, q1_max, items, fin, pure_bind, bind_assoc, optI, sliceD, hc, blsOf_true]
  congr 2
  simp [List.all_eq_true]
theorem e_need_worths {r w : List Int} (hw : w.length ≤ 1000) (hl : w.length = r.length) : callN tbl S (n + 3) 9 [.tup (iD r), .tup (iD w)] = pure .non := by
  rw [c_need_worths]
  simp [fn_need_worths, runFn, startE, evSs, evEs, v_non, v_bl, v_int, v_str, v_var, v_glob, v_bin, v_neg, v_not, v_cmp, v_chain, v_isC, v_andL, v_orL, v_ite, v_tup, v_lst, v_idx, v_slice, v_rev, v_call, v_callD, v_callK, v_b1, v_mm, v_isi, v_lrange, v_dget, v_didx, w_assign, w_par, w_unpack, w_append, w_expr, w_ite, w_ret, w_cont, w_raise, w_aug, w_augIdx, evAnd, evOr, evO, evC, evT, look, put, puts, tgPut, wipeE, thaw, lk, lks, lkT, lost, lostT, newL, bindTo, ownL, sc_non, sc_bl, sc_int, sc_str, sc_tup, sc_lst, sc_scr, sc_mref, flat_lst, flat_int, flat_tup, flat_bl, flat_non, flat_mref, flat_scr, isL_lst, isL_tup, isL_int, isL_bl, isL_non, isL_scr, isL_mref, isL_str, opt_some, no_bind, tyD, truth, cmpD, ordI, binD, negD, isD, idxD, q1_lenL, q1_lenT, q1_lenS, q1_sumL, q1_sumT, q1_abs, q1_listL, q1_listT, q1_tupleL, q1_tupleT, q1_intI, q1_intB, q1_all, q1_min, q1_max, items, fin, pure_bind, bind_assoc, optI, sliceD, e_are_worths hw, hl, sh_int, deq]
/-! ### totals -/
def addAt (m : List Int) (p : Int × Int) : List Int := m.set p.1.toNat (m.getD p.1.toNat 0 + p.2)
def tot (h : Int) (ps : List (Int × Int)) : List Int := ps.foldl addAt (List.replicate h.toNat 0)
theorem tot_len {h : Int} {ps : List (Int × Int)} : (tot h ps).length = h.toNat := by
  unfold tot
  have : ∀ (ps : List (Int × Int)) (m : List Int), (ps.foldl addAt m).length = m.length := by
    intro ps
    induction ps with
    | nil => intro m; rfl
    | cons p ps ih => intro m; rw [List.foldl_cons, ih]; unfold addAt; rw [List.length_set]
  rw [this, List.length_replicate]
theorem flat1 {α : Type} (x : α) : ∀ k : Nat, (List.replicate k [x]).flatten = List.replicate k x
  | 0 => rfl
  | k + 1 => by rw [List.replicate_succ, List.replicate_succ, List.flatten_cons, flat1 x k]; rfl
theorem ixN_ok {m : Nat} {a : Int} (h1 : 0 ≤ a) (h2 : a < m) : L2.ixN m a = some a.toNat := by
  unfold L2.ixN
  rw [if_pos h1, if_pos h2]
theorem zip_iD {r w : List Int} : (((iD r).zip (iD w)).map fun p => D.tup [p.1, p.2]) = (r.zip w).map fun p => D.tup [.int p.1, .int p.2] := by
  induction r generalizing w with
  | nil => rfl
  | cons x r ih =>
    cases w with
    | nil => rfl
    | cons y w => simp only [List.map_cons, List.zip_cons_cons]; rw [ih]
theorem e_totals_of {h : Int} {r w : List Int} (h1 : 0 ≤ h) (h2 : h ≤ 1000) (hr : ∀ x ∈ r, 0 ≤ x ∧ x < h) : callN tbl S (n + 1) 8 [.int h, .tup (iD r), .tup (iD w)] = pure (.lst (iD (tot h (r.zip w)))) := by
  rw [c_totals_of]
  obtain ⟨u4, hn4, hu4⟩ : ∃ u4 : List (Int × Int) → Option (Bool × D), u4 [] = none ∧ ∀ ps x, u4 (ps ++ [x]) = some (false, .int x.1) := ⟨fun ps => ps.getLast?.map fun p => (false, .int p.1), rfl, by simp⟩
  obtain ⟨u5, hn5, hu5⟩ : ∃ u5 : List (Int × Int) → Option (Bool × D), u5 [] = none ∧ ∀ ps x, u5 (ps ++ [x]) = some (false, .int x.2) := ⟨fun ps => ps.getLast?.map fun p => (false, .int p.2), rfl, by simp⟩
  have hf := forM_next (step := fun d ρ => M.opt (tgPut ρ (.many [4, 5]) d) >>= fun ρ1 => evSs S (callN tbl S n) (.cons (.augIdx 3 (.var 4) (.var 5)) .nil) ρ1) (fun p : Int × Int => D.tup [.int p.1, .int p.2])
    (fun ps => [some (false, .int h), some (false, .tup (iD r)), some (false, .tup (iD w)), some (true, .lst (iD (tot h ps))), u4 ps, u5 ps]) (xs := r.zip w) fun ps x rs e => by
    have hx : x ∈ r.zip w := by rw [e]; simp
    obtain ⟨x1, x2⟩ := hr x.1 (List.of_mem_zip hx).1
    have hlen : (x.1 : Int) < (tot h ps).length := by rw [tot_len]; omega
    have hi : L2.ixN (tot h ps).length x.1 = some x.1.toNat := ixN_ok x1 hlen
    have hg : (tot h ps)[x.1.toNat]? = some ((tot h ps).getD x.1.toNat 0) := by
      rw [List.getD_eq_getElem?_getD, List.getElem?_eq_getElem (by omega)]
      rfl
    have ht : tot h (ps ++ [x]) = addAt (tot h ps) x := by unfold tot; rw [List.foldl_append]; rfl
    generalize hm : tot h ps = m at *
    rw [hu4, hu5, ht]
    simp only [runFn, startE, evSs, evEs, v_non, v_bl, v_int, v_str, v_var, v_glob, v_bin, v_neg, v_not, v_cmp, v_chain, v_isC, v_andL, v_orL, v_ite, v_tup, v_lst, v_idx, v_slice, v_rev, v_call, v_callD, v_callK, v_b1, v_mm, v_isi, v_lrange, v_dget, v_didx, w_assign, w_par, w_unpack, w_append, w_expr, w_ite, w_ret, w_cont, w_raise, w_aug, w_augIdx, evAnd, evOr, evO, evC, evT, look, put, puts, tgPut, wipeE, thaw, lk, lks, lkT, lost, lostT, newL, bindTo, ownL, sc_non, sc_bl, sc_int, sc_str, sc_tup, sc_lst, sc_scr, sc_mref, flat_lst, flat_int, flat_tup, flat_bl, flat_non, flat_mref, flat_scr, isL_lst, isL_tup, isL_int, isL_bl, isL_non, isL_scr, isL_mref, isL_str, opt_some, no_bind, tyD, truth, cmpD, ordI, binD, negD, isD, idxD, q1_lenL, q1_lenT, q1_lenS, q1_sumL, q1_sumT, q1_abs, q1_listL, q1_listT, q1_tupleL, q1_tupleT, q1_intI, q1_intB, q1_all, q1_min, q1_max, items, fin, pure_bind, bind_assoc, optI, sliceD, tgPut, puts, put, List.set_cons_succ, List.set_cons_zero, List.getElem?_cons_succ, List.getElem?_cons_zero, List.length_map, L2.atI, hi, Option.bind_some, List.getElem?_map, hg, Option.map_some, setD, addAt, List.map_set]
  rw [hn4, hn5] at hf
  have ht0 : tot h [] = List.replicate h.toNat 0 := rfl
  rw [ht0] at hf
  simp only [fn_totals_of, runFn, startE, evSs, evEs, v_non, v_bl, v_int, v_str, v_var, v_glob, v_bin, v_neg, v_not, v_cmp, v_chain, v_isC, v_andL, v_orL, v_ite, v_tup, v_lst, v_idx, v_slice, v_rev, v_call, v_callD, v_callK, v_b1, v_mm, v_isi, v_lrange, v_dget, v_didx, w_assign, w_par, w_unpack, w_append, w_expr, w_ite, w_ret, w_cont, w_raise, w_aug, w_augIdx, evAnd, evOr, evO, evC, evT, look, put, puts, tgPut, wipeE, thaw, lk, lks, lkT, lost, lostT, newL, bindTo, ownL, sc_non, sc_bl, sc_int, sc_str, sc_tup, sc_lst, sc_scr, sc_mref, flat_lst, flat_int, flat_tup, flat_bl, flat_non, flat_mref, flat_scr, isL_lst, isL_tup, isL_int, isL_bl, isL_non, isL_scr, isL_mref, isL_str, opt_some, no_bind, tyD, truth, cmpD, ordI, binD, negD, isD, idxD, q1_lenL, q1_lenT, q1_lenS, q1_sumL, q1_sumT, q1_abs, q1_listL, q1_listT, q1_tupleL, q1_tupleT, q1_intI, q1_intB, q1_all, q1_min, q1_max, items, fin, pure_bind, bind_assoc, optI, sliceD, List.set_cons_succ, List.set_cons_zero, List.getElem?_cons_succ, List.getElem?_cons_zero, List.getElem?_nil, Option.bind_some, Option.map_some, Option.map_none, List.length_map, List.length_cons, List.length_nil, List.map_cons, List.map_nil, List.cons_append, List.nil_append, List.append_nil, List.replicate_succ, List.replicate_zero, Nat.reduceAdd, Nat.reduceSub, Nat.reduceLeDiff, Nat.reduceLT, if_true, if_false, ite_true, ite_false, Bool.or_true, Bool.or_false, Bool.true_or, Bool.false_or, Bool.and_true, Bool.true_and, Bool.and_false, Bool.false_and, Bool.not_true, Bool.not_false, List.all_cons, List.all_nil, Bool.false_eq_true, reduceIte]
  rw [opt_if ⟨h1, h2, trivial⟩, flat1]
  have e0 : (List.replicate h.toNat (D.int 0)) = iD (List.replicate h.toNat 0) := by
    show _ = List.map D.int _
    rw [List.map_replicate]
  rw [e0]
  simp only [runFn, startE, evSs, evEs, v_non, v_bl, v_int, v_str, v_var, v_glob, v_bin, v_neg, v_not, v_cmp, v_chain, v_isC, v_andL, v_orL, v_ite, v_tup, v_lst, v_idx, v_slice, v_rev, v_call, v_callD, v_callK, v_b1, v_mm, v_isi, v_lrange, v_dget, v_didx, w_assign, w_par, w_unpack, w_append, w_expr, w_ite, w_ret, w_cont, w_raise, w_aug, w_augIdx, evAnd, evOr, evO, evC, evT, look, put, puts, tgPut, wipeE, thaw, lk, lks, lkT, lost, lostT, newL, bindTo, ownL, sc_non, sc_bl, sc_int, sc_str, sc_tup, sc_lst, sc_scr, sc_mref, flat_lst, flat_int, flat_tup, flat_bl, flat_non, flat_mref, flat_scr, isL_lst, isL_tup, isL_int, isL_bl, isL_non, isL_scr, isL_mref, isL_str, opt_some, no_bind, tyD, truth, cmpD, ordI, binD, negD, isD, idxD, q1_lenL, q1_lenT, q1_lenS, q1_sumL, q1_sumT, q1_abs, q1_listL, q1_listT, q1_tupleL, q1_tupleT, q1_intI, q1_intB, q1_all, q1_min, q1_max, items, fin, pure_bind, bind_assoc, optI, sliceD, List.set_cons_succ, List.set_cons_zero, List.getElem?_cons_succ, List.getElem?_cons_zero, List.getElem?_nil, Option.bind_some, Option.map_some, Option.map_none, List.length_map, List.length_cons, List.length_nil, List.map_cons, List.map_nil, List.cons_append, List.nil_append, List.append_nil, List.replicate_succ, List.replicate_zero, Nat.reduceAdd, Nat.reduceSub, Nat.reduceLeDiff, Nat.reduceLT, if_true, if_false, ite_true, ite_false, Bool.or_true, Bool.or_false, Bool.true_or, Bool.false_or, Bool.and_true, Bool.true_and, Bool.and_false, Bool.false_and, Bool.not_true, Bool.not_false, List.all_cons, List.all_nil, Bool.false_eq_true, reduceIte, sc_ints]
  rw [w_for (ds := (r.zip w).map fun p => D.tup [.int p.1, .int p.2]) (by simp only [runFn, startE, evSs, evEs, v_non, v_bl, v_int, v_str, v_var, v_glob, v_bin, v_neg, v_not, v_cmp, v_chain, v_isC, v_andL, v_orL, v_ite, v_tup, v_lst, v_idx, v_slice, v_rev, v_call, v_callD, v_callK, v_b1, v_mm, v_isi, v_lrange, v_dget, v_didx, w_assign, w_par, w_unpack, w_append, w_expr, w_ite, w_ret, w_cont, w_raise, w_aug, w_augIdx, evAnd, evOr, evO, evC, evT, look, put, puts, tgPut, wipeE, thaw, lk, lks, lkT, lost, lostT, newL, bindTo, ownL, sc_non, sc_bl, sc_int, sc_str, sc_tup, sc_lst, sc_scr, sc_mref, flat_lst, flat_int, flat_tup, flat_bl, flat_non, flat_mref, flat_scr, isL_lst, isL_tup, isL_int, isL_bl, isL_non, isL_scr, isL_mref, isL_str, opt_some, no_bind, tyD, truth, cmpD, ordI, binD, negD, isD, idxD, q1_lenL, q1_lenT, q1_lenS, q1_sumL, q1_sumT, q1_abs, q1_listL, q1_listT, q1_tupleL, q1_tupleT, q1_intI, q1_intB, q1_all, q1_min, q1_max, items, fin, pure_bind, bind_assoc, optI, sliceD, List.set_cons_succ, List.set_cons_zero, List.getElem?_cons_succ, List.getElem?_cons_zero, List.getElem?_nil, Option.bind_some, Option.map_some, Option.map_none, List.length_map, List.length_cons, List.length_nil, List.map_cons, List.map_nil, List.cons_append, List.nil_append, List.append_nil, List.replicate_succ, List.replicate_zero, Nat.reduceAdd, Nat.reduceSub, Nat.reduceLeDiff, Nat.reduceLT, if_true, if_false, ite_true, ite_false, Bool.or_true, Bool.or_false, Bool.true_or, Bool.false_or, Bool.and_true, Bool.true_and, Bool.and_false, Bool.false_and, Bool.not_true, Bool.not_false, List.all_cons, List.all_nil, Bool.false_eq_true, reduceIte]; rw [zip_iD])]
  simp only [lostT, thaw, lkT, lk, newL, List.set_cons_succ, List.set_cons_zero, List.getElem?_cons_succ, List.getElem?_cons_zero, List.getElem?_nil, Option.bind_some, Option.map_some, Option.map_none, List.length_map, List.length_cons, List.length_nil, List.map_cons, List.map_nil, List.cons_append, List.nil_append, List.append_nil, List.replicate_succ, List.replicate_zero, Nat.reduceAdd, Nat.reduceSub, Nat.reduceLeDiff, Nat.reduceLT, if_true, if_false, ite_true, ite_false, Bool.or_true, Bool.or_false, Bool.true_or, Bool.false_or, Bool.and_true, Bool.true_and, Bool.and_false, Bool.false_and, Bool.not_true, Bool.not_false, List.all_cons, List.all_nil, Bool.false_eq_true, reduceIte]
  rw [hf]
  simp only [runFn, startE, evSs, evEs, v_non, v_bl, v_int, v_str, v_var, v_glob, v_bin, v_neg, v_not, v_cmp, v_chain, v_isC, v_andL, v_orL, v_ite, v_tup, v_lst, v_idx, v_slice, v_rev, v_call, v_callD, v_callK, v_b1, v_mm, v_isi, v_lrange, v_dget, v_didx, w_assign, w_par, w_unpack, w_append, w_expr, w_ite, w_ret, w_cont, w_raise, w_aug, w_augIdx, evAnd, evOr, evO, evC, evT, look, put, puts, tgPut, wipeE, thaw, lk, lks, lkT, lost, lostT, newL, bindTo, ownL, sc_non, sc_bl, sc_int, sc_str, sc_tup, sc_lst, sc_scr, sc_mref, flat_lst, flat_int, flat_tup, flat_bl, flat_non, flat_mref, flat_scr, isL_lst, isL_tup, isL_int, isL_bl, isL_non, isL_scr, isL_mref, isL_str, opt_some, no_bind, tyD, truth, cmpD, ordI, binD, negD, isD, idxD, q1_lenL, q1_lenT, q1_lenS, q1_sumL, q1_sumT, q1_abs, q1_listL, q1_listT, q1_tupleL, q1_tupleT, q1_intI, q1_intB, q1_all, q1_min, q1_max, items, fin, pure_bind, bind_assoc, optI, sliceD, List.set_cons_succ, List.set_cons_zero, List.getElem?_cons_succ, List.getElem?_cons_zero, List.getElem?_nil, Option.bind_some, Option.map_some, Option.map_none, List.length_map, List.length_cons, List.length_nil, List.map_cons, List.map_nil, List.cons_append, List.nil_append, List.append_nil, List.replicate_succ, List.replicate_zero, Nat.reduceAdd, Nat.reduceSub, Nat.reduceLeDiff, Nat.reduceLT, if_true, if_false, ite_true, ite_false, Bool.or_true, Bool.or_false, Bool.true_or, Bool.false_or, Bool.and_true, Bool.true_and, Bool.and_false, Bool.false_and, Bool.not_true, Bool.not_false, List.all_cons, List.all_nil, Bool.false_eq_true, reduceIte]
theorem e_totals {h : Int} {r w : List Int} (h1 : 2 ≤ h) (h2 : h ≤ 4) (g : Row h r) (hw : w.length ≤ 1000) (hl : w.length = r.length) : callN tbl S (n + 4) 18 [.int h, .tup (iD r), .tup (iD w)] = pure (.lst (iD (tot h (r.zip w)))) := by
  rw [c_totals]
  simp only [fn_totals, runFn, startE, evSs, evEs, v_non, v_bl, v_int, v_str, v_var, v_glob, v_bin, v_neg, v_not, v_cmp, v_chain, v_isC, v_andL, v_orL, v_ite, v_tup, v_lst, v_idx, v_slice, v_rev, v_call, v_callD, v_callK, v_b1, v_mm, v_isi, v_lrange, v_dget, v_didx, w_assign, w_par, w_unpack, w_append, w_expr, w_ite, w_ret, w_cont, w_raise, w_aug, w_augIdx, evAnd, evOr, evO, evC, evT, look, put, puts, tgPut, wipeE, thaw, lk, lks, lkT, lost, lostT, newL, bindTo, ownL, sc_non, sc_bl, sc_int, sc_str, sc_tup, sc_lst, sc_scr, sc_mref, flat_lst, flat_int, flat_tup, flat_bl, flat_non, flat_mref, flat_scr, isL_lst, isL_tup, isL_int, isL_bl, isL_non, isL_scr, isL_mref, isL_str, opt_some, no_bind, tyD, truth, cmpD, ordI, binD, negD, isD, idxD, q1_lenL, q1_lenT, q1_lenS, q1_sumL, q1_sumT, q1_abs, q1_listL, q1_listT, q1_tupleL, q1_tupleT, q1_intI, q1_intB, q1_all, q1_min, q1_max, items, fin, pure_bind, bind_assoc, optI, sliceD, List.set_cons_succ, List.set_cons_zero, List.getElem?_cons_succ, List.getElem?_cons_zero, List.getElem?_nil, Option.bind_some, Option.map_some, Option.map_none, List.length_map, List.length_cons, List.length_nil, List.map_cons, List.map_nil, List.cons_append, List.nil_append, List.append_nil, List.replicate_succ, List.replicate_zero, Nat.reduceAdd, Nat.reduceSub, Nat.reduceLeDiff, Nat.reduceLT, if_true, if_false, ite_true, ite_false, Bool.or_true, Bool.or_false, Bool.true_or, Bool.false_or, Bool.and_true, Bool.true_and, Bool.and_false, Bool.false_and, Bool.not_true, Bool.not_false, List.all_cons, List.all_nil, Bool.false_eq_true, reduceIte, e_need_row h1 h2 g, e_need_worths hw hl, e_totals_of (show 0 ≤ h by omega) (show h ≤ 1000 by omega) g.2.2]
theorem tot_atI {h a : Int} {ps : List (Int × Int)} (a1 : 0 ≤ a) (a2 : a < h) : L2.atI (iD (tot h ps)) a = some (.int ((tot h ps).getD a.toNat 0)) := by
  unfold L2.atI
  rw [List.length_map, ixN_ok a1 (by rw [tot_len]; omega), Option.bind_some, List.getElem?_map, List.getD_eq_getElem?_getD, List.getElem?_eq_getElem (by rw [tot_len]; omega)]
  rfl
theorem e_lead {h a b : Int} {r w : List Int} (h1 : 2 ≤ h) (h2 : h ≤ 4) (g : Row h r) (hw : w.length ≤ 1000) (hl : w.length = r.length) (a1 : 0 ≤ a) (a2 : a < h) (b1 : 0 ≤ b) (b2 : b < h) (ab : a ≠ b) :
    callN tbl S (n + 5) 14 [.int h, .tup (iD r), .int a, .int b, .tup (iD w)] = pure (.int ((tot h (r.zip w)).getD a.toNat 0 - (tot h (r.zip w)).getD b.toNat 0)) := by
  rw [c_lead]
  simp only [fn_lead, runFn, startE, evSs, evEs, v_non, v_bl, v_int, v_str, v_var, v_glob, v_bin, v_neg, v_not, v_cmp, v_chain, v_isC, v_andL, v_orL, v_ite, v_tup, v_lst, v_idx, v_slice, v_rev, v_call, v_callD, v_callK, v_b1, v_mm, v_isi, v_lrange, v_dget, v_didx, w_assign, w_par, w_unpack, w_append, w_expr, w_ite, w_ret, w_cont, w_raise, w_aug, w_augIdx, evAnd, evOr, evO, evC, evT, look, put, puts, tgPut, wipeE, thaw, lk, lks, lkT, lost, lostT, newL, bindTo, ownL, sc_non, sc_bl, sc_int, sc_str, sc_tup, sc_lst, sc_scr, sc_mref, flat_lst, flat_int, flat_tup, flat_bl, flat_non, flat_mref, flat_scr, isL_lst, isL_tup, isL_int, isL_bl, isL_non, isL_scr, isL_mref, isL_str, opt_some, no_bind, tyD, truth, cmpD, ordI, binD, negD, isD, idxD, q1_lenL, q1_lenT, q1_lenS, q1_sumL, q1_sumT, q1_abs, q1_listL, q1_listT, q1_tupleL, q1_tupleT, q1_intI, q1_intB, q1_all, q1_min, q1_max, items, fin, pure_bind, bind_assoc, optI, sliceD, List.set_cons_succ, List.set_cons_zero, List.getElem?_cons_succ, List.getElem?_cons_zero, List.getElem?_nil, Option.bind_some, Option.map_some, Option.map_none, List.length_map, List.length_cons, List.length_nil, List.map_cons, List.map_nil, List.cons_append, List.nil_append, List.append_nil, List.replicate_succ, List.replicate_zero, Nat.reduceAdd, Nat.reduceSub, Nat.reduceLeDiff, Nat.reduceLT, if_true, if_false, ite_true, ite_false, Bool.or_true, Bool.or_false, Bool.true_or, Bool.false_or, Bool.and_true, Bool.true_and, Bool.and_false, Bool.false_and, Bool.not_true, Bool.not_false, List.all_cons, List.all_nil, Bool.false_eq_true, reduceIte, e_need_two h1 h2 g a1 a2 b1 b2 ab, e_need_worths hw hl, e_totals_of (show 0 ≤ h by omega) (show h ≤ 1000 by omega) g.2.2, tot_atI a1 a2, tot_atI b1 b2]
theorem e_signs_so {a b : Int} {r : List Int} (ab : a ≠ b) (hl : r.length ≤ 1000) : callN tbl S (n + 1) 13 [.tup (iD r), .int a, .int b] = pure (.lst (iD (r.map (sgn a b)))) := by
  rw [c_law_signs_so]
  have hc : evE S (callN tbl S n) (.comp [3] (.one 3) (.seq (.var 0)) .none (.dget (.cons (.var 1) (.cons (.int 1) (.cons (.var 2) (.cons (.neg (.int 1)) .nil)))) (.var 3) (.int 0))) [some (false, .tup (iD r)), some (false, .int a), some (false, .int b), none] = pure (.lst (r.map fun x => .int (sgn a b x))) := by
    refine evComp D.int _ (by simp only [runFn, startE, evSs, evEs, v_non, v_bl, v_int, v_str, v_var, v_glob, v_bin, v_neg, v_not, v_cmp, v_chain, v_isC, v_andL, v_orL, v_ite, v_tup, v_lst, v_idx, v_slice, v_rev, v_call, v_callD, v_callK, v_b1, v_mm, v_isi, v_lrange, v_dget, v_didx, w_assign, w_par, w_unpack, w_append, w_expr, w_ite, w_ret, w_cont, w_raise, w_aug, w_augIdx, evAnd, evOr, evO, evC, evT, look, put, puts, tgPut, wipeE, thaw, lk, lks, lkT, lost, lostT, newL, bindTo, ownL, sc_non, sc_bl, sc_int, sc_str, sc_tup, sc_lst, sc_scr, sc_mref, flat_lst, flat_int, flat_tup, flat_bl, flat_non, flat_mref, flat_scr, isL_lst, isL_tup, isL_int, isL_bl, isL_non, isL_scr, isL_mref, isL_str, opt_some, no_bind, tyD, truth, cmpD, ordI, binD, negD, isD, idxD, q1_lenL, q1_lenT, q1_lenS, q1_sumL, q1_sumT, q1_abs, q1_listL, q1_listT, q1_tupleL, q1_tupleT, q1_intI, q1_intB, q1_all, q1_min, q1_max, items, fin, pure_bind, bind_assoc, optI, sliceD, List.set_cons_succ, List.set_cons_zero, List.getElem?_cons_succ, List.getElem?_cons_zero, List.getElem?_nil, Option.bind_some, Option.map_some, Option.map_none, List.length_map, List.length_cons, List.length_nil, List.map_cons, List.map_nil, List.cons_append, List.nil_append, List.append_nil, List.replicate_succ, List.replicate_zero, Nat.reduceAdd, Nat.reduceSub, Nat.reduceLeDiff, Nat.reduceLT, if_true, if_false, ite_true, ite_false, Bool.or_true, Bool.or_false, Bool.true_or, Bool.false_or, Bool.and_true, Bool.true_and, Bool.and_false, Bool.false_and, Bool.not_true, Bool.not_false, List.all_cons, List.all_nil, Bool.false_eq_true, reduceIte]) (fun x hx => ⟨_, rfl, ?_⟩) (by omega)
    simp only [runFn, startE, evSs, evEs, v_non, v_bl, v_int, v_str, v_var, v_glob, v_bin, v_neg, v_not, v_cmp, v_chain, v_isC, v_andL, v_orL, v_ite, v_tup, v_lst, v_idx, v_slice, v_rev, v_call, v_callD, v_callK, v_b1, v_mm, v_isi, v_lrange, v_dget, v_didx, w_assign, w_par, w_unpack, w_append, w_expr, w_ite, w_ret, w_cont, w_raise, w_aug, w_augIdx, evAnd, evOr, evO, evC, evT, look, put, puts, tgPut, wipeE, thaw, lk, lks, lkT, lost, lostT, newL, bindTo, ownL, sc_non, sc_bl, sc_int, sc_str, sc_tup, sc_lst, sc_scr, sc_mref, flat_lst, flat_int, flat_tup, flat_bl, flat_non, flat_mref, flat_scr, isL_lst, isL_tup, isL_int, isL_bl, isL_non, isL_scr, isL_mref, isL_str, opt_some, no_bind, tyD, truth, cmpD, ordI, binD, negD, isD, idxD, q1_lenL, q1_lenT, q1_lenS, q1_sumL, q1_sumT, q1_abs, q1_listL, q1_listT, q1_tupleL, q1_tupleT, q1_intI, q1_intB, q1_all, q1_min, q1_max, items, fin, pure_bind, bind_assoc, optI, sliceD, List.set_cons_succ, List.set_cons_zero, List.getElem?_cons_succ, List.getElem?_cons_zero, List.getElem?_nil, Option.bind_some, Option.map_some, Option.map_none, List.length_map, List.length_cons, List.length_nil, List.map_cons, List.map_nil, List.cons_append, List.nil_append, List.append_nil, List.replicate_succ, List.replicate_zero, Nat.reduceAdd, Nat.reduceSub, Nat.reduceLeDiff, Nat.reduceLT, if_true, if_false, ite_true, ite_false, Bool.or_true, Bool.or_false, Bool.true_or, Bool.false_or, Bool.and_true, Bool.true_and, Bool.and_false, Bool.false_and, Bool.not_true, Bool.not_false, List.all_cons, List.all_nil, Bool.false_eq_true, reduceIte, evPs, pairD, dgetD, dlook, List.foldl_cons, List.foldl_nil, Option.getD]
    unfold sgn
    by_cases e1 : x = a <;> by_cases e2 : x = b
    · exact absurd (e1.symm.trans e2) ab
    · simp [e1, ab]
    · simp [e1, e2, Ne.symm ab]
    · simp [e1, e2]
  simp only [fn_law_signs_so, runFn, startE, evSs, evEs, v_non, v_bl, v_int, v_str, v_var, v_glob, v_bin, v_neg, v_not, v_cmp, v_chain, v_isC, v_andL, v_orL, v_ite, v_tup, v_lst, v_idx, v_slice, v_rev, v_call, v_callD, v_callK, v_b1, v_mm, v_isi, v_lrange, v_dget, v_didx, w_assign, w_par, w_unpack, w_append, w_expr, w_ite, w_ret, w_cont, w_raise, w_aug, w_augIdx, evAnd, evOr, evO, evC, evT, look, put, puts, tgPut, wipeE, thaw, lk, lks, lkT, lost, lostT, newL, bindTo, ownL, sc_non, sc_bl, sc_int, sc_str, sc_tup, sc_lst, sc_scr, sc_mref, flat_lst, flat_int, flat_tup, flat_bl, flat_non, flat_mref, flat_scr, isL_lst, isL_tup, isL_int, isL_bl, isL_non, isL_scr, isL_mref, isL_str, opt_some, no_bind, tyD, truth, cmpD, ordI, binD, negD, isD, idxD, q1_lenL, q1_lenT, q1_lenS, q1_sumL, q1_sumT, q1_abs, q1_listL, q1_listT, q1_tupleL, q1_tupleT, q1_intI, q1_intB, q1_all, q1_min, q1_max, items, fin, pure_bind, bind_assoc, optI, sliceD, List.set_cons_succ, List.set_cons_zero, List.getElem?_cons_succ, List.getElem?_cons_zero, List.getElem?_nil, Option.bind_some, Option.map_some, Option.map_none, List.length_map, List.length_cons, List.length_nil, List.map_cons, List.map_nil, List.cons_append, List.nil_append, List.append_nil, List.replicate_succ, List.replicate_zero, Nat.reduceAdd, Nat.reduceSub, Nat.reduceLeDiff, Nat.reduceLT, if_true, if_false, ite_true, ite_false, Bool.or_true, Bool.or_false, Bool.true_or, Bool.false_or, Bool.and_true, Bool.true_and, Bool.and_false, Bool.false_and, Bool.not_true, Bool.not_false, List.all_cons, List.all_nil, Bool.false_eq_true, reduceIte, hc, List.map_map, Function.comp_def]
theorem intsOf_iD (l : List Int) : intsOf (iD l) = some l := intsOf_map l
theorem e_lead_so {a b : Int} {r w : List Int} (ab : a ≠ b) (hl : r.length ≤ 1000) : callN tbl S (n + 2) 15 [.tup (iD r), .int a, .int b, .tup (iD w)] = pure (.int (((r.map (sgn a b)).zip w).map fun p => p.1 * p.2).sum) := by
  rw [c_law_lead_so]
  have hc : evE S (callN tbl S (n + 1)) (.comp [4, 5] (.many [4, 5]) (.zip (.call 13 (.cons (.var 0) (.cons (.var 1) (.cons (.var 2) .nil)))) (.var 3)) .none (.bin .mul (.var 4) (.var 5))) [some (false, .tup (iD r)), some (false, .int a), some (false, .int b), some (false, .tup (iD w)), none, none] =
      pure (.lst (((r.map (sgn a b)).zip w).map fun p => .int (p.1 * p.2))) := by
    refine evComp (fun p : Int × Int => D.tup [.int p.1, .int p.2]) _ (by simp only [runFn, startE, evSs, evEs, v_non, v_bl, v_int, v_str, v_var, v_glob, v_bin, v_neg, v_not, v_cmp, v_chain, v_isC, v_andL, v_orL, v_ite, v_tup, v_lst, v_idx, v_slice, v_rev, v_call, v_callD, v_callK, v_b1, v_mm, v_isi, v_lrange, v_dget, v_didx, w_assign, w_par, w_unpack, w_append, w_expr, w_ite, w_ret, w_cont, w_raise, w_aug, w_augIdx, evAnd, evOr, evO, evC, evT, look, put, puts, tgPut, wipeE, thaw, lk, lks, lkT, lost, lostT, newL, bindTo, ownL, sc_non, sc_bl, sc_int, sc_str, sc_tup, sc_lst, sc_scr, sc_mref, flat_lst, flat_int, flat_tup, flat_bl, flat_non, flat_mref, flat_scr, isL_lst, isL_tup, isL_int, isL_bl, isL_non, isL_scr, isL_mref, isL_str, opt_some, no_bind, tyD, truth, cmpD, ordI, binD, negD, isD, idxD, q1_lenL, q1_lenT, q1_lenS, q1_sumL, q1_sumT, q1_abs, q1_listL, q1_listT, q1_tupleL, q1_tupleT, q1_intI, q1_intB, q1_all, q1_min, q1_max, items, fin, pure_bind, bind_assoc, optI, sliceD, List.set_cons_succ, List.set_cons_zero, List.getElem?_cons_succ, List.getElem?_cons_zero, List.getElem?_nil, Option.bind_some, Option.map_some, Option.map_none, List.length_map, List.length_cons, List.length_nil, List.map_cons, List.map_nil, List.cons_append, List.nil_append, List.append_nil, List.replicate_succ, List.replicate_zero, Nat.reduceAdd, Nat.reduceSub, Nat.reduceLeDiff, Nat.reduceLT, if_true, if_false, ite_true, ite_false, Bool.or_true, Bool.or_false, Bool.true_or, Bool.false_or, Bool.and_true, Bool.true_and, Bool.and_false, Bool.false_and, Bool.not_true, Bool.not_false, List.all_cons, List.all_nil, Bool.false_eq_true, reduceIte, e_signs_so ab hl, zip_iD]) (fun p hp => ⟨_, rfl, ?_⟩) ?_
    · have hs := (List.of_mem_zip hp).1
      obtain ⟨x, _, hx⟩ := List.mem_map.mp hs
      have hb : -(2 ^ 64) < p.1 ∧ p.1 < 2 ^ 64 := by
        rw [← hx]
        unfold sgn
        constructor <;> split <;> split <;> decide
      simp only [runFn, startE, evSs, evEs, v_non, v_bl, v_int, v_str, v_var, v_glob, v_bin, v_neg, v_not, v_cmp, v_chain, v_isC, v_andL, v_orL, v_ite, v_tup, v_lst, v_idx, v_slice, v_rev, v_call, v_callD, v_callK, v_b1, v_mm, v_isi, v_lrange, v_dget, v_didx, w_assign, w_par, w_unpack, w_append, w_expr, w_ite, w_ret, w_cont, w_raise, w_aug, w_augIdx, evAnd, evOr, evO, evC, evT, look, put, puts, tgPut, wipeE, thaw, lk, lks, lkT, lost, lostT, newL, bindTo, ownL, sc_non, sc_bl, sc_int, sc_str, sc_tup, sc_lst, sc_scr, sc_mref, flat_lst, flat_int, flat_tup, flat_bl, flat_non, flat_mref, flat_scr, isL_lst, isL_tup, isL_int, isL_bl, isL_non, isL_scr, isL_mref, isL_str, opt_some, no_bind, tyD, truth, cmpD, ordI, binD, negD, isD, idxD, q1_lenL, q1_lenT, q1_lenS, q1_sumL, q1_sumT, q1_abs, q1_listL, q1_listT, q1_tupleL, q1_tupleT, q1_intI, q1_intB, q1_all, q1_min, q1_max, items, fin, pure_bind, bind_assoc, optI, sliceD, List.set_cons_succ, List.set_cons_zero, List.getElem?_cons_succ, List.getElem?_cons_zero, List.getElem?_nil, Option.bind_some, Option.map_some, Option.map_none, List.length_map, List.length_cons, List.length_nil, List.map_cons, List.map_nil, List.cons_append, List.nil_append, List.append_nil, List.replicate_succ, List.replicate_zero, Nat.reduceAdd, Nat.reduceSub, Nat.reduceLeDiff, Nat.reduceLT, if_true, if_false, ite_true, ite_false, Bool.or_true, Bool.or_false, Bool.true_or, Bool.false_or, Bool.and_true, Bool.true_and, Bool.and_false, Bool.false_and, Bool.not_true, Bool.not_false, List.all_cons, List.all_nil, Bool.false_eq_true, reduceIte]
      exact opt_if (.inl hb)
    · rw [List.length_zip, List.length_map]
      omega
  simp only [fn_law_lead_so, runFn, startE, evSs, evEs, v_non, v_bl, v_int, v_str, v_var, v_glob, v_bin, v_neg, v_not, v_cmp, v_chain, v_isC, v_andL, v_orL, v_ite, v_tup, v_lst, v_idx, v_slice, v_rev, v_call, v_callD, v_callK, v_b1, v_mm, v_isi, v_lrange, v_dget, v_didx, w_assign, w_par, w_unpack, w_append, w_expr, w_ite, w_ret, w_cont, w_raise, w_aug, w_augIdx, evAnd, evOr, evO, evC, evT, look, put, puts, tgPut, wipeE, thaw, lk, lks, lkT, lost, lostT, newL, bindTo, ownL, sc_non, sc_bl, sc_int, sc_str, sc_tup, sc_lst, sc_scr, sc_mref, flat_lst, flat_int, flat_tup, flat_bl, flat_non, flat_mref, flat_scr, isL_lst, isL_tup, isL_int, isL_bl, isL_non, isL_scr, isL_mref, isL_str, opt_some, no_bind, tyD, truth, cmpD, ordI, binD, negD, isD, idxD, q1_lenL, q1_lenT, q1_lenS, q1_sumL, q1_sumT, q1_abs, q1_listL, q1_listT, q1_tupleL, q1_tupleT, q1_intI, q1_intB, q1_all, q1_min, q1_max, items, fin, pure_bind, bind_assoc, optI, sliceD, List.set_cons_succ, List.set_cons_zero, List.getElem?_cons_succ, List.getElem?_cons_zero, List.getElem?_nil, Option.bind_some, Option.map_some, Option.map_none, List.length_map, List.length_cons, List.length_nil, List.map_cons, List.map_nil, List.cons_append, List.nil_append, List.append_nil, List.replicate_succ, List.replicate_zero, Nat.reduceAdd, Nat.reduceSub, Nat.reduceLeDiff, Nat.reduceLT, if_true, if_false, ite_true, ite_false, Bool.or_true, Bool.or_false, Bool.true_or, Bool.false_or, Bool.and_true, Bool.true_and, Bool.and_false, Bool.false_and, Bool.not_true, Bool.not_false, List.all_cons, List.all_nil, Bool.false_eq_true, reduceIte, hc]
  have : (((r.map (sgn a b)).zip w).map fun p => D.int (p.1 * p.2)) = iD (((r.map (sgn a b)).zip w).map fun p => p.1 * p.2) := by
    show _ = List.map D.int _
    rw [List.map_map]
    rfl
  rw [this, intsOf_iD]
  rfl
end
end Ev

set_option Elab.async false
set_option linter.all false
set_option maxRecDepth 100000
set_option maxHeartbeats 1000000
namespace Ev
section
variable {S : List Int}
def thin (v : Int) (p : List Nat) : Int := p.foldl (fun s _ => s / 1000003) v
theorem atI_ok {α : Type} {l : List α} {a : Int} (h1 : 0 ≤ a) (h2 : a < l.length) : L2.atI l a = some (l[a.toNat]'(by omega)) := by
  unfold L2.atI
  rw [ixN_ok h1 h2, Option.bind_some, List.getElem?_eq_getElem (by omega)]
theorem cell_ex (hS : S.length ≤ 63) (k : Nat) : ∃ c : Int, ∀ n, callN tbl S (n + 1) 10 [.scr, .int k] = pure (.int c) := by
  by_cases h : k < S.length
  · refine ⟨S[k], fun n => ?_⟩
    rw [c_law_cell_at]
    simp only [fn_law_cell_at, runFn, startE, evSs, evEs, v_non, v_bl, v_int, v_str, v_var, v_glob, v_bin, v_neg, v_not, v_cmp, v_chain, v_isC, v_andL, v_orL, v_ite, v_tup, v_lst, v_idx, v_slice, v_rev, v_call, v_callD, v_callK, v_b1, v_mm, v_isi, v_lrange, v_dget, v_didx, w_assign, w_par, w_unpack, w_append, w_expr, w_ite, w_ret, w_cont, w_raise, w_aug, w_augIdx, evAnd, evOr, evO, evC, evT, look, put, puts, tgPut, wipeE, thaw, lk, lks, lkT, lost, lostT, newL, bindTo, ownL, sc_non, sc_bl, sc_int, sc_str, sc_tup, sc_lst, sc_scr, sc_mref, flat_lst, flat_int, flat_tup, flat_bl, flat_non, flat_mref, flat_scr, isL_lst, isL_tup, isL_int, isL_bl, isL_non, isL_scr, isL_mref, isL_str, opt_some, no_bind, tyD, truth, cmpD, ordI, binD, negD, isD, idxD, q1_lenL, q1_lenT, q1_lenS, q1_sumL, q1_sumT, q1_abs, q1_listL, q1_listT, q1_tupleL, q1_tupleT, q1_intI, q1_intB, q1_all, q1_min, q1_max, items, fin, pure_bind, bind_assoc, optI, sliceD, List.set_cons_succ, List.set_cons_zero, List.getElem?_cons_succ, List.getElem?_cons_zero, List.getElem?_nil, Option.bind_some, Option.map_some, Option.map_none, List.length_map, List.length_cons, List.length_nil, List.map_cons, List.map_nil, List.cons_append, List.nil_append, List.append_nil, List.replicate_succ, List.replicate_zero, Nat.reduceAdd, Nat.reduceSub, Nat.reduceLeDiff, Nat.reduceLT, if_true, if_false, ite_true, ite_false, Bool.or_true, Bool.or_false, Bool.true_or, Bool.false_or, Bool.and_true, Bool.true_and, Bool.and_false, Bool.false_and, Bool.not_true, Bool.not_false, List.all_cons, List.all_nil, Bool.false_eq_true, reduceIte, decide_eq_true (show (k : Int) < S.length by omega), atI_ok (l := S) (show (0 : Int) ≤ k by omega) (show (k : Int) < S.length by omega)]
    rfl
  · by_cases h0 : S = []
    · subst h0
      refine ⟨0, fun n => ?_⟩
      rw [c_law_cell_at]
      simp only [fn_law_cell_at, runFn, startE, evSs, evEs, v_non, v_bl, v_int, v_str, v_var, v_glob, v_bin, v_neg, v_not, v_cmp, v_chain, v_isC, v_andL, v_orL, v_ite, v_tup, v_lst, v_idx, v_slice, v_rev, v_call, v_callD, v_callK, v_b1, v_mm, v_isi, v_lrange, v_dget, v_didx, w_assign, w_par, w_unpack, w_append, w_expr, w_ite, w_ret, w_cont, w_raise, w_aug, w_augIdx, evAnd, evOr, evO, evC, evT, look, put, puts, tgPut, wipeE, thaw, lk, lks, lkT, lost, lostT, newL, bindTo, ownL, sc_non, sc_bl, sc_int, sc_str, sc_tup, sc_lst, sc_scr, sc_mref, flat_lst, flat_int, flat_tup, flat_bl, flat_non, flat_mref, flat_scr, isL_lst, isL_tup, isL_int, isL_bl, isL_non, isL_scr, isL_mref, isL_str, opt_some, no_bind, tyD, truth, cmpD, ordI, binD, negD, isD, idxD, q1_lenL, q1_lenT, q1_lenS, q1_sumL, q1_sumT, q1_abs, q1_listL, q1_listT, q1_tupleL, q1_tupleT, q1_intI, q1_intB, q1_all, q1_min, q1_max, items, fin, pure_bind, bind_assoc, optI, sliceD, List.set_cons_succ, List.set_cons_zero, List.getElem?_cons_succ, List.getElem?_cons_zero, List.getElem?_nil, Option.bind_some, Option.map_some, Option.map_none, List.length_map, List.length_cons, List.length_nil, List.map_cons, List.map_nil, List.cons_append, List.nil_append, List.append_nil, List.replicate_succ, List.replicate_zero, Nat.reduceAdd, Nat.reduceSub, Nat.reduceLeDiff, Nat.reduceLT, if_true, if_false, ite_true, ite_false, Bool.or_true, Bool.or_false, Bool.true_or, Bool.false_or, Bool.and_true, Bool.true_and, Bool.and_false, Bool.false_and, Bool.not_true, Bool.not_false, List.all_cons, List.all_nil, Bool.false_eq_true, reduceIte, decide_eq_false (show ¬ (k : Int) < (0 : Nat) by omega), List.isEmpty_nil]
    · have hl : 0 < S.length := by
        cases S with
        | nil => exact absurd rfl h0
        | cons _ _ => simp
      have he : S.isEmpty = false := by
        cases S with
        | nil => exact absurd rfl h0
        | cons _ _ => rfl
      have m1 : (0 : Int) ≤ (k : Int) % S.length := Int.emod_nonneg _ (by omega)
      have m2 : (k : Int) % S.length < S.length := Int.emod_lt_of_pos _ (by omega)
      generalize hv : S[((k : Int) % S.length).toNat]'(by omega) = v
      have hat : L2.atI S ((k : Int) % S.length) = some v := by rw [atI_ok m1 m2, hv]
      have q0 : (0 : Int) ≤ (k : Int) / S.length := Int.ediv_nonneg (by omega) (by omega)
      generalize hm : (if (60 : Int) < (k : Int) / S.length then 60 else (k : Int) / S.length) = m
      have hm1 : 0 ≤ m ∧ m ≤ 60 := by
        rw [← hm]
        split <;> omega
      refine ⟨v * 31 + k + thin v (List.range m.toNat) * 101, fun n => ?_⟩
      rw [c_law_cell_at]
      obtain ⟨u, hn, hu⟩ : ∃ u : List Nat → Option (Bool × D), u [] = none ∧ ∀ ps x, u (ps ++ [x]) = some (false, .int (0 + (x : Nat))) := ⟨fun ps => ps.getLast?.map fun p => (false, .int (0 + (p : Nat))), rfl, by simp⟩
      have hf := forM_next (step := fun d ρ => M.opt (tgPut ρ (.one 3) d) >>= fun ρ1 => evSs S (callN tbl S n) (.cons (.assign 2 (.bin .fdiv (.var 2) (.int 1000003))) .nil) ρ1) (fun k : Nat => D.int (0 + (k : Nat)))
        (fun ps => [some (false, .scr), some (false, .int k), some (false, .int (thin v ps)), u ps]) (xs := List.range m.toNat) fun ps x rs e => by
        have ht : thin v (ps ++ [x]) = thin v ps / 1000003 := by unfold thin; rw [List.foldl_append]; rfl
        rw [hu, ht]
        generalize thin v ps = q
        simp only [runFn, startE, evSs, evEs, v_non, v_bl, v_int, v_str, v_var, v_glob, v_bin, v_neg, v_not, v_cmp, v_chain, v_isC, v_andL, v_orL, v_ite, v_tup, v_lst, v_idx, v_slice, v_rev, v_call, v_callD, v_callK, v_b1, v_mm, v_isi, v_lrange, v_dget, v_didx, w_assign, w_par, w_unpack, w_append, w_expr, w_ite, w_ret, w_cont, w_raise, w_aug, w_augIdx, evAnd, evOr, evO, evC, evT, look, put, puts, tgPut, wipeE, thaw, lk, lks, lkT, lost, lostT, newL, bindTo, ownL, sc_non, sc_bl, sc_int, sc_str, sc_tup, sc_lst, sc_scr, sc_mref, flat_lst, flat_int, flat_tup, flat_bl, flat_non, flat_mref, flat_scr, isL_lst, isL_tup, isL_int, isL_bl, isL_non, isL_scr, isL_mref, isL_str, opt_some, no_bind, tyD, truth, cmpD, ordI, binD, negD, isD, idxD, q1_lenL, q1_lenT, q1_lenS, q1_sumL, q1_sumT, q1_abs, q1_listL, q1_listT, q1_tupleL, q1_tupleT, q1_intI, q1_intB, q1_all, q1_min, q1_max, items, fin, pure_bind, bind_assoc, optI, sliceD, List.set_cons_succ, List.set_cons_zero, List.getElem?_cons_succ, List.getElem?_cons_zero, List.getElem?_nil, Option.bind_some, Option.map_some, Option.map_none, List.length_map, List.length_cons, List.length_nil, List.map_cons, List.map_nil, List.cons_append, List.nil_append, List.append_nil, List.replicate_succ, List.replicate_zero, Nat.reduceAdd, Nat.reduceSub, Nat.reduceLeDiff, Nat.reduceLT, if_true, if_false, ite_true, ite_false, Bool.or_true, Bool.or_false, Bool.true_or, Bool.false_or, Bool.and_true, Bool.true_and, Bool.and_false, Bool.false_and, Bool.not_true, Bool.not_false, List.all_cons, List.all_nil, Bool.false_eq_true, reduceIte]
        rw [opt_if (by decide)]
        simp only [runFn, startE, evSs, evEs, v_non, v_bl, v_int, v_str, v_var, v_glob, v_bin, v_neg, v_not, v_cmp, v_chain, v_isC, v_andL, v_orL, v_ite, v_tup, v_lst, v_idx, v_slice, v_rev, v_call, v_callD, v_callK, v_b1, v_mm, v_isi, v_lrange, v_dget, v_didx, w_assign, w_par, w_unpack, w_append, w_expr, w_ite, w_ret, w_cont, w_raise, w_aug, w_augIdx, evAnd, evOr, evO, evC, evT, look, put, puts, tgPut, wipeE, thaw, lk, lks, lkT, lost, lostT, newL, bindTo, ownL, sc_non, sc_bl, sc_int, sc_str, sc_tup, sc_lst, sc_scr, sc_mref, flat_lst, flat_int, flat_tup, flat_bl, flat_non, flat_mref, flat_scr, isL_lst, isL_tup, isL_int, isL_bl, isL_non, isL_scr, isL_mref, isL_str, opt_some, no_bind, tyD, truth, cmpD, ordI, binD, negD, isD, idxD, q1_lenL, q1_lenT, q1_lenS, q1_sumL, q1_sumT, q1_abs, q1_listL, q1_listT, q1_tupleL, q1_tupleT, q1_intI, q1_intB, q1_all, q1_min, q1_max, items, fin, pure_bind, bind_assoc, optI, sliceD, List.set_cons_succ, List.set_cons_zero, List.getElem?_cons_succ, List.getElem?_cons_zero, List.getElem?_nil, Option.bind_some, Option.map_some, Option.map_none, List.length_map, List.length_cons, List.length_nil, List.map_cons, List.map_nil, List.cons_append, List.nil_append, List.append_nil, List.replicate_succ, List.replicate_zero, Nat.reduceAdd, Nat.reduceSub, Nat.reduceLeDiff, Nat.reduceLT, if_true, if_false, ite_true, ite_false, Bool.or_true, Bool.or_false, Bool.true_or, Bool.false_or, Bool.and_true, Bool.true_and, Bool.and_false, Bool.false_and, Bool.not_true, Bool.not_false, List.all_cons, List.all_nil, Bool.false_eq_true, reduceIte]
      rw [hn] at hf
      have ht : thin v [] = v := rfl
      rw [ht] at hf
      simp only [fn_law_cell_at, runFn, startE, evSs, evEs, v_non, v_bl, v_int, v_str, v_var, v_glob, v_bin, v_neg, v_not, v_cmp, v_chain, v_isC, v_andL, v_orL, v_ite, v_tup, v_lst, v_idx, v_slice, v_rev, v_call, v_callD, v_callK, v_b1, v_mm, v_isi, v_lrange, v_dget, v_didx, w_assign, w_par, w_unpack, w_append, w_expr, w_ite, w_ret, w_cont, w_raise, w_aug, w_augIdx, evAnd, evOr, evO, evC, evT, look, put, puts, tgPut, wipeE, thaw, lk, lks, lkT, lost, lostT, newL, bindTo, ownL, sc_non, sc_bl, sc_int, sc_str, sc_tup, sc_lst, sc_scr, sc_mref, flat_lst, flat_int, flat_tup, flat_bl, flat_non, flat_mref, flat_scr, isL_lst, isL_tup, isL_int, isL_bl, isL_non, isL_scr, isL_mref, isL_str, opt_some, no_bind, tyD, truth, cmpD, ordI, binD, negD, isD, idxD, q1_lenL, q1_lenT, q1_lenS, q1_sumL, q1_sumT, q1_abs, q1_listL, q1_listT, q1_tupleL, q1_tupleT, q1_intI, q1_intB, q1_all, q1_min, q1_max, items, fin, pure_bind, bind_assoc, optI, sliceD, List.set_cons_succ, List.set_cons_zero, List.getElem?_cons_succ, List.getElem?_cons_zero, List.getElem?_nil, Option.bind_some, Option.map_some, Option.map_none, List.length_map, List.length_cons, List.length_nil, List.map_cons, List.map_nil, List.cons_append, List.nil_append, List.append_nil, List.replicate_succ, List.replicate_zero, Nat.reduceAdd, Nat.reduceSub, Nat.reduceLeDiff, Nat.reduceLT, if_true, if_false, ite_true, ite_false, Bool.or_true, Bool.or_false, Bool.true_or, Bool.false_or, Bool.and_true, Bool.true_and, Bool.and_false, Bool.false_and, Bool.not_true, Bool.not_false, List.all_cons, List.all_nil, Bool.false_eq_true, reduceIte, decide_eq_false (show ¬ (k : Int) < S.length by omega), he, show (0 : Int) < S.length by omega, hat]
      rw [w_for (ds := rngD 0 m) (by
        simp only [runFn, startE, evSs, evEs, v_non, v_bl, v_int, v_str, v_var, v_glob, v_bin, v_neg, v_not, v_cmp, v_chain, v_isC, v_andL, v_orL, v_ite, v_tup, v_lst, v_idx, v_slice, v_rev, v_call, v_callD, v_callK, v_b1, v_mm, v_isi, v_lrange, v_dget, v_didx, w_assign, w_par, w_unpack, w_append, w_expr, w_ite, w_ret, w_cont, w_raise, w_aug, w_augIdx, evAnd, evOr, evO, evC, evT, look, put, puts, tgPut, wipeE, thaw, lk, lks, lkT, lost, lostT, newL, bindTo, ownL, sc_non, sc_bl, sc_int, sc_str, sc_tup, sc_lst, sc_scr, sc_mref, flat_lst, flat_int, flat_tup, flat_bl, flat_non, flat_mref, flat_scr, isL_lst, isL_tup, isL_int, isL_bl, isL_non, isL_scr, isL_mref, isL_str, opt_some, no_bind, tyD, truth, cmpD, ordI, binD, negD, isD, idxD, q1_lenL, q1_lenT, q1_lenS, q1_sumL, q1_sumT, q1_abs, q1_listL, q1_listT, q1_tupleL, q1_tupleT, q1_intI, q1_intB, q1_all, q1_min, q1_max, items, fin, pure_bind, bind_assoc, optI, sliceD, List.set_cons_succ, List.set_cons_zero, List.getElem?_cons_succ, List.getElem?_cons_zero, List.getElem?_nil, Option.bind_some, Option.map_some, Option.map_none, List.length_map, List.length_cons, List.length_nil, List.map_cons, List.map_nil, List.cons_append, List.nil_append, List.append_nil, List.replicate_succ, List.replicate_zero, Nat.reduceAdd, Nat.reduceSub, Nat.reduceLeDiff, Nat.reduceLT, if_true, if_false, ite_true, ite_false, Bool.or_true, Bool.or_false, Bool.true_or, Bool.false_or, Bool.and_true, Bool.true_and, Bool.and_false, Bool.false_and, Bool.not_true, Bool.not_false, List.all_cons, List.all_nil, Bool.false_eq_true, reduceIte, show (0 : Int) < S.length by omega, show (S.length : Int) < 1073741824 by omega, and_self, gt_iff_lt, hm]
        rw [opt_if (show small62 m = true by unfold small62; exact decide_eq_true (by omega))])]
      simp only [lostT, thaw, lkT, lk, newL, List.set_cons_succ, List.set_cons_zero, List.getElem?_cons_succ, List.getElem?_cons_zero, List.getElem?_nil, Option.bind_some, Option.map_some, Option.map_none, List.length_map, List.length_cons, List.length_nil, List.map_cons, List.map_nil, List.cons_append, List.nil_append, List.append_nil, List.replicate_succ, List.replicate_zero, Nat.reduceAdd, Nat.reduceSub, Nat.reduceLeDiff, Nat.reduceLT, if_true, if_false, ite_true, ite_false, Bool.or_true, Bool.or_false, Bool.true_or, Bool.false_or, Bool.and_true, Bool.true_and, Bool.and_false, Bool.false_and, Bool.not_true, Bool.not_false, List.all_cons, List.all_nil, Bool.false_eq_true, reduceIte]
      have hr : rngD 0 m = (List.range m.toNat).map fun k => D.int (0 + (k : Nat)) := by unfold rngD; rw [Int.sub_zero]
      rw [hr, hf]
      simp only [runFn, startE, evSs, evEs, v_non, v_bl, v_int, v_str, v_var, v_glob, v_bin, v_neg, v_not, v_cmp, v_chain, v_isC, v_andL, v_orL, v_ite, v_tup, v_lst, v_idx, v_slice, v_rev, v_call, v_callD, v_callK, v_b1, v_mm, v_isi, v_lrange, v_dget, v_didx, w_assign, w_par, w_unpack, w_append, w_expr, w_ite, w_ret, w_cont, w_raise, w_aug, w_augIdx, evAnd, evOr, evO, evC, evT, look, put, puts, tgPut, wipeE, thaw, lk, lks, lkT, lost, lostT, newL, bindTo, ownL, sc_non, sc_bl, sc_int, sc_str, sc_tup, sc_lst, sc_scr, sc_mref, flat_lst, flat_int, flat_tup, flat_bl, flat_non, flat_mref, flat_scr, isL_lst, isL_tup, isL_int, isL_bl, isL_non, isL_scr, isL_mref, isL_str, opt_some, no_bind, tyD, truth, cmpD, ordI, binD, negD, isD, idxD, q1_lenL, q1_lenT, q1_lenS, q1_sumL, q1_sumT, q1_abs, q1_listL, q1_listT, q1_tupleL, q1_tupleT, q1_intI, q1_intB, q1_all, q1_min, q1_max, items, fin, pure_bind, bind_assoc, optI, sliceD, List.set_cons_succ, List.set_cons_zero, List.getElem?_cons_succ, List.getElem?_cons_zero, List.getElem?_nil, Option.bind_some, Option.map_some, Option.map_none, List.length_map, List.length_cons, List.length_nil, List.map_cons, List.map_nil, List.cons_append, List.nil_append, List.append_nil, List.replicate_succ, List.replicate_zero, Nat.reduceAdd, Nat.reduceSub, Nat.reduceLeDiff, Nat.reduceLT, if_true, if_false, ite_true, ite_false, Bool.or_true, Bool.or_false, Bool.true_or, Bool.false_or, Bool.and_true, Bool.true_and, Bool.and_false, Bool.false_and, Bool.not_true, Bool.not_false, List.all_cons, List.all_nil, Bool.false_eq_true, reduceIte, show (0 : Int) < S.length by omega, hat]
      rw [opt_if (.inr (by decide))]
      simp only [runFn, startE, evSs, evEs, v_non, v_bl, v_int, v_str, v_var, v_glob, v_bin, v_neg, v_not, v_cmp, v_chain, v_isC, v_andL, v_orL, v_ite, v_tup, v_lst, v_idx, v_slice, v_rev, v_call, v_callD, v_callK, v_b1, v_mm, v_isi, v_lrange, v_dget, v_didx, w_assign, w_par, w_unpack, w_append, w_expr, w_ite, w_ret, w_cont, w_raise, w_aug, w_augIdx, evAnd, evOr, evO, evC, evT, look, put, puts, tgPut, wipeE, thaw, lk, lks, lkT, lost, lostT, newL, bindTo, ownL, sc_non, sc_bl, sc_int, sc_str, sc_tup, sc_lst, sc_scr, sc_mref, flat_lst, flat_int, flat_tup, flat_bl, flat_non, flat_mref, flat_scr, isL_lst, isL_tup, isL_int, isL_bl, isL_non, isL_scr, isL_mref, isL_str, opt_some, no_bind, tyD, truth, cmpD, ordI, binD, negD, isD, idxD, q1_lenL, q1_lenT, q1_lenS, q1_sumL, q1_sumT, q1_abs, q1_listL, q1_listT, q1_tupleL, q1_tupleT, q1_intI, q1_intB, q1_all, q1_min, q1_max, items, fin, pure_bind, bind_assoc, optI, sliceD, List.set_cons_succ, List.set_cons_zero, List.getElem?_cons_succ, List.getElem?_cons_zero, List.getElem?_nil, Option.bind_some, Option.map_some, Option.map_none, List.length_map, List.length_cons, List.length_nil, List.map_cons, List.map_nil, List.cons_append, List.nil_append, List.append_nil, List.replicate_succ, List.replicate_zero, Nat.reduceAdd, Nat.reduceSub, Nat.reduceLeDiff, Nat.reduceLT, if_true, if_false, ite_true, ite_false, Bool.or_true, Bool.or_false, Bool.true_or, Bool.false_or, Bool.and_true, Bool.true_and, Bool.and_false, Bool.false_and, Bool.not_true, Bool.not_false, List.all_cons, List.all_nil, Bool.false_eq_true, reduceIte]
      rw [opt_if (.inr (by decide))]
      simp only [runFn, startE, evSs, evEs, v_non, v_bl, v_int, v_str, v_var, v_glob, v_bin, v_neg, v_not, v_cmp, v_chain, v_isC, v_andL, v_orL, v_ite, v_tup, v_lst, v_idx, v_slice, v_rev, v_call, v_callD, v_callK, v_b1, v_mm, v_isi, v_lrange, v_dget, v_didx, w_assign, w_par, w_unpack, w_append, w_expr, w_ite, w_ret, w_cont, w_raise, w_aug, w_augIdx, evAnd, evOr, evO, evC, evT, look, put, puts, tgPut, wipeE, thaw, lk, lks, lkT, lost, lostT, newL, bindTo, ownL, sc_non, sc_bl, sc_int, sc_str, sc_tup, sc_lst, sc_scr, sc_mref, flat_lst, flat_int, flat_tup, flat_bl, flat_non, flat_mref, flat_scr, isL_lst, isL_tup, isL_int, isL_bl, isL_non, isL_scr, isL_mref, isL_str, opt_some, no_bind, tyD, truth, cmpD, ordI, binD, negD, isD, idxD, q1_lenL, q1_lenT, q1_lenS, q1_sumL, q1_sumT, q1_abs, q1_listL, q1_listT, q1_tupleL, q1_tupleT, q1_intI, q1_intB, q1_all, q1_min, q1_max, items, fin, pure_bind, bind_assoc, optI, sliceD, List.set_cons_succ, List.set_cons_zero, List.getElem?_cons_succ, List.getElem?_cons_zero, List.getElem?_nil, Option.bind_some, Option.map_some, Option.map_none, List.length_map, List.length_cons, List.length_nil, List.map_cons, List.map_nil, List.cons_append, List.nil_append, List.append_nil, List.replicate_succ, List.replicate_zero, Nat.reduceAdd, Nat.reduceSub, Nat.reduceLeDiff, Nat.reduceLT, if_true, if_false, ite_true, ite_false, Bool.or_true, Bool.or_false, Bool.true_or, Bool.false_or, Bool.and_true, Bool.true_and, Bool.and_false, Bool.false_and, Bool.not_true, Bool.not_false, List.all_cons, List.all_nil, Bool.false_eq_true, reduceIte]
theorem mixed_ex (hS : S.length ≤ 63) (k : Nat) {r : Int} (hr : 0 < r) : ∃ v : Int, (0 ≤ v ∧ v < r) ∧ ∀ n, callN tbl S (n + 2) 11 [.scr, .int k, .int r] = pure (.int v) := by
  obtain ⟨c, hc⟩ := cell_ex hS k
  generalize hq : (c * 1103515245 + 7919 * (k : Int) + 12345) % 2147483647 = q
  have q1 : 0 ≤ q ∧ q < 2147483647 := by rw [← hq]; omega
  refine ⟨q ^ 5 % 2147483647 % 999983 % r, ⟨Int.emod_nonneg _ (by omega), Int.emod_lt_of_pos _ hr⟩, fun n => ?_⟩
  rw [c_law_mixed]
  simp only [fn_law_mixed, runFn, startE, evSs, evEs, v_non, v_bl, v_int, v_str, v_var, v_glob, v_bin, v_neg, v_not, v_cmp, v_chain, v_isC, v_andL, v_orL, v_ite, v_tup, v_lst, v_idx, v_slice, v_rev, v_call, v_callD, v_callK, v_b1, v_mm, v_isi, v_lrange, v_dget, v_didx, w_assign, w_par, w_unpack, w_append, w_expr, w_ite, w_ret, w_cont, w_raise, w_aug, w_augIdx, evAnd, evOr, evO, evC, evT, look, put, puts, tgPut, wipeE, thaw, lk, lks, lkT, lost, lostT, newL, bindTo, ownL, sc_non, sc_bl, sc_int, sc_str, sc_tup, sc_lst, sc_scr, sc_mref, flat_lst, flat_int, flat_tup, flat_bl, flat_non, flat_mref, flat_scr, isL_lst, isL_tup, isL_int, isL_bl, isL_non, isL_scr, isL_mref, isL_str, opt_some, no_bind, tyD, truth, cmpD, ordI, binD, negD, isD, idxD, q1_lenL, q1_lenT, q1_lenS, q1_sumL, q1_sumT, q1_abs, q1_listL, q1_listT, q1_tupleL, q1_tupleT, q1_intI, q1_intB, q1_all, q1_min, q1_max, items, fin, pure_bind, bind_assoc, optI, sliceD, List.set_cons_succ, List.set_cons_zero, List.getElem?_cons_succ, List.getElem?_cons_zero, List.getElem?_nil, Option.bind_some, Option.map_some, Option.map_none, List.length_map, List.length_cons, List.length_nil, List.map_cons, List.map_nil, List.cons_append, List.nil_append, List.append_nil, List.replicate_succ, List.replicate_zero, Nat.reduceAdd, Nat.reduceSub, Nat.reduceLeDiff, Nat.reduceLT, if_true, if_false, ite_true, ite_false, Bool.or_true, Bool.or_false, Bool.true_or, Bool.false_or, Bool.and_true, Bool.true_and, Bool.and_false, Bool.false_and, Bool.not_true, Bool.not_false, List.all_cons, List.all_nil, Bool.false_eq_true, reduceIte, hc]
  rw [opt_if (.inr (by decide))]
  simp only [runFn, startE, evSs, evEs, v_non, v_bl, v_int, v_str, v_var, v_glob, v_bin, v_neg, v_not, v_cmp, v_chain, v_isC, v_andL, v_orL, v_ite, v_tup, v_lst, v_idx, v_slice, v_rev, v_call, v_callD, v_callK, v_b1, v_mm, v_isi, v_lrange, v_dget, v_didx, w_assign, w_par, w_unpack, w_append, w_expr, w_ite, w_ret, w_cont, w_raise, w_aug, w_augIdx, evAnd, evOr, evO, evC, evT, look, put, puts, tgPut, wipeE, thaw, lk, lks, lkT, lost, lostT, newL, bindTo, ownL, sc_non, sc_bl, sc_int, sc_str, sc_tup, sc_lst, sc_scr, sc_mref, flat_lst, flat_int, flat_tup, flat_bl, flat_non, flat_mref, flat_scr, isL_lst, isL_tup, isL_int, isL_bl, isL_non, isL_scr, isL_mref, isL_str, opt_some, no_bind, tyD, truth, cmpD, ordI, binD, negD, isD, idxD, q1_lenL, q1_lenT, q1_lenS, q1_sumL, q1_sumT, q1_abs, q1_listL, q1_listT, q1_tupleL, q1_tupleT, q1_intI, q1_intB, q1_all, q1_min, q1_max, items, fin, pure_bind, bind_assoc, optI, sliceD, List.set_cons_succ, List.set_cons_zero, List.getElem?_cons_succ, List.getElem?_cons_zero, List.getElem?_nil, Option.bind_some, Option.map_some, Option.map_none, List.length_map, List.length_cons, List.length_nil, List.map_cons, List.map_nil, List.cons_append, List.nil_append, List.append_nil, List.replicate_succ, List.replicate_zero, Nat.reduceAdd, Nat.reduceSub, Nat.reduceLeDiff, Nat.reduceLT, if_true, if_false, ite_true, ite_false, Bool.or_true, Bool.or_false, Bool.true_or, Bool.false_or, Bool.and_true, Bool.true_and, Bool.and_false, Bool.false_and, Bool.not_true, Bool.not_false, List.all_cons, List.all_nil, Bool.false_eq_true, reduceIte]
  rw [opt_if (.inl (by decide))]
  simp only [runFn, startE, evSs, evEs, v_non, v_bl, v_int, v_str, v_var, v_glob, v_bin, v_neg, v_not, v_cmp, v_chain, v_isC, v_andL, v_orL, v_ite, v_tup, v_lst, v_idx, v_slice, v_rev, v_call, v_callD, v_callK, v_b1, v_mm, v_isi, v_lrange, v_dget, v_didx, w_assign, w_par, w_unpack, w_append, w_expr, w_ite, w_ret, w_cont, w_raise, w_aug, w_augIdx, evAnd, evOr, evO, evC, evT, look, put, puts, tgPut, wipeE, thaw, lk, lks, lkT, lost, lostT, newL, bindTo, ownL, sc_non, sc_bl, sc_int, sc_str, sc_tup, sc_lst, sc_scr, sc_mref, flat_lst, flat_int, flat_tup, flat_bl, flat_non, flat_mref, flat_scr, isL_lst, isL_tup, isL_int, isL_bl, isL_non, isL_scr, isL_mref, isL_str, opt_some, no_bind, tyD, truth, cmpD, ordI, binD, negD, isD, idxD, q1_lenL, q1_lenT, q1_lenS, q1_sumL, q1_sumT, q1_abs, q1_listL, q1_listT, q1_tupleL, q1_tupleT, q1_intI, q1_intB, q1_all, q1_min, q1_max, items, fin, pure_bind, bind_assoc, optI, sliceD, List.set_cons_succ, List.set_cons_zero, List.getElem?_cons_succ, List.getElem?_cons_zero, List.getElem?_nil, Option.bind_some, Option.map_some, Option.map_none, List.length_map, List.length_cons, List.length_nil, List.map_cons, List.map_nil, List.cons_append, List.nil_append, List.append_nil, List.replicate_succ, List.replicate_zero, Nat.reduceAdd, Nat.reduceSub, Nat.reduceLeDiff, Nat.reduceLT, if_true, if_false, ite_true, ite_false, Bool.or_true, Bool.or_false, Bool.true_or, Bool.false_or, Bool.and_true, Bool.true_and, Bool.and_false, Bool.false_and, Bool.not_true, Bool.not_false, List.all_cons, List.all_nil, Bool.false_eq_true, reduceIte]
  rw [opt_if (by decide)]
  simp only [runFn, startE, evSs, evEs, v_non, v_bl, v_int, v_str, v_var, v_glob, v_bin, v_neg, v_not, v_cmp, v_chain, v_isC, v_andL, v_orL, v_ite, v_tup, v_lst, v_idx, v_slice, v_rev, v_call, v_callD, v_callK, v_b1, v_mm, v_isi, v_lrange, v_dget, v_didx, w_assign, w_par, w_unpack, w_append, w_expr, w_ite, w_ret, w_cont, w_raise, w_aug, w_augIdx, evAnd, evOr, evO, evC, evT, look, put, puts, tgPut, wipeE, thaw, lk, lks, lkT, lost, lostT, newL, bindTo, ownL, sc_non, sc_bl, sc_int, sc_str, sc_tup, sc_lst, sc_scr, sc_mref, flat_lst, flat_int, flat_tup, flat_bl, flat_non, flat_mref, flat_scr, isL_lst, isL_tup, isL_int, isL_bl, isL_non, isL_scr, isL_mref, isL_str, opt_some, no_bind, tyD, truth, cmpD, ordI, binD, negD, isD, idxD, q1_lenL, q1_lenT, q1_lenS, q1_sumL, q1_sumT, q1_abs, q1_listL, q1_listT, q1_tupleL, q1_tupleT, q1_intI, q1_intB, q1_all, q1_min, q1_max, items, fin, pure_bind, bind_assoc, optI, sliceD, List.set_cons_succ, List.set_cons_zero, List.getElem?_cons_succ, List.getElem?_cons_zero, List.getElem?_nil, Option.bind_some, Option.map_some, Option.map_none, List.length_map, List.length_cons, List.length_nil, List.map_cons, List.map_nil, List.cons_append, List.nil_append, List.append_nil, List.replicate_succ, List.replicate_zero, Nat.reduceAdd, Nat.reduceSub, Nat.reduceLeDiff, Nat.reduceLT, if_true, if_false, ite_true, ite_false, Bool.or_true, Bool.or_false, Bool.true_or, Bool.false_or, Bool.and_true, Bool.true_and, Bool.and_false, Bool.false_and, Bool.not_true, Bool.not_false, List.all_cons, List.all_nil, Bool.false_eq_true, reduceIte, hq]
  rw [opt_if (by refine ⟨by decide, by decide, ?_⟩; omega)]
  simp only [runFn, startE, evSs, evEs, v_non, v_bl, v_int, v_str, v_var, v_glob, v_bin, v_neg, v_not, v_cmp, v_chain, v_isC, v_andL, v_orL, v_ite, v_tup, v_lst, v_idx, v_slice, v_rev, v_call, v_callD, v_callK, v_b1, v_mm, v_isi, v_lrange, v_dget, v_didx, w_assign, w_par, w_unpack, w_append, w_expr, w_ite, w_ret, w_cont, w_raise, w_aug, w_augIdx, evAnd, evOr, evO, evC, evT, look, put, puts, tgPut, wipeE, thaw, lk, lks, lkT, lost, lostT, newL, bindTo, ownL, sc_non, sc_bl, sc_int, sc_str, sc_tup, sc_lst, sc_scr, sc_mref, flat_lst, flat_int, flat_tup, flat_bl, flat_non, flat_mref, flat_scr, isL_lst, isL_tup, isL_int, isL_bl, isL_non, isL_scr, isL_mref, isL_str, opt_some, no_bind, tyD, truth, cmpD, ordI, binD, negD, isD, idxD, q1_lenL, q1_lenT, q1_lenS, q1_sumL, q1_sumT, q1_abs, q1_listL, q1_listT, q1_tupleL, q1_tupleT, q1_intI, q1_intB, q1_all, q1_min, q1_max, items, fin, pure_bind, bind_assoc, optI, sliceD, List.set_cons_succ, List.set_cons_zero, List.getElem?_cons_succ, List.getElem?_cons_zero, List.getElem?_nil, Option.bind_some, Option.map_some, Option.map_none, List.length_map, List.length_cons, List.length_nil, List.map_cons, List.map_nil, List.cons_append, List.nil_append, List.append_nil, List.replicate_succ, List.replicate_zero, Nat.reduceAdd, Nat.reduceSub, Nat.reduceLeDiff, Nat.reduceLT, if_true, if_false, ite_true, ite_false, Bool.or_true, Bool.or_false, Bool.true_or, Bool.false_or, Bool.and_true, Bool.true_and, Bool.and_false, Bool.false_and, Bool.not_true, Bool.not_false, List.all_cons, List.all_nil, Bool.false_eq_true, reduceIte]
  rw [opt_if (by decide)]
  simp only [runFn, startE, evSs, evEs, v_non, v_bl, v_int, v_str, v_var, v_glob, v_bin, v_neg, v_not, v_cmp, v_chain, v_isC, v_andL, v_orL, v_ite, v_tup, v_lst, v_idx, v_slice, v_rev, v_call, v_callD, v_callK, v_b1, v_mm, v_isi, v_lrange, v_dget, v_didx, w_assign, w_par, w_unpack, w_append, w_expr, w_ite, w_ret, w_cont, w_raise, w_aug, w_augIdx, evAnd, evOr, evO, evC, evT, look, put, puts, tgPut, wipeE, thaw, lk, lks, lkT, lost, lostT, newL, bindTo, ownL, sc_non, sc_bl, sc_int, sc_str, sc_tup, sc_lst, sc_scr, sc_mref, flat_lst, flat_int, flat_tup, flat_bl, flat_non, flat_mref, flat_scr, isL_lst, isL_tup, isL_int, isL_bl, isL_non, isL_scr, isL_mref, isL_str, opt_some, no_bind, tyD, truth, cmpD, ordI, binD, negD, isD, idxD, q1_lenL, q1_lenT, q1_lenS, q1_sumL, q1_sumT, q1_abs, q1_listL, q1_listT, q1_tupleL, q1_tupleT, q1_intI, q1_intB, q1_all, q1_min, q1_max, items, fin, pure_bind, bind_assoc, optI, sliceD, List.set_cons_succ, List.set_cons_zero, List.getElem?_cons_succ, List.getElem?_cons_zero, List.getElem?_nil, Option.bind_some, Option.map_some, Option.map_none, List.length_map, List.length_cons, List.length_nil, List.map_cons, List.map_nil, List.cons_append, List.nil_append, List.append_nil, List.replicate_succ, List.replicate_zero, Nat.reduceAdd, Nat.reduceSub, Nat.reduceLeDiff, Nat.reduceLT, if_true, if_false, ite_true, ite_false, Bool.or_true, Bool.or_false, Bool.true_or, Bool.false_or, Bool.and_true, Bool.true_and, Bool.and_false, Bool.false_and, Bool.not_true, Bool.not_false, List.all_cons, List.all_nil, Bool.false_eq_true, reduceIte]
  rw [opt_if (by decide)]
  simp only [runFn, startE, evSs, evEs, v_non, v_bl, v_int, v_str, v_var, v_glob, v_bin, v_neg, v_not, v_cmp, v_chain, v_isC, v_andL, v_orL, v_ite, v_tup, v_lst, v_idx, v_slice, v_rev, v_call, v_callD, v_callK, v_b1, v_mm, v_isi, v_lrange, v_dget, v_didx, w_assign, w_par, w_unpack, w_append, w_expr, w_ite, w_ret, w_cont, w_raise, w_aug, w_augIdx, evAnd, evOr, evO, evC, evT, look, put, puts, tgPut, wipeE, thaw, lk, lks, lkT, lost, lostT, newL, bindTo, ownL, sc_non, sc_bl, sc_int, sc_str, sc_tup, sc_lst, sc_scr, sc_mref, flat_lst, flat_int, flat_tup, flat_bl, flat_non, flat_mref, flat_scr, isL_lst, isL_tup, isL_int, isL_bl, isL_non, isL_scr, isL_mref, isL_str, opt_some, no_bind, tyD, truth, cmpD, ordI, binD, negD, isD, idxD, q1_lenL, q1_lenT, q1_lenS, q1_sumL, q1_sumT, q1_abs, q1_listL, q1_listT, q1_tupleL, q1_tupleT, q1_intI, q1_intB, q1_all, q1_min, q1_max, items, fin, pure_bind, bind_assoc, optI, sliceD, List.set_cons_succ, List.set_cons_zero, List.getElem?_cons_succ, List.getElem?_cons_zero, List.getElem?_nil, Option.bind_some, Option.map_some, Option.map_none, List.length_map, List.length_cons, List.length_nil, List.map_cons, List.map_nil, List.cons_append, List.nil_append, List.append_nil, List.replicate_succ, List.replicate_zero, Nat.reduceAdd, Nat.reduceSub, Nat.reduceLeDiff, Nat.reduceLT, if_true, if_false, ite_true, ite_false, Bool.or_true, Bool.or_false, Bool.true_or, Bool.false_or, Bool.and_true, Bool.true_and, Bool.and_false, Bool.false_and, Bool.not_true, Bool.not_false, List.all_cons, List.all_nil, Bool.false_eq_true, reduceIte]
  rw [opt_if hr]
  rfl
open Classical in
/-- the value of the k-th draw below r -/
noncomputable def dv (S : List Int) (k : Nat) (r : Int) : Int := if h : ∃ v : Int, (0 ≤ v ∧ v < r) ∧ ∀ n, callN tbl S (n + 2) 11 [.scr, .int k, .int r] = pure (.int v) then Classical.choose h else 0
theorem dv_ok (hS : S.length ≤ 63) (k : Nat) {r : Int} (hr : 0 < r) : (0 ≤ dv S k r ∧ dv S k r < r) ∧ ∀ n, callN tbl S (n + 2) 11 [.scr, .int k, .int r] = pure (.int (dv S k r)) := by
  have h := mixed_ex hS k hr
  unfold dv
  rw [dif_pos h]
  exact Classical.choose_spec h
/-- the town behind L draws -/
def tw (L : Nat) : Mu := [.lst (List.replicate L (.int 0))]
theorem e_draw (hS : S.length ≤ 63) {L n : Nat} {r : Int} (hr : 0 < r) (hL : L < 1000000) : callN tbl S (n + 3) 12 [.scr, .mref 0, .int r] (tw L) = .ok (.int (dv S (L + 1) r)) (tw (L + 1)) := by
  rw [c_law_draw]
  refine runR (ρ1 := [some (false, .scr), some (false, .mref 0), some (false, .int r)]) rfl ?_
  have h1 : evS S (callN tbl S (n + 2)) (.append 1 (.int 0)) [some (false, .scr), some (false, .mref 0), some (false, .int r)] (tw L) = .ok (.next, [some (false, .scr), some (false, .mref 0), some (false, .int r)]) (tw (L + 1)) := by
    rw [w_append, v_int, pure_bind]
    have : appTo [some (false, D.scr), some (false, .mref 0), some (false, .int r)] 1 (.int 0) (.int 0) (tw L) = .ok [some (false, .scr), some (false, .mref 0), some (false, .int r)] (tw (L + 1)) := by
      show (if (List.replicate L (D.int 0)).length < 1000000 then R.ok _ _ else R.bad) = _
      rw [if_pos (by rw [List.length_replicate]; exact hL)]
      congr 1
      show [MO.lst (List.replicate L (.int 0) ++ [.int 0])] = [MO.lst (List.replicate (L + 1) (.int 0))]
      rw [List.replicate_succ']
    rw [run_bind this]
    rfl
  refine (seqR h1).trans (retR ?_)
  have h2 : evE S (callN tbl S (n + 2)) (.b1 .len (.var 1)) [some (false, .scr), some (false, .mref 0), some (false, .int r)] (tw (L + 1)) = .ok (.int ((L + 1 : Nat) : Int)) (tw (L + 1)) := by
    rw [v_b1, v_var]
    show R.ok (D.int ((List.replicate (L + 1) (D.int 0)).length : Nat)) _ = _
    rw [List.length_replicate]
  simp only [v_call, evEs, v_var, look, List.getElem?_cons_succ, List.getElem?_cons_zero, opt_some, pure_bind, bind_assoc]
  rw [run_bind h2, (dv_ok hS (L + 1) hr).2 n]
  rfl
end
end Ev

set_option Elab.async false
set_option linter.all false
set_option maxRecDepth 100000
set_option maxHeartbeats 1000000
namespace Ev
/-! ### how a run ends -/
def RetT (x : R (Fl × Env)) : Prop := ∃ ρ μ, x = .ok (.ret (.bl true), ρ) μ
def Nx (Q : Env → Mu → Prop) (x : R (Fl × Env)) : Prop := ∃ fl ρ μ, x = .ok (fl, ρ) μ ∧ (fl = .next ∨ fl = .cont) ∧ Q ρ μ
theorem RetT.of {x y : R (Fl × Env)} (h : x = y) (k : RetT y) : RetT x := by rw [h]; exact k
theorem Nx.of {Q : Env → Mu → Prop} {x y : R (Fl × Env)} (h : x = y) (k : Nx Q y) : Nx Q x := by rw [h]; exact k
theorem Nx.pure {Q : Env → Mu → Prop} {ρ : Env} {μ : Mu} (h : Q ρ μ) : Nx Q ((Pure.pure (Fl.next, ρ) : M (Fl × Env)) μ) := ⟨_, _, _, rfl, .inl rfl, h⟩
theorem Nx.cont {Q : Env → Mu → Prop} {ρ : Env} {μ : Mu} (h : Q ρ μ) : Nx Q ((Pure.pure (Fl.cont, ρ) : M (Fl × Env)) μ) := ⟨_, _, _, rfl, .inr rfl, h⟩
section
variable {S : List Int} {c : Nat → List D → M D} {ρ : Env} {μ μ1 : Mu} {ss : ISs} {e : IE}
theorem Nx.nil {Q : Env → Mu → Prop} (h : Q ρ μ) : Nx Q (evSs S c .nil ρ μ) := ⟨_, _, _, nilR, .inl rfl, h⟩
theorem RetT.ret (h : evE S c e ρ μ = .ok (.bl true) μ1) : RetT (evSs S c (.cons (.ret e) ss) ρ μ) := ⟨_, _, retR h⟩
theorem RetT.run {fn : Fn} {ds : List D} (hl : ds.length = fn.params) (h : RetT (evSs S c fn.body (startE fn.slots ds) μ)) : ∃ μ1, runFn S c fn ds μ = .ok (.bl true) μ1 := by
  obtain ⟨ρ, μ1, e⟩ := h
  exact ⟨μ1, runR hl e⟩
theorem RetT.for_ {tg : Tg} {it : IT} {body : ISs} {ds : List D} (J : Nat → Env → Mu → Prop) (h : evT S c it ρ μ = .ok ds μ1) (h0 : J 0 (thaw ρ (lostT it ds)) μ1)
    (hs : ∀ i d ρ μ, ds[i]? = some d → J i ρ μ → ∃ ρ1, tgPut ρ tg d = some ρ1 ∧ Nx (J (i + 1)) (evSs S c body ρ1 μ)) (k : ∀ ρ' μ', J ds.length ρ' μ' → RetT (evSs S c ss ρ' μ')) : RetT (evSs S c (.cons (.for_ tg it body) ss) ρ μ) := by
  obtain ⟨ρ', μ', e1, e2⟩ := forR (ss := ss) J h h0 fun i d ρ μ hd hj => by
    obtain ⟨ρ1, h1, fl, ρ2, μ2, h2, h3, h4⟩ := hs i d ρ μ hd hj
    rcases h3 with rfl | rfl
    · exact ⟨ρ1, ρ2, μ2, h1, .inl h2, h4⟩
    · exact ⟨ρ1, ρ2, μ2, h1, .inr h2, h4⟩
  exact .of e1 (k _ _ e2)
theorem Nx.for_ {Q : Env → Mu → Prop} {tg : Tg} {it : IT} {body : ISs} {ds : List D} (J : Nat → Env → Mu → Prop) (h : evT S c it ρ μ = .ok ds μ1) (h0 : J 0 (thaw ρ (lostT it ds)) μ1)
    (hs : ∀ i d ρ μ, ds[i]? = some d → J i ρ μ → ∃ ρ1, tgPut ρ tg d = some ρ1 ∧ Nx (J (i + 1)) (evSs S c body ρ1 μ)) (k : ∀ ρ' μ', J ds.length ρ' μ' → Nx Q (evSs S c ss ρ' μ')) : Nx Q (evSs S c (.cons (.for_ tg it body) ss) ρ μ) := by
  obtain ⟨ρ', μ', e1, e2⟩ := forR (ss := ss) J h h0 fun i d ρ μ hd hj => by
    obtain ⟨ρ1, h1, fl, ρ2, μ2, h2, h3, h4⟩ := hs i d ρ μ hd hj
    rcases h3 with rfl | rfl
    · exact ⟨ρ1, ρ2, μ2, h1, .inl h2, h4⟩
    · exact ⟨ρ1, ρ2, μ2, h1, .inr h2, h4⟩
  exact .of e1 (k _ _ e2)
theorem e_rng {it : IE} {h : Int} (e : evE S c it ρ = Pure.pure (.int h)) (h1 : 0 ≤ h) (h2 : h ≤ 1000000) : evT S c (.rng1 it) ρ μ = .ok (rngD 0 h) μ := by
  rw [evT, e, pure_bind]
  show M.opt (if small62 h then some (rngD 0 h) else none) μ = _
  rw [opt_if (show small62 h = true by unfold small62; exact decide_eq_true (by omega))]
  rfl
theorem e_rngP {it : IE} {h : Int} (e : evE S c it ρ = Pure.pure (.int h)) (h1 : 0 ≤ h) (h2 : h ≤ 1000000) : evT S c (.rng1 it) ρ = Pure.pure ((List.range h.toNat).map fun k => D.int (0 + (k : Nat))) := by
  rw [evT, e, pure_bind]
  show M.opt (if small62 h then some (rngD 0 h) else none) = _
  rw [opt_if (show small62 h = true by unfold small62; exact decide_eq_true (by omega))]
  unfold rngD
  rw [Int.sub_zero]
end
theorem rng_get {h : Int} {i : Nat} {d : D} (e : (rngD 0 h)[i]? = some d) : d = .int i ∧ (i : Int) < h := by
  unfold rngD at e
  rw [List.getElem?_map] at e
  obtain ⟨j, h1, rfl⟩ := Option.map_eq_some_iff.mp e
  have hl := (List.getElem?_eq_some_iff.mp h1).1
  rw [List.length_range] at hl
  rw [List.getElem?_eq_getElem (by rw [List.length_range]; exact hl), List.getElem_range] at h1
  cases h1
  exact ⟨by rw [Int.zero_add], by omega⟩
/-! ### comparisons -/
section
variable {S : List Int} {i j : Int} {a b : List Int}
theorem x_lt : cmpD S .lt (.int i) (.int j) = some (.bl (decide (i < j))) := rfl
theorem x_le : cmpD S .le (.int i) (.int j) = some (.bl (decide (i ≤ j))) := rfl
theorem x_gt : cmpD S .gt (.int i) (.int j) = some (.bl (decide (j < i))) := rfl
theorem x_ge : cmpD S .ge (.int i) (.int j) = some (.bl (decide (j ≤ i))) := rfl
theorem x_eqI : cmpD S .eq (.int i) (.int j) = some (.bl (decide (i = j))) := rfl
theorem x_neI : cmpD S .ne (.int i) (.int j) = some (.bl (!decide (i = j))) := rfl
theorem iD_cons {x : Int} {l : List Int} : iD (x :: l) = .int x :: iD l := rfl
theorem sh_iD (m : Nat) : ∀ l : List Int, (iD l).all (sh m) = true
  | [] => rfl
  | x :: l => by rw [iD_cons, List.all_cons, sh_iD m l, sh_int]; rfl
theorem deqs_iD : ∀ (a b : List Int), deqs (iD a) (iD b) = decide (a = b)
  | [], [] => rfl
  | [], _ :: _ => rfl
  | _ :: _, [] => rfl
  | x :: a, y :: b => by
    rw [iD_cons, iD_cons, deqs, deqs_iD a b, deq]
    by_cases h : x = y <;> by_cases h2 : a = b <;> simp [h, h2]
theorem x_eqL : cmpD S .eq (.lst (iD a)) (.lst (iD b)) = some (.bl (decide (a = b))) := by
  show (if sh 8 (.lst (iD a)) && sh 8 (.lst (iD b)) then some (D.bl (deq (.lst (iD a)) (.lst (iD b)))) else none) = _
  rw [show sh 8 (.lst (iD a)) = true from sh_iD 7 a, show sh 8 (.lst (iD b)) = true from sh_iD 7 b, deq, deqs_iD]
  rfl
theorem x_neL : cmpD S .ne (.lst (iD a)) (.lst (iD b)) = some (.bl (!decide (a = b))) := by
  show (if sh 8 (.lst (iD a)) && sh 8 (.lst (iD b)) then some (D.bl (!deq (.lst (iD a)) (.lst (iD b)))) else none) = _
  rw [show sh 8 (.lst (iD a)) = true from sh_iD 7 a, show sh 8 (.lst (iD b)) = true from sh_iD 7 b, deq, deqs_iD]
  rfl
theorem x_eqT : cmpD S .eq (.tup (iD a)) (.tup (iD b)) = some (.bl (decide (a = b))) := by
  show (if sh 8 (.tup (iD a)) && sh 8 (.tup (iD b)) then some (D.bl (deq (.tup (iD a)) (.tup (iD b)))) else none) = _
  rw [show sh 8 (.tup (iD a)) = true from sh_iD 7 a, show sh 8 (.tup (iD b)) = true from sh_iD 7 b, deq, deqs_iD]
  rfl
theorem x_neT : cmpD S .ne (.tup (iD a)) (.tup (iD b)) = some (.bl (!decide (a = b))) := by
  show (if sh 8 (.tup (iD a)) && sh 8 (.tup (iD b)) then some (D.bl (!deq (.tup (iD a)) (.tup (iD b)))) else none) = _
  rw [show sh 8 (.tup (iD a)) = true from sh_iD 7 a, show sh 8 (.tup (iD b)) = true from sh_iD 7 b, deq, deqs_iD]
  rfl
theorem x_eqS : cmpD S .eq .scr (.lst []) = some (.bl S.isEmpty) := rfl
end
/-! ### totals, plainly -/
theorem getD_set {m : List Int} {i : Nat} {x : Int} (j : Nat) (h : i < m.length) : (m.set i x).getD j 0 = if i = j then x else m.getD j 0 := by
  rw [List.getD_eq_getElem?_getD, List.getElem?_set]
  by_cases e : i = j
  · rw [if_pos e, if_pos e, if_pos h]; rfl
  · rw [if_neg e, if_neg e, List.getD_eq_getElem?_getD]
def part (ps : List (Int × Int)) (a : Int) : Int := ((ps.filter fun p => decide (p.1 = a)).map (·.2)).sum
theorem tot_get {h a : Int} : ∀ {ps : List (Int × Int)}, 0 ≤ a → a < h → (∀ p ∈ ps, 0 ≤ p.1 ∧ p.1 < h) → (tot h ps).getD a.toNat 0 = part ps a := by
  intro ps a1 a2 hp
  have gen : ∀ (ps : List (Int × Int)) (m : List Int), m.length = h.toNat → (∀ p ∈ ps, 0 ≤ p.1 ∧ p.1 < h) → (ps.foldl addAt m).getD a.toNat 0 = m.getD a.toNat 0 + part ps a := by
    intro ps
    induction ps with
    | nil => intro m _ _; unfold part; simp
    | cons p ps ih =>
      intro m hm hp
      have q := hp p (by simp)
      rw [List.foldl_cons, ih (addAt m p) (by unfold addAt; rw [List.length_set]; exact hm) fun x hx => hp x (List.mem_cons_of_mem _ hx)]
      unfold addAt
      rw [getD_set _ (by omega)]
      unfold part
      rw [List.filter_cons]
      by_cases e : p.1 = a
      · rw [if_pos (by rw [e]), if_pos (by simpa using e), List.map_cons, List.sum_cons, e]
        omega
      · rw [if_neg (fun z => e (by omega)), if_neg (by simpa using e)]
  unfold tot
  rw [gen ps _ (by rw [List.length_replicate]) hp, List.getD_eq_getElem?_getD, List.getElem?_replicate]
  split <;> simp
theorem sum_set : ∀ {m : List Int} {i : Nat} {x : Int}, i < m.length → (m.set i (m.getD i 0 + x)).sum = m.sum + x
  | [], _, _, h => by simp at h
  | y :: m, 0, x, _ => by simp; omega
  | y :: m, i + 1, x, h => by
    have := sum_set (m := m) (i := i) (x := x) (by simpa using h)
    simp only [List.set_cons_succ, List.sum_cons, List.getD_cons_succ]
    omega
theorem tot_sum {h : Int} {ps : List (Int × Int)} (hp : ∀ p ∈ ps, 0 ≤ p.1 ∧ p.1 < h) : (tot h ps).sum = (ps.map (·.2)).sum := by
  have gen : ∀ (ps : List (Int × Int)) (m : List Int), m.length = h.toNat → (∀ p ∈ ps, 0 ≤ p.1 ∧ p.1 < h) → (ps.foldl addAt m).sum = m.sum + (ps.map (·.2)).sum := by
    intro ps
    induction ps with
    | nil => intro m _ _; simp
    | cons p ps ih =>
      intro m hm hp
      have q := hp p (by simp)
      rw [List.foldl_cons, ih (addAt m p) (by unfold addAt; rw [List.length_set]; exact hm) fun x hx => hp x (List.mem_cons_of_mem _ hx)]
      unfold addAt
      rw [sum_set (by omega), List.map_cons, List.sum_cons]
      omega
  unfold tot
  rw [gen ps _ (by rw [List.length_replicate]) hp]
  have : ∀ k : Nat, (List.replicate k (0 : Int)).sum = 0 := by
    intro k
    induction k with
    | zero => rfl
    | succ k ih => rw [List.replicate_succ, List.sum_cons, ih]; rfl
  rw [this]
  omega
theorem tot_eq {h : Int} {ps : List (Int × Int)} (h0 : 0 ≤ h) (hp : ∀ p ∈ ps, 0 ≤ p.1 ∧ p.1 < h) : tot h ps = (List.range h.toNat).map fun i => part ps (0 + (i : Nat)) := by
  refine List.ext_getElem (by rw [tot_len, List.length_map, List.length_range]) fun i h1 h2 => ?_
  rw [tot_len] at h1
  have := tot_get (h := h) (a := (i : Int)) (ps := ps) (by omega) (by omega) hp
  rw [List.getD_eq_getElem?_getD, Int.toNat_natCast, List.getElem?_eq_getElem (by rw [tot_len]; exact h1)] at this
  rw [List.getElem_map, List.getElem_range, Int.zero_add, ← this]
  rfl
theorem lead_eq {a b : Int} : ∀ (r w : List Int), (((r.map (sgn a b)).zip w).map fun p => p.1 * p.2).sum = part (r.zip w) a - part (r.zip w) b
  | [], w => by simp [part]
  | x :: r, [] => by simp [part]
  | x :: r, y :: w => by
    have ih := lead_eq (a := a) (b := b) r w
    rw [List.map_cons, List.zip_cons_cons, List.map_cons, List.sum_cons, ih, List.zip_cons_cons]
    unfold part sgn
    rw [List.filter_cons, List.filter_cons]
    by_cases e1 : x = a
    · subst e1
      by_cases e2 : x = b
      · subst e2
        simp
      · simp [e2]
        omega
    · by_cases e2 : x = b
      · subst e2
        simp [e1]
        omega
      · simp [e1, e2]
section
variable {S : List Int} {n : Nat}
theorem e_some_row (hS : S.length ≤ 63) {L : Nat} {h q : Int} (h1 : 0 < h) (q1 : 0 < q) (q2 : q ≤ 1000) (hL : L ≤ 900000) : ∃ r : List Int, 1 ≤ r.length ∧ (r.length : Int) ≤ q ∧ (∀ x ∈ r, 0 ≤ x ∧ x < h) ∧ callN tbl S (n + 4) 19 [.scr, .mref 0, .int h, .int q] (tw L) = .ok (.tup (iD r)) (tw (L + 1 + r.length)) := by
  obtain ⟨d1, d2⟩ := (dv_ok hS (L + 1) q1).1
  generalize hd : dv S (L + 1) q = d at d1 d2
  have hm : (1 + d - 0).toNat = (1 + d).toNat := by rw [Int.sub_zero]
  have hl : (rngD 0 (1 + d)).length = (1 + d).toNat := by unfold rngD; rw [List.length_map, List.length_range, hm]
  refine ⟨(List.range (1 + d).toNat).map fun i => dv S (L + 1 + i + 1) h, by rw [List.length_map, List.length_range]; omega, by rw [List.length_map, List.length_range]; omega, fun x hx => ?_, ?_⟩
  · obtain ⟨i, _, e⟩ := List.mem_map.mp hx
    rw [← e]
    exact (dv_ok hS _ h1).1
  · rw [c_law_some_row]
    refine runR (ρ1 := [some (false, .scr), some (false, .mref 0), some (false, .int h), some (false, .int q), none]) rfl ?_
    rw [show startE fn_law_some_row.slots [D.scr, D.mref 0, D.int h, D.int q] = [some (false, .scr), some (false, .mref 0), some (false, .int h), some (false, .int q), none] from rfl]
    refine retR ?_
    have hc := evCompR (S := S) (c := callN tbl S (n + 3)) (vs := [4]) (tg := .one 4) (it := .rng1 (.bin .add (.int 1) (.call 12 (.cons (.var 0) (.cons (.var 1) (.cons (.var 3) .nil)))))) (elt := .call 12 (.cons (.var 0) (.cons (.var 1) (.cons (.var 2) .nil)))) (ρ := [some (false, .scr), some (false, .mref 0), some (false, .int h), some (false, .int q), none]) (μ := tw L)
      (ds := rngD 0 (1 + d)) (fun i => .int (dv S (L + 1 + i + 1) h)) (fun i => tw (L + 1 + i)) (by
        simp only [runFn, startE, evSs, evEs, v_non, v_bl, v_int, v_str, v_var, v_glob, v_bin, v_neg, v_not, v_cmp, v_chain, v_isC, v_andL, v_orL, v_ite, v_tup, v_lst, v_idx, v_slice, v_rev, v_call, v_callD, v_callK, v_b1, v_mm, v_isi, v_lrange, v_dget, v_didx, w_assign, w_par, w_unpack, w_append, w_expr, w_ite, w_ret, w_cont, w_raise, w_aug, w_augIdx, evAnd, evOr, evO, evC, evT, look, put, puts, tgPut, wipeE, thaw, lk, lks, lkT, lost, lostT, newL, bindTo, ownL, sc_non, sc_bl, sc_int, sc_str, sc_tup, sc_lst, sc_scr, sc_mref, flat_lst, flat_int, flat_tup, flat_bl, flat_non, flat_mref, flat_scr, isL_lst, isL_tup, isL_int, isL_bl, isL_non, isL_scr, isL_mref, isL_str, opt_some, no_bind, tyD, truth, x_lt, x_le, x_gt, x_ge, x_eqI, x_neI, x_eqL, x_neL, x_eqT, x_neT, x_eqS, binD, negD, isD, idxD, q1_lenL, q1_lenT, q1_lenS, q1_sumL, q1_sumT, q1_abs, q1_listL, q1_listT, q1_tupleL, q1_tupleT, q1_intI, q1_intB, q1_all, q1_min, q1_max, items, fin, pure_bind, bind_assoc, optI, sliceD, List.set_cons_succ, List.set_cons_zero, List.getElem?_cons_succ, List.getElem?_cons_zero, List.getElem?_nil, Option.bind_some, Option.map_some, Option.map_none, List.length_map, List.length_cons, List.length_nil, List.map_cons, List.map_nil, List.cons_append, List.nil_append, List.append_nil, List.replicate_succ, List.replicate_zero, Nat.reduceAdd, Nat.reduceSub, Nat.reduceLeDiff, Nat.reduceLT, if_true, if_false, ite_true, ite_false, Bool.or_true, Bool.or_false, Bool.true_or, Bool.false_or, Bool.and_true, Bool.true_and, Bool.and_false, Bool.false_and, Bool.not_true, Bool.not_false, List.all_cons, List.all_nil, Bool.false_eq_true, reduceIte]
        rw [run_bind (e_draw hS q1 (by omega)), hd]
        simp only [runFn, startE, evSs, evEs, v_non, v_bl, v_int, v_str, v_var, v_glob, v_bin, v_neg, v_not, v_cmp, v_chain, v_isC, v_andL, v_orL, v_ite, v_tup, v_lst, v_idx, v_slice, v_rev, v_call, v_callD, v_callK, v_b1, v_mm, v_isi, v_lrange, v_dget, v_didx, w_assign, w_par, w_unpack, w_append, w_expr, w_ite, w_ret, w_cont, w_raise, w_aug, w_augIdx, evAnd, evOr, evO, evC, evT, look, put, puts, tgPut, wipeE, thaw, lk, lks, lkT, lost, lostT, newL, bindTo, ownL, sc_non, sc_bl, sc_int, sc_str, sc_tup, sc_lst, sc_scr, sc_mref, flat_lst, flat_int, flat_tup, flat_bl, flat_non, flat_mref, flat_scr, isL_lst, isL_tup, isL_int, isL_bl, isL_non, isL_scr, isL_mref, isL_str, opt_some, no_bind, tyD, truth, x_lt, x_le, x_gt, x_ge, x_eqI, x_neI, x_eqL, x_neL, x_eqT, x_neT, x_eqS, binD, negD, isD, idxD, q1_lenL, q1_lenT, q1_lenS, q1_sumL, q1_sumT, q1_abs, q1_listL, q1_listT, q1_tupleL, q1_tupleT, q1_intI, q1_intB, q1_all, q1_min, q1_max, items, fin, pure_bind, bind_assoc, optI, sliceD, List.set_cons_succ, List.set_cons_zero, List.getElem?_cons_succ, List.getElem?_cons_zero, List.getElem?_nil, Option.bind_some, Option.map_some, Option.map_none, List.length_map, List.length_cons, List.length_nil, List.map_cons, List.map_nil, List.cons_append, List.nil_append, List.append_nil, List.replicate_succ, List.replicate_zero, Nat.reduceAdd, Nat.reduceSub, Nat.reduceLeDiff, Nat.reduceLT, if_true, if_false, ite_true, ite_false, Bool.or_true, Bool.or_false, Bool.true_or, Bool.false_or, Bool.and_true, Bool.true_and, Bool.and_false, Bool.false_and, Bool.not_true, Bool.not_false, List.all_cons, List.all_nil, Bool.false_eq_true, reduceIte]
        rw [opt_if (show small62 (1 + d) = true by unfold small62; exact decide_eq_true (by omega))]
        rfl) (fun i dd hi => ⟨_, rfl, by
        simp only [runFn, startE, evSs, evEs, v_non, v_bl, v_int, v_str, v_var, v_glob, v_bin, v_neg, v_not, v_cmp, v_chain, v_isC, v_andL, v_orL, v_ite, v_tup, v_lst, v_idx, v_slice, v_rev, v_call, v_callD, v_callK, v_b1, v_mm, v_isi, v_lrange, v_dget, v_didx, w_assign, w_par, w_unpack, w_append, w_expr, w_ite, w_ret, w_cont, w_raise, w_aug, w_augIdx, evAnd, evOr, evO, evC, evT, look, put, puts, tgPut, wipeE, thaw, lk, lks, lkT, lost, lostT, newL, bindTo, ownL, sc_non, sc_bl, sc_int, sc_str, sc_tup, sc_lst, sc_scr, sc_mref, flat_lst, flat_int, flat_tup, flat_bl, flat_non, flat_mref, flat_scr, isL_lst, isL_tup, isL_int, isL_bl, isL_non, isL_scr, isL_mref, isL_str, opt_some, no_bind, tyD, truth, x_lt, x_le, x_gt, x_ge, x_eqI, x_neI, x_eqL, x_neL, x_eqT, x_neT, x_eqS, binD, negD, isD, idxD, q1_lenL, q1_lenT, q1_lenS, q1_sumL, q1_sumT, q1_abs, q1_listL, q1_listT, q1_tupleL, q1_tupleT, q1_intI, q1_intB, q1_all, q1_min, q1_max, items, fin, pure_bind, bind_assoc, optI, sliceD, List.set_cons_succ, List.set_cons_zero, List.getElem?_cons_succ, List.getElem?_cons_zero, List.getElem?_nil, Option.bind_some, Option.map_some, Option.map_none, List.length_map, List.length_cons, List.length_nil, List.map_cons, List.map_nil, List.cons_append, List.nil_append, List.append_nil, List.replicate_succ, List.replicate_zero, Nat.reduceAdd, Nat.reduceSub, Nat.reduceLeDiff, Nat.reduceLT, if_true, if_false, ite_true, ite_false, Bool.or_true, Bool.or_false, Bool.true_or, Bool.false_or, Bool.and_true, Bool.true_and, Bool.and_false, Bool.false_and, Bool.not_true, Bool.not_false, List.all_cons, List.all_nil, Bool.false_eq_true, reduceIte]
        have : i < (1 + d).toNat := by
          have := (List.getElem?_eq_some_iff.mp hi).1
          rw [hl] at this
          exact this
        rw [e_draw hS h1 (by omega)]
        rfl⟩) (by rw [hl]; omega)
    rw [v_b1, run_bind hc, hl, q1_tupleL, List.length_map, List.length_range]
    show R.ok (D.tup _) _ = R.ok (D.tup (List.map D.int _)) _
    rw [List.map_map]
    rfl
end
end Ev

set_option Elab.async false
set_option linter.all false
set_option maxRecDepth 100000
set_option maxHeartbeats 1000000
namespace Ev
/-! ### differences -/
def dif : List Int → List Int
  | x :: y :: r => (y - x) :: dif (y :: r)
  | _ => []
def difN : Nat → List Int → List Int
  | 0, l => l
  | n + 1, l => dif (difN n l)
theorem dif_len : ∀ l : List Int, (dif l).length = l.length - 1
  | [] => rfl
  | [_] => rfl
  | x :: y :: r => by
    have := dif_len (y :: r)
    rw [dif, List.length_cons, this]
    simp
theorem difN_len (n : Nat) (l : List Int) : (difN n l).length = l.length - n := by
  induction n with
  | zero => rfl
  | succ n ih => rw [difN, dif_len, ih]; omega
theorem dif_zip : ∀ l : List Int, ((l.zip (l.drop 1)).map fun p => p.2 - p.1) = dif l
  | [] => rfl
  | [_] => rfl
  | x :: y :: r => by
    have := dif_zip (y :: r)
    rw [dif, ← this]
    rfl
theorem dif_get : ∀ (l : List Int) (i : Nat), i + 1 < l.length → (dif l)[i]? = some (l.getD (i + 1) 0 - l.getD i 0)
  | [], i, h => by simp at h
  | [_], i, h => by simp at h
  | x :: y :: r, 0, h => rfl
  | x :: y :: r, i + 1, h => by
    have := dif_get (y :: r) i (by simpa using h)
    rw [dif, List.getElem?_cons_succ, this]
    rfl
theorem dif_range (l : List Int) : ((List.range (l.length - 1)).map fun i => l.getD (i + 1) 0 - l.getD i 0) = dif l := by
  refine List.ext_getElem (by rw [List.length_map, List.length_range, dif_len]) fun i h1 h2 => ?_
  rw [dif_len] at h2
  have := dif_get l i (by omega)
  rw [List.getElem?_eq_getElem (by rw [dif_len]; exact h2)] at this
  rw [List.getElem_map, List.getElem_range]
  exact (Option.some.inj this).symm
theorem cut_one {α : Type} (xs : List D) : cutD xs (some 1) none = xs.drop 1 := by
  unfold cutD
  rw [show HT.sIx xs.length 0 (some 1) = min 1 xs.length from HT.sIx_nat xs.length 0 1, HT.sIx_none]
  cases xs with
  | nil => rfl
  | cons x r =>
    rw [show min 1 (x :: r).length = 1 by rw [List.length_cons]; omega]
    exact List.take_of_length_le (by simp)
theorem drop_iD (l : List Int) (n : Nat) : (iD l).drop n = iD (l.drop n) := by
  show (List.map D.int l).drop n = List.map D.int (l.drop n)
  rw [List.map_drop]
theorem getI {l : List Int} {a : Int} (h1 : 0 ≤ a) (h2 : a < l.length) : L2.atI (iD l) a = some (.int (l.getD a.toNat 0)) := by
  unfold L2.atI
  rw [List.length_map, ixN_ok h1 h2, Option.bind_some, List.getElem?_map, List.getD_eq_getElem?_getD, List.getElem?_eq_getElem (by omega)]
  rfl
section
variable {S : List Int} {n : Nat}
theorem rng_map {k : Int} : rngD 0 k = (List.range k.toNat).map fun i => D.int (0 + (i : Nat)) := by unfold rngD; rw [Int.sub_zero]
theorem e_differences_of {w : List Int} {k : Int} (hw : w.length ≤ 1000) (k0 : 0 ≤ k) (k1 : k ≤ 1000) : callN tbl S (n + 1) 20 [.tup (iD w), .int k] = pure (.lst (iD (difN k.toNat w))) := by
  rw [c_differences_of]
  obtain ⟨u, hn, hu⟩ : ∃ u : List Nat → Option (Bool × D), u [] = none ∧ ∀ ps x, u (ps ++ [x]) = some (false, .int (0 + (x : Nat))) := ⟨fun ps => ps.getLast?.map fun p => (false, .int (0 + (p : Nat))), rfl, by simp⟩
  have hf := forM_next (step := fun d ρ => M.opt (tgPut ρ (.one 3) d) >>= fun ρ1 => evSs S (callN tbl S n) (.cons (.assign 2 (.comp [4, 5] (.many [4, 5]) (.zip (.var 2) (.slice (.var 2) (.some (.int 1)) .none)) .none (.bin .sub (.var 5) (.var 4)))) .nil) ρ1) (fun k : Nat => D.int (0 + (k : Nat)))
    (fun ps => [some (false, .tup (iD w)), some (false, .int k), some (true, .lst (iD (difN ps.length w))), u ps, none, none]) (xs := List.range k.toNat) fun ps x rs e => by
    have hl : (ps ++ [x]).length = ps.length + 1 := by simp
    rw [hu, hl, difN]
    have hm : (difN ps.length w).length ≤ 1000 := by rw [difN_len]; omega
    generalize difN ps.length w = m at hm
    have hc := evComp (S := S) (c := callN tbl S n) (vs := [4, 5]) (tg := .many [4, 5]) (it := .zip (.var 2) (.slice (.var 2) (.some (.int 1)) .none)) (elt := .bin .sub (.var 5) (.var 4)) (ρ := [some (false, .tup (iD w)), some (false, .int k), some (true, .lst (iD m)), some (false, .int (0 + (x : Nat))), none, none])
      (fun p : Int × Int => D.tup [.int p.1, .int p.2]) (fun p => D.int (p.2 - p.1)) (xs := m.zip (m.drop 1)) (by simp only [runFn, startE, evSs, evEs, v_non, v_bl, v_int, v_str, v_var, v_glob, v_bin, v_neg, v_not, v_cmp, v_chain, v_isC, v_andL, v_orL, v_ite, v_tup, v_lst, v_idx, v_slice, v_rev, v_call, v_callD, v_callK, v_b1, v_mm, v_isi, v_lrange, v_dget, v_didx, w_assign, w_par, w_unpack, w_append, w_expr, w_ite, w_ret, w_cont, w_raise, w_aug, w_augIdx, evAnd, evOr, evO, evC, evT, look, put, puts, tgPut, wipeE, thaw, lk, lks, lkT, lost, lostT, newL, bindTo, ownL, sc_non, sc_bl, sc_int, sc_str, sc_tup, sc_lst, sc_scr, sc_mref, flat_lst, flat_int, flat_tup, flat_bl, flat_non, flat_mref, flat_scr, isL_lst, isL_tup, isL_int, isL_bl, isL_non, isL_scr, isL_mref, isL_str, opt_some, no_bind, tyD, truth, x_lt, x_le, x_gt, x_ge, x_eqI, x_neI, x_eqL, x_neL, x_eqT, x_neT, x_eqS, binD, negD, isD, idxD, q1_lenL, q1_lenT, q1_lenS, q1_sumL, q1_sumT, q1_abs, q1_listL, q1_listT, q1_tupleL, q1_tupleT, q1_intI, q1_intB, q1_all, q1_min, q1_max, items, fin, pure_bind, bind_assoc, optI, sliceD, List.set_cons_succ, List.set_cons_zero, List.getElem?_cons_succ, List.getElem?_cons_zero, List.getElem?_nil, Option.bind_some, Option.map_some, Option.map_none, List.length_map, List.length_cons, List.length_nil, List.map_cons, List.map_nil, List.cons_append, List.nil_append, List.append_nil, List.replicate_succ, List.replicate_zero, Nat.reduceAdd, Nat.reduceSub, Nat.reduceLeDiff, Nat.reduceLT, if_true, if_false, ite_true, ite_false, Bool.or_true, Bool.or_false, Bool.true_or, Bool.false_or, Bool.and_true, Bool.true_and, Bool.and_false, Bool.false_and, Bool.not_true, Bool.not_false, List.all_cons, List.all_nil, Bool.false_eq_true, reduceIte]; rw [cut_one (α := D), drop_iD, zip_iD]) (fun p hp => ⟨_, rfl, by simp only [runFn, startE, evSs, evEs, v_non, v_bl, v_int, v_str, v_var, v_glob, v_bin, v_neg, v_not, v_cmp, v_chain, v_isC, v_andL, v_orL, v_ite, v_tup, v_lst, v_idx, v_slice, v_rev, v_call, v_callD, v_callK, v_b1, v_mm, v_isi, v_lrange, v_dget, v_didx, w_assign, w_par, w_unpack, w_append, w_expr, w_ite, w_ret, w_cont, w_raise, w_aug, w_augIdx, evAnd, evOr, evO, evC, evT, look, put, puts, tgPut, wipeE, thaw, lk, lks, lkT, lost, lostT, newL, bindTo, ownL, sc_non, sc_bl, sc_int, sc_str, sc_tup, sc_lst, sc_scr, sc_mref, flat_lst, flat_int, flat_tup, flat_bl, flat_non, flat_mref, flat_scr, isL_lst, isL_tup, isL_int, isL_bl, isL_non, isL_scr, isL_mref, isL_str, opt_some, no_bind, tyD, truth, x_lt, x_le, x_gt, x_ge, x_eqI, x_neI, x_eqL, x_neL, x_eqT, x_neT, x_eqS, binD, negD, isD, idxD, q1_lenL, q1_lenT, q1_lenS, q1_sumL, q1_sumT, q1_abs, q1_listL, q1_listT, q1_tupleL, q1_tupleT, q1_intI, q1_intB, q1_all, q1_min, q1_max, items, fin, pure_bind, bind_assoc, optI, sliceD, List.set_cons_succ, List.set_cons_zero, List.getElem?_cons_succ, List.getElem?_cons_zero, List.getElem?_nil, Option.bind_some, Option.map_some, Option.map_none, List.length_map, List.length_cons, List.length_nil, List.map_cons, List.map_nil, List.cons_append, List.nil_append, List.append_nil, List.replicate_succ, List.replicate_zero, Nat.reduceAdd, Nat.reduceSub, Nat.reduceLeDiff, Nat.reduceLT, if_true, if_false, ite_true, ite_false, Bool.or_true, Bool.or_false, Bool.true_or, Bool.false_or, Bool.and_true, Bool.true_and, Bool.and_false, Bool.false_and, Bool.not_true, Bool.not_false, List.all_cons, List.all_nil, Bool.false_eq_true, reduceIte, put, puts, wipeE, thaw]⟩) (by rw [List.length_zip]; omega)
    have hd : ((m.zip (m.drop 1)).map fun p => D.int (p.2 - p.1)) = iD (dif m) := by
      rw [← dif_zip]
      show _ = List.map D.int _
      rw [List.map_map]
      rfl
    rw [hd] at hc
    simp only [runFn, startE, evSs, evEs, v_non, v_bl, v_int, v_str, v_var, v_glob, v_bin, v_neg, v_not, v_cmp, v_chain, v_isC, v_andL, v_orL, v_ite, v_tup, v_lst, v_idx, v_slice, v_rev, v_call, v_callD, v_callK, v_b1, v_mm, v_isi, v_lrange, v_dget, v_didx, w_assign, w_par, w_unpack, w_append, w_expr, w_ite, w_ret, w_cont, w_raise, w_aug, w_augIdx, evAnd, evOr, evO, evC, evT, look, put, puts, tgPut, wipeE, thaw, lk, lks, lkT, lost, lostT, newL, bindTo, ownL, sc_non, sc_bl, sc_int, sc_str, sc_tup, sc_lst, sc_scr, sc_mref, flat_lst, flat_int, flat_tup, flat_bl, flat_non, flat_mref, flat_scr, isL_lst, isL_tup, isL_int, isL_bl, isL_non, isL_scr, isL_mref, isL_str, opt_some, no_bind, tyD, truth, x_lt, x_le, x_gt, x_ge, x_eqI, x_neI, x_eqL, x_neL, x_eqT, x_neT, x_eqS, binD, negD, isD, idxD, q1_lenL, q1_lenT, q1_lenS, q1_sumL, q1_sumT, q1_abs, q1_listL, q1_listT, q1_tupleL, q1_tupleT, q1_intI, q1_intB, q1_all, q1_min, q1_max, items, fin, pure_bind, bind_assoc, optI, sliceD, List.set_cons_succ, List.set_cons_zero, List.getElem?_cons_succ, List.getElem?_cons_zero, List.getElem?_nil, Option.bind_some, Option.map_some, Option.map_none, List.length_map, List.length_cons, List.length_nil, List.map_cons, List.map_nil, List.cons_append, List.nil_append, List.append_nil, List.replicate_succ, List.replicate_zero, Nat.reduceAdd, Nat.reduceSub, Nat.reduceLeDiff, Nat.reduceLT, if_true, if_false, ite_true, ite_false, Bool.or_true, Bool.or_false, Bool.true_or, Bool.false_or, Bool.and_true, Bool.true_and, Bool.and_false, Bool.false_and, Bool.not_true, Bool.not_false, List.all_cons, List.all_nil, Bool.false_eq_true, reduceIte, hc, sc_ints]
  rw [hn] at hf
  have h0 : difN ([] : List Nat).length w = w := rfl
  rw [h0, List.length_range] at hf
  simp only [fn_differences_of, runFn, startE, evSs, evEs, v_non, v_bl, v_int, v_str, v_var, v_glob, v_bin, v_neg, v_not, v_cmp, v_chain, v_isC, v_andL, v_orL, v_ite, v_tup, v_lst, v_idx, v_slice, v_rev, v_call, v_callD, v_callK, v_b1, v_mm, v_isi, v_lrange, v_dget, v_didx, w_assign, w_par, w_unpack, w_append, w_expr, w_ite, w_ret, w_cont, w_raise, w_aug, w_augIdx, evAnd, evOr, evO, evC, evT, look, put, puts, tgPut, wipeE, thaw, lk, lks, lkT, lost, lostT, newL, bindTo, ownL, sc_non, sc_bl, sc_int, sc_str, sc_tup, sc_lst, sc_scr, sc_mref, flat_lst, flat_int, flat_tup, flat_bl, flat_non, flat_mref, flat_scr, isL_lst, isL_tup, isL_int, isL_bl, isL_non, isL_scr, isL_mref, isL_str, opt_some, no_bind, tyD, truth, x_lt, x_le, x_gt, x_ge, x_eqI, x_neI, x_eqL, x_neL, x_eqT, x_neT, x_eqS, binD, negD, isD, idxD, q1_lenL, q1_lenT, q1_lenS, q1_sumL, q1_sumT, q1_abs, q1_listL, q1_listT, q1_tupleL, q1_tupleT, q1_intI, q1_intB, q1_all, q1_min, q1_max, items, fin, pure_bind, bind_assoc, optI, sliceD, List.set_cons_succ, List.set_cons_zero, List.getElem?_cons_succ, List.getElem?_cons_zero, List.getElem?_nil, Option.bind_some, Option.map_some, Option.map_none, List.length_map, List.length_cons, List.length_nil, List.map_cons, List.map_nil, List.cons_append, List.nil_append, List.append_nil, List.replicate_succ, List.replicate_zero, Nat.reduceAdd, Nat.reduceSub, Nat.reduceLeDiff, Nat.reduceLT, if_true, if_false, ite_true, ite_false, Bool.or_true, Bool.or_false, Bool.true_or, Bool.false_or, Bool.and_true, Bool.true_and, Bool.and_false, Bool.false_and, Bool.not_true, Bool.not_false, List.all_cons, List.all_nil, Bool.false_eq_true, reduceIte, sc_ints]
  rw [w_for (ds := (List.range k.toNat).map fun i => D.int (0 + (i : Nat))) (e_rngP (h := k) (by simp only [runFn, startE, evSs, evEs, v_non, v_bl, v_int, v_str, v_var, v_glob, v_bin, v_neg, v_not, v_cmp, v_chain, v_isC, v_andL, v_orL, v_ite, v_tup, v_lst, v_idx, v_slice, v_rev, v_call, v_callD, v_callK, v_b1, v_mm, v_isi, v_lrange, v_dget, v_didx, w_assign, w_par, w_unpack, w_append, w_expr, w_ite, w_ret, w_cont, w_raise, w_aug, w_augIdx, evAnd, evOr, evO, evC, evT, look, put, puts, tgPut, wipeE, thaw, lk, lks, lkT, lost, lostT, newL, bindTo, ownL, sc_non, sc_bl, sc_int, sc_str, sc_tup, sc_lst, sc_scr, sc_mref, flat_lst, flat_int, flat_tup, flat_bl, flat_non, flat_mref, flat_scr, isL_lst, isL_tup, isL_int, isL_bl, isL_non, isL_scr, isL_mref, isL_str, opt_some, no_bind, tyD, truth, x_lt, x_le, x_gt, x_ge, x_eqI, x_neI, x_eqL, x_neL, x_eqT, x_neT, x_eqS, binD, negD, isD, idxD, q1_lenL, q1_lenT, q1_lenS, q1_sumL, q1_sumT, q1_abs, q1_listL, q1_listT, q1_tupleL, q1_tupleT, q1_intI, q1_intB, q1_all, q1_min, q1_max, items, fin, pure_bind, bind_assoc, optI, sliceD, List.set_cons_succ, List.set_cons_zero, List.getElem?_cons_succ, List.getElem?_cons_zero, List.getElem?_nil, Option.bind_some, Option.map_some, Option.map_none, List.length_map, List.length_cons, List.length_nil, List.map_cons, List.map_nil, List.cons_append, List.nil_append, List.append_nil, List.replicate_succ, List.replicate_zero, Nat.reduceAdd, Nat.reduceSub, Nat.reduceLeDiff, Nat.reduceLT, if_true, if_false, ite_true, ite_false, Bool.or_true, Bool.or_false, Bool.true_or, Bool.false_or, Bool.and_true, Bool.true_and, Bool.and_false, Bool.false_and, Bool.not_true, Bool.not_false, List.all_cons, List.all_nil, Bool.false_eq_true, reduceIte]) k0 (by omega))]
  simp only [lostT, thaw, lkT, lk, newL, List.set_cons_succ, List.set_cons_zero, List.getElem?_cons_succ, List.getElem?_cons_zero, List.getElem?_nil, Option.bind_some, Option.map_some, Option.map_none, List.length_map, List.length_cons, List.length_nil, List.map_cons, List.map_nil, List.cons_append, List.nil_append, List.append_nil, List.replicate_succ, List.replicate_zero, Nat.reduceAdd, Nat.reduceSub, Nat.reduceLeDiff, Nat.reduceLT, if_true, if_false, ite_true, ite_false, Bool.or_true, Bool.or_false, Bool.true_or, Bool.false_or, Bool.and_true, Bool.true_and, Bool.and_false, Bool.false_and, Bool.not_true, Bool.not_false, List.all_cons, List.all_nil, Bool.false_eq_true, reduceIte]
  rw [hf]
  simp only [runFn, startE, evSs, evEs, v_non, v_bl, v_int, v_str, v_var, v_glob, v_bin, v_neg, v_not, v_cmp, v_chain, v_isC, v_andL, v_orL, v_ite, v_tup, v_lst, v_idx, v_slice, v_rev, v_call, v_callD, v_callK, v_b1, v_mm, v_isi, v_lrange, v_dget, v_didx, w_assign, w_par, w_unpack, w_append, w_expr, w_ite, w_ret, w_cont, w_raise, w_aug, w_augIdx, evAnd, evOr, evO, evC, evT, look, put, puts, tgPut, wipeE, thaw, lk, lks, lkT, lost, lostT, newL, bindTo, ownL, sc_non, sc_bl, sc_int, sc_str, sc_tup, sc_lst, sc_scr, sc_mref, flat_lst, flat_int, flat_tup, flat_bl, flat_non, flat_mref, flat_scr, isL_lst, isL_tup, isL_int, isL_bl, isL_non, isL_scr, isL_mref, isL_str, opt_some, no_bind, tyD, truth, x_lt, x_le, x_gt, x_ge, x_eqI, x_neI, x_eqL, x_neL, x_eqT, x_neT, x_eqS, binD, negD, isD, idxD, q1_lenL, q1_lenT, q1_lenS, q1_sumL, q1_sumT, q1_abs, q1_listL, q1_listT, q1_tupleL, q1_tupleT, q1_intI, q1_intB, q1_all, q1_min, q1_max, items, fin, pure_bind, bind_assoc, optI, sliceD, List.set_cons_succ, List.set_cons_zero, List.getElem?_cons_succ, List.getElem?_cons_zero, List.getElem?_nil, Option.bind_some, Option.map_some, Option.map_none, List.length_map, List.length_cons, List.length_nil, List.map_cons, List.map_nil, List.cons_append, List.nil_append, List.append_nil, List.replicate_succ, List.replicate_zero, Nat.reduceAdd, Nat.reduceSub, Nat.reduceLeDiff, Nat.reduceLT, if_true, if_false, ite_true, ite_false, Bool.or_true, Bool.or_false, Bool.true_or, Bool.false_or, Bool.and_true, Bool.true_and, Bool.and_false, Bool.false_and, Bool.not_true, Bool.not_false, List.all_cons, List.all_nil, Bool.false_eq_true, reduceIte]
theorem e_steps_so {w : List Int} {k : Int} (hw : w.length ≤ 1000) (k0 : 0 ≤ k) (k1 : k ≤ 1000) : callN tbl S (n + 1) 26 [.tup (iD w), .int k] = pure (.lst (iD (difN k.toNat w))) := by
  rw [c_law_steps_so]
  obtain ⟨u, hn, hu⟩ : ∃ u : List Nat → Option (Bool × D), u [] = none ∧ ∀ ps x, u (ps ++ [x]) = some (false, .int (0 + (x : Nat))) := ⟨fun ps => ps.getLast?.map fun p => (false, .int (0 + (p : Nat))), rfl, by simp⟩
  have hf := forM_next (step := fun d ρ => M.opt (tgPut ρ (.one 3) d) >>= fun ρ1 => evSs S (callN tbl S n) (.cons (.assign 2 (.comp [4] (.one 4) (.rng1 (.bin .sub (.b1 .len (.var 2)) (.int 1))) .none (.bin .sub (.idx (.var 2) (.bin .add (.var 4) (.int 1))) (.idx (.var 2) (.var 4))))) .nil) ρ1) (fun k : Nat => D.int (0 + (k : Nat)))
    (fun ps => [some (false, .tup (iD w)), some (false, .int k), some (true, .lst (iD (difN ps.length w))), u ps, none]) (xs := List.range k.toNat) fun ps x rs e => by
    have hl : (ps ++ [x]).length = ps.length + 1 := by simp
    rw [hu, hl, difN]
    have hm : (difN ps.length w).length ≤ 1000 := by rw [difN_len]; omega
    generalize difN ps.length w = m at hm
    have hc := evComp (S := S) (c := callN tbl S n) (vs := [4]) (tg := .one 4) (it := .rng1 (.bin .sub (.b1 .len (.var 2)) (.int 1))) (elt := .bin .sub (.idx (.var 2) (.bin .add (.var 4) (.int 1))) (.idx (.var 2) (.var 4))) (ρ := [some (false, .tup (iD w)), some (false, .int k), some (true, .lst (iD m)), some (false, .int (0 + (x : Nat))), none])
      (fun i : Nat => D.int (0 + (i : Nat))) (fun i => D.int (m.getD (i + 1) 0 - m.getD i 0)) (xs := List.range (m.length - 1)) (by
        simp only [runFn, startE, evSs, evEs, v_non, v_bl, v_int, v_str, v_var, v_glob, v_bin, v_neg, v_not, v_cmp, v_chain, v_isC, v_andL, v_orL, v_ite, v_tup, v_lst, v_idx, v_slice, v_rev, v_call, v_callD, v_callK, v_b1, v_mm, v_isi, v_lrange, v_dget, v_didx, w_assign, w_par, w_unpack, w_append, w_expr, w_ite, w_ret, w_cont, w_raise, w_aug, w_augIdx, evAnd, evOr, evO, evC, evT, look, put, puts, tgPut, wipeE, thaw, lk, lks, lkT, lost, lostT, newL, bindTo, ownL, sc_non, sc_bl, sc_int, sc_str, sc_tup, sc_lst, sc_scr, sc_mref, flat_lst, flat_int, flat_tup, flat_bl, flat_non, flat_mref, flat_scr, isL_lst, isL_tup, isL_int, isL_bl, isL_non, isL_scr, isL_mref, isL_str, opt_some, no_bind, tyD, truth, x_lt, x_le, x_gt, x_ge, x_eqI, x_neI, x_eqL, x_neL, x_eqT, x_neT, x_eqS, binD, negD, isD, idxD, q1_lenL, q1_lenT, q1_lenS, q1_sumL, q1_sumT, q1_abs, q1_listL, q1_listT, q1_tupleL, q1_tupleT, q1_intI, q1_intB, q1_all, q1_min, q1_max, items, fin, pure_bind, bind_assoc, optI, sliceD, List.set_cons_succ, List.set_cons_zero, List.getElem?_cons_succ, List.getElem?_cons_zero, List.getElem?_nil, Option.bind_some, Option.map_some, Option.map_none, List.length_map, List.length_cons, List.length_nil, List.map_cons, List.map_nil, List.cons_append, List.nil_append, List.append_nil, List.replicate_succ, List.replicate_zero, Nat.reduceAdd, Nat.reduceSub, Nat.reduceLeDiff, Nat.reduceLT, if_true, if_false, ite_true, ite_false, Bool.or_true, Bool.or_false, Bool.true_or, Bool.false_or, Bool.and_true, Bool.true_and, Bool.and_false, Bool.false_and, Bool.not_true, Bool.not_false, List.all_cons, List.all_nil, Bool.false_eq_true, reduceIte]
        rw [opt_if (show small62 ((m.length : Int) - 1) = true by unfold small62; exact decide_eq_true (by omega)), rng_map, show ((m.length : Int) - 1).toNat = m.length - 1 by omega]) (fun i hi => ⟨_, rfl, by
        have hi' : i < m.length - 1 := by simpa using hi
        simp only [runFn, startE, evSs, evEs, v_non, v_bl, v_int, v_str, v_var, v_glob, v_bin, v_neg, v_not, v_cmp, v_chain, v_isC, v_andL, v_orL, v_ite, v_tup, v_lst, v_idx, v_slice, v_rev, v_call, v_callD, v_callK, v_b1, v_mm, v_isi, v_lrange, v_dget, v_didx, w_assign, w_par, w_unpack, w_append, w_expr, w_ite, w_ret, w_cont, w_raise, w_aug, w_augIdx, evAnd, evOr, evO, evC, evT, look, put, puts, tgPut, wipeE, thaw, lk, lks, lkT, lost, lostT, newL, bindTo, ownL, sc_non, sc_bl, sc_int, sc_str, sc_tup, sc_lst, sc_scr, sc_mref, flat_lst, flat_int, flat_tup, flat_bl, flat_non, flat_mref, flat_scr, isL_lst, isL_tup, isL_int, isL_bl, isL_non, isL_scr, isL_mref, isL_str, opt_some, no_bind, tyD, truth, x_lt, x_le, x_gt, x_ge, x_eqI, x_neI, x_eqL, x_neL, x_eqT, x_neT, x_eqS, binD, negD, isD, idxD, q1_lenL, q1_lenT, q1_lenS, q1_sumL, q1_sumT, q1_abs, q1_listL, q1_listT, q1_tupleL, q1_tupleT, q1_intI, q1_intB, q1_all, q1_min, q1_max, items, fin, pure_bind, bind_assoc, optI, sliceD, List.set_cons_succ, List.set_cons_zero, List.getElem?_cons_succ, List.getElem?_cons_zero, List.getElem?_nil, Option.bind_some, Option.map_some, Option.map_none, List.length_map, List.length_cons, List.length_nil, List.map_cons, List.map_nil, List.cons_append, List.nil_append, List.append_nil, List.replicate_succ, List.replicate_zero, Nat.reduceAdd, Nat.reduceSub, Nat.reduceLeDiff, Nat.reduceLT, if_true, if_false, ite_true, ite_false, Bool.or_true, Bool.or_false, Bool.true_or, Bool.false_or, Bool.and_true, Bool.true_and, Bool.and_false, Bool.false_and, Bool.not_true, Bool.not_false, List.all_cons, List.all_nil, Bool.false_eq_true, reduceIte, put, puts, wipeE, thaw, getI (l := m) (a := 0 + (i : Nat) + 1) (by omega) (by omega), getI (l := m) (a := 0 + (i : Nat)) (by omega) (by omega)]
        rw [show ((0 : Int) + (i : Nat) + 1).toNat = i + 1 by omega, show ((0 : Int) + (i : Nat)).toNat = i by omega]⟩) (by rw [List.length_range]; omega)
    have hd : ((List.range (m.length - 1)).map fun i => D.int (m.getD (i + 1) 0 - m.getD i 0)) = iD (dif m) := by
      rw [← dif_range]
      show _ = List.map D.int _
      rw [List.map_map]
      rfl
    rw [hd] at hc
    simp only [runFn, startE, evSs, evEs, v_non, v_bl, v_int, v_str, v_var, v_glob, v_bin, v_neg, v_not, v_cmp, v_chain, v_isC, v_andL, v_orL, v_ite, v_tup, v_lst, v_idx, v_slice, v_rev, v_call, v_callD, v_callK, v_b1, v_mm, v_isi, v_lrange, v_dget, v_didx, w_assign, w_par, w_unpack, w_append, w_expr, w_ite, w_ret, w_cont, w_raise, w_aug, w_augIdx, evAnd, evOr, evO, evC, evT, look, put, puts, tgPut, wipeE, thaw, lk, lks, lkT, lost, lostT, newL, bindTo, ownL, sc_non, sc_bl, sc_int, sc_str, sc_tup, sc_lst, sc_scr, sc_mref, flat_lst, flat_int, flat_tup, flat_bl, flat_non, flat_mref, flat_scr, isL_lst, isL_tup, isL_int, isL_bl, isL_non, isL_scr, isL_mref, isL_str, opt_some, no_bind, tyD, truth, x_lt, x_le, x_gt, x_ge, x_eqI, x_neI, x_eqL, x_neL, x_eqT, x_neT, x_eqS, binD, negD, isD, idxD, q1_lenL, q1_lenT, q1_lenS, q1_sumL, q1_sumT, q1_abs, q1_listL, q1_listT, q1_tupleL, q1_tupleT, q1_intI, q1_intB, q1_all, q1_min, q1_max, items, fin, pure_bind, bind_assoc, optI, sliceD, List.set_cons_succ, List.set_cons_zero, List.getElem?_cons_succ, List.getElem?_cons_zero, List.getElem?_nil, Option.bind_some, Option.map_some, Option.map_none, List.length_map, List.length_cons, List.length_nil, List.map_cons, List.map_nil, List.cons_append, List.nil_append, List.append_nil, List.replicate_succ, List.replicate_zero, Nat.reduceAdd, Nat.reduceSub, Nat.reduceLeDiff, Nat.reduceLT, if_true, if_false, ite_true, ite_false, Bool.or_true, Bool.or_false, Bool.true_or, Bool.false_or, Bool.and_true, Bool.true_and, Bool.and_false, Bool.false_and, Bool.not_true, Bool.not_false, List.all_cons, List.all_nil, Bool.false_eq_true, reduceIte, hc, sc_ints]
  rw [hn] at hf
  have h0 : difN ([] : List Nat).length w = w := rfl
  rw [h0, List.length_range] at hf
  simp only [fn_law_steps_so, runFn, startE, evSs, evEs, v_non, v_bl, v_int, v_str, v_var, v_glob, v_bin, v_neg, v_not, v_cmp, v_chain, v_isC, v_andL, v_orL, v_ite, v_tup, v_lst, v_idx, v_slice, v_rev, v_call, v_callD, v_callK, v_b1, v_mm, v_isi, v_lrange, v_dget, v_didx, w_assign, w_par, w_unpack, w_append, w_expr, w_ite, w_ret, w_cont, w_raise, w_aug, w_augIdx, evAnd, evOr, evO, evC, evT, look, put, puts, tgPut, wipeE, thaw, lk, lks, lkT, lost, lostT, newL, bindTo, ownL, sc_non, sc_bl, sc_int, sc_str, sc_tup, sc_lst, sc_scr, sc_mref, flat_lst, flat_int, flat_tup, flat_bl, flat_non, flat_mref, flat_scr, isL_lst, isL_tup, isL_int, isL_bl, isL_non, isL_scr, isL_mref, isL_str, opt_some, no_bind, tyD, truth, x_lt, x_le, x_gt, x_ge, x_eqI, x_neI, x_eqL, x_neL, x_eqT, x_neT, x_eqS, binD, negD, isD, idxD, q1_lenL, q1_lenT, q1_lenS, q1_sumL, q1_sumT, q1_abs, q1_listL, q1_listT, q1_tupleL, q1_tupleT, q1_intI, q1_intB, q1_all, q1_min, q1_max, items, fin, pure_bind, bind_assoc, optI, sliceD, List.set_cons_succ, List.set_cons_zero, List.getElem?_cons_succ, List.getElem?_cons_zero, List.getElem?_nil, Option.bind_some, Option.map_some, Option.map_none, List.length_map, List.length_cons, List.length_nil, List.map_cons, List.map_nil, List.cons_append, List.nil_append, List.append_nil, List.replicate_succ, List.replicate_zero, Nat.reduceAdd, Nat.reduceSub, Nat.reduceLeDiff, Nat.reduceLT, if_true, if_false, ite_true, ite_false, Bool.or_true, Bool.or_false, Bool.true_or, Bool.false_or, Bool.and_true, Bool.true_and, Bool.and_false, Bool.false_and, Bool.not_true, Bool.not_false, List.all_cons, List.all_nil, Bool.false_eq_true, reduceIte, sc_ints]
  rw [w_for (ds := (List.range k.toNat).map fun i => D.int (0 + (i : Nat))) (e_rngP (h := k) (by simp only [runFn, startE, evSs, evEs, v_non, v_bl, v_int, v_str, v_var, v_glob, v_bin, v_neg, v_not, v_cmp, v_chain, v_isC, v_andL, v_orL, v_ite, v_tup, v_lst, v_idx, v_slice, v_rev, v_call, v_callD, v_callK, v_b1, v_mm, v_isi, v_lrange, v_dget, v_didx, w_assign, w_par, w_unpack, w_append, w_expr, w_ite, w_ret, w_cont, w_raise, w_aug, w_augIdx, evAnd, evOr, evO, evC, evT, look, put, puts, tgPut, wipeE, thaw, lk, lks, lkT, lost, lostT, newL, bindTo, ownL, sc_non, sc_bl, sc_int, sc_str, sc_tup, sc_lst, sc_scr, sc_mref, flat_lst, flat_int, flat_tup, flat_bl, flat_non, flat_mref, flat_scr, isL_lst, isL_tup, isL_int, isL_bl, isL_non, isL_scr, isL_mref, isL_str, opt_some, no_bind, tyD, truth, x_lt, x_le, x_gt, x_ge, x_eqI, x_neI, x_eqL, x_neL, x_eqT, x_neT, x_eqS, binD, negD, isD, idxD, q1_lenL, q1_lenT, q1_lenS, q1_sumL, q1_sumT, q1_abs, q1_listL, q1_listT, q1_tupleL, q1_tupleT, q1_intI, q1_intB, q1_all, q1_min, q1_max, items, fin, pure_bind, bind_assoc, optI, sliceD, List.set_cons_succ, List.set_cons_zero, List.getElem?_cons_succ, List.getElem?_cons_zero, List.getElem?_nil, Option.bind_some, Option.map_some, Option.map_none, List.length_map, List.length_cons, List.length_nil, List.map_cons, List.map_nil, List.cons_append, List.nil_append, List.append_nil, List.replicate_succ, List.replicate_zero, Nat.reduceAdd, Nat.reduceSub, Nat.reduceLeDiff, Nat.reduceLT, if_true, if_false, ite_true, ite_false, Bool.or_true, Bool.or_false, Bool.true_or, Bool.false_or, Bool.and_true, Bool.true_and, Bool.and_false, Bool.false_and, Bool.not_true, Bool.not_false, List.all_cons, List.all_nil, Bool.false_eq_true, reduceIte]) k0 (by omega))]
  simp only [lostT, thaw, lkT, lk, newL, List.set_cons_succ, List.set_cons_zero, List.getElem?_cons_succ, List.getElem?_cons_zero, List.getElem?_nil, Option.bind_some, Option.map_some, Option.map_none, List.length_map, List.length_cons, List.length_nil, List.map_cons, List.map_nil, List.cons_append, List.nil_append, List.append_nil, List.replicate_succ, List.replicate_zero, Nat.reduceAdd, Nat.reduceSub, Nat.reduceLeDiff, Nat.reduceLT, if_true, if_false, ite_true, ite_false, Bool.or_true, Bool.or_false, Bool.true_or, Bool.false_or, Bool.and_true, Bool.true_and, Bool.and_false, Bool.false_and, Bool.not_true, Bool.not_false, List.all_cons, List.all_nil, Bool.false_eq_true, reduceIte]
  rw [hf]
  simp only [runFn, startE, evSs, evEs, v_non, v_bl, v_int, v_str, v_var, v_glob, v_bin, v_neg, v_not, v_cmp, v_chain, v_isC, v_andL, v_orL, v_ite, v_tup, v_lst, v_idx, v_slice, v_rev, v_call, v_callD, v_callK, v_b1, v_mm, v_isi, v_lrange, v_dget, v_didx, w_assign, w_par, w_unpack, w_append, w_expr, w_ite, w_ret, w_cont, w_raise, w_aug, w_augIdx, evAnd, evOr, evO, evC, evT, look, put, puts, tgPut, wipeE, thaw, lk, lks, lkT, lost, lostT, newL, bindTo, ownL, sc_non, sc_bl, sc_int, sc_str, sc_tup, sc_lst, sc_scr, sc_mref, flat_lst, flat_int, flat_tup, flat_bl, flat_non, flat_mref, flat_scr, isL_lst, isL_tup, isL_int, isL_bl, isL_non, isL_scr, isL_mref, isL_str, opt_some, no_bind, tyD, truth, x_lt, x_le, x_gt, x_ge, x_eqI, x_neI, x_eqL, x_neL, x_eqT, x_neT, x_eqS, binD, negD, isD, idxD, q1_lenL, q1_lenT, q1_lenS, q1_sumL, q1_sumT, q1_abs, q1_listL, q1_listT, q1_tupleL, q1_tupleT, q1_intI, q1_intB, q1_all, q1_min, q1_max, items, fin, pure_bind, bind_assoc, optI, sliceD, List.set_cons_succ, List.set_cons_zero, List.getElem?_cons_succ, List.getElem?_cons_zero, List.getElem?_nil, Option.bind_some, Option.map_some, Option.map_none, List.length_map, List.length_cons, List.length_nil, List.map_cons, List.map_nil, List.cons_append, List.nil_append, List.append_nil, List.replicate_succ, List.replicate_zero, Nat.reduceAdd, Nat.reduceSub, Nat.reduceLeDiff, Nat.reduceLT, if_true, if_false, ite_true, ite_false, Bool.or_true, Bool.or_false, Bool.true_or, Bool.false_or, Bool.and_true, Bool.true_and, Bool.and_false, Bool.false_and, Bool.not_true, Bool.not_false, List.all_cons, List.all_nil, Bool.false_eq_true, reduceIte]
theorem x_eqT0 {a : List Int} : cmpD S .eq (.tup (iD a)) (.tup []) = some (.bl (decide (a = []))) := x_eqT (b := [])
theorem e_need_some {w : List Int} (hw : w.length ≤ 1000) (h0 : w ≠ []) : callN tbl S (n + 3) 21 [.tup (iD w)] = pure .non := by
  rw [c_need_some]
  simp only [fn_need_some, runFn, startE, evSs, evEs, v_non, v_bl, v_int, v_str, v_var, v_glob, v_bin, v_neg, v_not, v_cmp, v_chain, v_isC, v_andL, v_orL, v_ite, v_tup, v_lst, v_idx, v_slice, v_rev, v_call, v_callD, v_callK, v_b1, v_mm, v_isi, v_lrange, v_dget, v_didx, w_assign, w_par, w_unpack, w_append, w_expr, w_ite, w_ret, w_cont, w_raise, w_aug, w_augIdx, evAnd, evOr, evO, evC, evT, look, put, puts, tgPut, wipeE, thaw, lk, lks, lkT, lost, lostT, newL, bindTo, ownL, sc_non, sc_bl, sc_int, sc_str, sc_tup, sc_lst, sc_scr, sc_mref, flat_lst, flat_int, flat_tup, flat_bl, flat_non, flat_mref, flat_scr, isL_lst, isL_tup, isL_int, isL_bl, isL_non, isL_scr, isL_mref, isL_str, opt_some, no_bind, tyD, truth, x_lt, x_le, x_gt, x_ge, x_eqI, x_neI, x_eqL, x_neL, x_eqT, x_neT, x_eqS, binD, negD, isD, idxD, q1_lenL, q1_lenT, q1_lenS, q1_sumL, q1_sumT, q1_abs, q1_listL, q1_listT, q1_tupleL, q1_tupleT, q1_intI, q1_intB, q1_all, q1_min, q1_max, items, fin, pure_bind, bind_assoc, optI, sliceD, List.set_cons_succ, List.set_cons_zero, List.getElem?_cons_succ, List.getElem?_cons_zero, List.getElem?_nil, Option.bind_some, Option.map_some, Option.map_none, List.length_map, List.length_cons, List.length_nil, List.map_cons, List.map_nil, List.cons_append, List.nil_append, List.append_nil, List.replicate_succ, List.replicate_zero, Nat.reduceAdd, Nat.reduceSub, Nat.reduceLeDiff, Nat.reduceLT, if_true, if_false, ite_true, ite_false, Bool.or_true, Bool.or_false, Bool.true_or, Bool.false_or, Bool.and_true, Bool.true_and, Bool.and_false, Bool.false_and, Bool.not_true, Bool.not_false, List.all_cons, List.all_nil, Bool.false_eq_true, reduceIte, e_are_worths hw, x_eqT0, decide_eq_false h0, Nat.zero_le]
theorem e_differences {w : List Int} {k : Int} (hw : w.length ≤ 1000) (h0 : w ≠ []) (k0 : 0 ≤ k) (k1 : k ≤ 9) : callN tbl S (n + 4) 24 [.tup (iD w), .int k] = pure (.lst (iD (difN k.toNat w))) := by
  rw [c_differences]
  simp only [fn_differences, runFn, startE, evSs, evEs, v_non, v_bl, v_int, v_str, v_var, v_glob, v_bin, v_neg, v_not, v_cmp, v_chain, v_isC, v_andL, v_orL, v_ite, v_tup, v_lst, v_idx, v_slice, v_rev, v_call, v_callD, v_callK, v_b1, v_mm, v_isi, v_lrange, v_dget, v_didx, w_assign, w_par, w_unpack, w_append, w_expr, w_ite, w_ret, w_cont, w_raise, w_aug, w_augIdx, evAnd, evOr, evO, evC, evT, look, put, puts, tgPut, wipeE, thaw, lk, lks, lkT, lost, lostT, newL, bindTo, ownL, sc_non, sc_bl, sc_int, sc_str, sc_tup, sc_lst, sc_scr, sc_mref, flat_lst, flat_int, flat_tup, flat_bl, flat_non, flat_mref, flat_scr, isL_lst, isL_tup, isL_int, isL_bl, isL_non, isL_scr, isL_mref, isL_str, opt_some, no_bind, tyD, truth, x_lt, x_le, x_gt, x_ge, x_eqI, x_neI, x_eqL, x_neL, x_eqT, x_neT, x_eqS, binD, negD, isD, idxD, q1_lenL, q1_lenT, q1_lenS, q1_sumL, q1_sumT, q1_abs, q1_listL, q1_listT, q1_tupleL, q1_tupleT, q1_intI, q1_intB, q1_all, q1_min, q1_max, items, fin, pure_bind, bind_assoc, optI, sliceD, List.set_cons_succ, List.set_cons_zero, List.getElem?_cons_succ, List.getElem?_cons_zero, List.getElem?_nil, Option.bind_some, Option.map_some, Option.map_none, List.length_map, List.length_cons, List.length_nil, List.map_cons, List.map_nil, List.cons_append, List.nil_append, List.append_nil, List.replicate_succ, List.replicate_zero, Nat.reduceAdd, Nat.reduceSub, Nat.reduceLeDiff, Nat.reduceLT, if_true, if_false, ite_true, ite_false, Bool.or_true, Bool.or_false, Bool.true_or, Bool.false_or, Bool.and_true, Bool.true_and, Bool.and_false, Bool.false_and, Bool.not_true, Bool.not_false, List.all_cons, List.all_nil, Bool.false_eq_true, reduceIte, e_need_some hw h0, e_is_whole, decide_eq_true k0, decide_eq_true k1, e_differences_of hw k0 (show k ≤ 1000 by omega)]
def zeros (l : List Int) : Bool := l.all fun x => decide (x = 0)
theorem e_is_smooth {w : List Int} {k : Int} (hw : w.length ≤ 1000) (h0 : w ≠ []) (k0 : 0 ≤ k) (k1 : k ≤ 9) : callN tbl S (n + 4) 23 [.tup (iD w), .int k] = pure (.bl (zeros (difN (k.toNat + 1) w))) := by
  rw [c_is_smooth]
  have hl : (difN (k.toNat + 1) w).length ≤ 1000 := by rw [difN_len]; omega
  have hk : (k + 1).toNat = k.toNat + 1 := by omega
  have hc := evComp (S := S) (c := callN tbl S (n + 3)) (vs := [2]) (tg := .one 2) (it := .seq (.call 20 (.cons (.var 0) (.cons (.bin .add (.var 1) (.int 1)) .nil)))) (elt := .cmp .eq (.var 2) (.int 0)) (ρ := [some (false, .tup (iD w)), some (false, .int k), none])
    D.int (fun x => D.bl (decide (x = 0))) (xs := difN (k.toNat + 1) w) (by simp only [runFn, startE, evSs, evEs, v_non, v_bl, v_int, v_str, v_var, v_glob, v_bin, v_neg, v_not, v_cmp, v_chain, v_isC, v_andL, v_orL, v_ite, v_tup, v_lst, v_idx, v_slice, v_rev, v_call, v_callD, v_callK, v_b1, v_mm, v_isi, v_lrange, v_dget, v_didx, w_assign, w_par, w_unpack, w_append, w_expr, w_ite, w_ret, w_cont, w_raise, w_aug, w_augIdx, evAnd, evOr, evO, evC, evT, look, put, puts, tgPut, wipeE, thaw, lk, lks, lkT, lost, lostT, newL, bindTo, ownL, sc_non, sc_bl, sc_int, sc_str, sc_tup, sc_lst, sc_scr, sc_mref, flat_lst, flat_int, flat_tup, flat_bl, flat_non, flat_mref, flat_scr, isL_lst, isL_tup, isL_int, isL_bl, isL_non, isL_scr, isL_mref, isL_str, opt_some, no_bind, tyD, truth, x_lt, x_le, x_gt, x_ge, x_eqI, x_neI, x_eqL, x_neL, x_eqT, x_neT, x_eqS, binD, negD, isD, idxD, q1_lenL, q1_lenT, q1_lenS, q1_sumL, q1_sumT, q1_abs, q1_listL, q1_listT, q1_tupleL, q1_tupleT, q1_intI, q1_intB, q1_all, q1_min, q1_max, items, fin, pure_bind, bind_assoc, optI, sliceD, List.set_cons_succ, List.set_cons_zero, List.getElem?_cons_succ, List.getElem?_cons_zero, List.getElem?_nil, Option.bind_some, Option.map_some, Option.map_none, List.length_map, List.length_cons, List.length_nil, List.map_cons, List.map_nil, List.cons_append, List.nil_append, List.append_nil, List.replicate_succ, List.replicate_zero, Nat.reduceAdd, Nat.reduceSub, Nat.reduceLeDiff, Nat.reduceLT, if_true, if_false, ite_true, ite_false, Bool.or_true, Bool.or_false, Bool.true_or, Bool.false_or, Bool.and_true, Bool.true_and, Bool.and_false, Bool.false_and, Bool.not_true, Bool.not_false, List.all_cons, List.all_nil, Bool.false_eq_true, reduceIte]; rw [e_differences_of hw (by omega) (by omega), hk]; simp only [runFn, startE, evSs, evEs, v_non, v_bl, v_int, v_str, v_var, v_glob, v_bin, v_neg, v_not, v_cmp, v_chain, v_isC, v_andL, v_orL, v_ite, v_tup, v_lst, v_idx, v_slice, v_rev, v_call, v_callD, v_callK, v_b1, v_mm, v_isi, v_lrange, v_dget, v_didx, w_assign, w_par, w_unpack, w_append, w_expr, w_ite, w_ret, w_cont, w_raise, w_aug, w_augIdx, evAnd, evOr, evO, evC, evT, look, put, puts, tgPut, wipeE, thaw, lk, lks, lkT, lost, lostT, newL, bindTo, ownL, sc_non, sc_bl, sc_int, sc_str, sc_tup, sc_lst, sc_scr, sc_mref, flat_lst, flat_int, flat_tup, flat_bl, flat_non, flat_mref, flat_scr, isL_lst, isL_tup, isL_int, isL_bl, isL_non, isL_scr, isL_mref, isL_str, opt_some, no_bind, tyD, truth, x_lt, x_le, x_gt, x_ge, x_eqI, x_neI, x_eqL, x_neL, x_eqT, x_neT, x_eqS, binD, negD, isD, idxD, q1_lenL, q1_lenT, q1_lenS, q1_sumL, q1_sumT, q1_abs, q1_listL, q1_listT, q1_tupleL, q1_tupleT, q1_intI, q1_intB, q1_all, q1_min, q1_max, items, fin, pure_bind, bind_assoc, optI, sliceD, List.set_cons_succ, List.set_cons_zero, List.getElem?_cons_succ, List.getElem?_cons_zero, List.getElem?_nil, Option.bind_some, Option.map_some, Option.map_none, List.length_map, List.length_cons, List.length_nil, List.map_cons, List.map_nil, List.cons_append, List.nil_append, List.append_nil, List.replicate_succ, List.replicate_zero, Nat.reduceAdd, Nat.reduceSub, Nat.reduceLeDiff, Nat.reduceLT, if_true, if_false, ite_true, ite_false, Bool.or_true, Bool.or_false, Bool.true_or, Bool.false_or, Bool.and_true, Bool.true_and, Bool.and_false, Bool.false_and, Bool.not_true, Bool.not_false, List.all_cons, List.all_nil, Bool.false_eq_true, reduceIte]) (fun x hx => ⟨_, rfl, by simp only [runFn, startE, evSs, evEs, v_non, v_bl, v_int, v_str, v_var, v_glob, v_bin, v_neg, v_not, v_cmp, v_chain, v_isC, v_andL, v_orL, v_ite, v_tup, v_lst, v_idx, v_slice, v_rev, v_call, v_callD, v_callK, v_b1, v_mm, v_isi, v_lrange, v_dget, v_didx, w_assign, w_par, w_unpack, w_append, w_expr, w_ite, w_ret, w_cont, w_raise, w_aug, w_augIdx, evAnd, evOr, evO, evC, evT, look, put, puts, tgPut, wipeE, thaw, lk, lks, lkT, lost, lostT, newL, bindTo, ownL, sc_non, sc_bl, sc_int, sc_str, sc_tup, sc_lst, sc_scr, sc_mref, flat_lst, flat_int, flat_tup, flat_bl, flat_non, flat_mref, flat_scr, isL_lst, isL_tup, isL_int, isL_bl, isL_non, isL_scr, isL_mref, isL_str, opt_some, no_bind, tyD, truth, x_lt, x_le, x_gt, x_ge, x_eqI, x_neI, x_eqL, x_neL, x_eqT, x_neT, x_eqS, binD, negD, isD, idxD, q1_lenL, q1_lenT, q1_lenS, q1_sumL, q1_sumT, q1_abs, q1_listL, q1_listT, q1_tupleL, q1_tupleT, q1_intI, q1_intB, q1_all, q1_min, q1_max, items, fin, pure_bind, bind_assoc, optI, sliceD, List.set_cons_succ, List.set_cons_zero, List.getElem?_cons_succ, List.getElem?_cons_zero, List.getElem?_nil, Option.bind_some, Option.map_some, Option.map_none, List.length_map, List.length_cons, List.length_nil, List.map_cons, List.map_nil, List.cons_append, List.nil_append, List.append_nil, List.replicate_succ, List.replicate_zero, Nat.reduceAdd, Nat.reduceSub, Nat.reduceLeDiff, Nat.reduceLT, if_true, if_false, ite_true, ite_false, Bool.or_true, Bool.or_false, Bool.true_or, Bool.false_or, Bool.and_true, Bool.true_and, Bool.and_false, Bool.false_and, Bool.not_true, Bool.not_false, List.all_cons, List.all_nil, Bool.false_eq_true, reduceIte, put, wipeE, thaw]⟩) (by omega)
  simp only [fn_is_smooth, runFn, startE, evSs, evEs, v_non, v_bl, v_int, v_str, v_var, v_glob, v_bin, v_neg, v_not, v_cmp, v_chain, v_isC, v_andL, v_orL, v_ite, v_tup, v_lst, v_idx, v_slice, v_rev, v_call, v_callD, v_callK, v_b1, v_mm, v_isi, v_lrange, v_dget, v_didx, w_assign, w_par, w_unpack, w_append, w_expr, w_ite, w_ret, w_cont, w_raise, w_aug, w_augIdx, evAnd, evOr, evO, evC, evT, look, put, puts, tgPut, wipeE, thaw, lk, lks, lkT, lost, lostT, newL, bindTo, ownL, sc_non, sc_bl, sc_int, sc_str, sc_tup, sc_lst, sc_scr, sc_mref, flat_lst, flat_int, flat_tup, flat_bl, flat_non, flat_mref, flat_scr, isL_lst, isL_tup, isL_int, isL_bl, isL_non, isL_scr, isL_mref, isL_str, opt_some, no_bind, tyD, truth, x_lt, x_le, x_gt, x_ge, x_eqI, x_neI, x_eqL, x_neL, x_eqT, x_neT, x_eqS, binD, negD, isD, idxD, q1_lenL, q1_lenT, q1_lenS, q1_sumL, q1_sumT, q1_abs, q1_listL, q1_listT, q1_tupleL, q1_tupleT, q1_intI, q1_intB, q1_all, q1_min, q1_max, items, fin, pure_bind, bind_assoc, optI, sliceD, List.set_cons_succ, List.set_cons_zero, List.getElem?_cons_succ, List.getElem?_cons_zero, List.getElem?_nil, Option.bind_some, Option.map_some, Option.map_none, List.length_map, List.length_cons, List.length_nil, List.map_cons, List.map_nil, List.cons_append, List.nil_append, List.append_nil, List.replicate_succ, List.replicate_zero, Nat.reduceAdd, Nat.reduceSub, Nat.reduceLeDiff, Nat.reduceLT, if_true, if_false, ite_true, ite_false, Bool.or_true, Bool.or_false, Bool.true_or, Bool.false_or, Bool.and_true, Bool.true_and, Bool.and_false, Bool.false_and, Bool.not_true, Bool.not_false, List.all_cons, List.all_nil, Bool.false_eq_true, reduceIte, e_need_some hw h0, e_is_whole, decide_eq_true k0, decide_eq_true k1, hc]
  have : ∀ l : List Int, blsOf (l.map fun x => D.bl (decide (x = 0))) = some (l.map fun x => decide (x = 0)) := by
    intro l
    induction l with
    | nil => rfl
    | cons x l ih => rw [List.map_cons, blsOf, ih]; rfl
  rw [this]
  show (pure (D.bl _) : M D) = pure (D.bl _)
  rw [List.all_map]
  rfl
end
end Ev

set_option Elab.async false
set_option linter.all false
set_option maxRecDepth 100000
set_option maxHeartbeats 1000000
namespace Ev
/-! ### while -/
theorem whileM_run {test : Env → M Bool} {step : Env → M (Fl × Env)} (J : Nat → Env → Mu → Prop) (ht : ∀ m ρ μ, J (m + 1) ρ μ → test ρ μ = .ok true μ ∧ ∃ ρ' μ', step ρ μ = .ok (.next, ρ') μ' ∧ J m ρ' μ') (hf : ∀ ρ μ, J 0 ρ μ → test ρ μ = .ok false μ) :
    ∀ (m fuel : Nat) (ρ : Env) (μ : Mu), J m ρ μ → m < fuel → ∃ ρ' μ', whileM test step fuel ρ μ = .ok (.next, ρ') μ' ∧ J 0 ρ' μ'
  | m, 0, _, _, _, h => absurd h (Nat.not_lt_zero _)
  | 0, fuel + 1, ρ, μ, j, h => by
    refine ⟨ρ, μ, ?_, j⟩
    unfold whileM
    rw [run_bind (hf ρ μ j)]
    rfl
  | m + 1, fuel + 1, ρ, μ, j, h => by
    obtain ⟨e1, ρ1, μ1, e2, j1⟩ := ht m ρ μ j
    obtain ⟨ρ2, μ2, e3, j2⟩ := whileM_run J ht hf m fuel ρ1 μ1 j1 (by omega)
    refine ⟨ρ2, μ2, ?_, j2⟩
    unfold whileM
    rw [run_bind e1]
    show (step ρ >>= _) μ = _
    rw [run_bind e2]
    exact e3
section
variable {S : List Int} {c : Nat → List D → M D} {ρ : Env} {μ μ1 : Mu} {ss : ISs} {e : IE}
theorem whileR {n m : Nat} {body : ISs} (J : Nat → Env → Mu → Prop) (h0 : J m ρ μ) (hm : m < n) (ht : ∀ m ρ μ, J (m + 1) ρ μ → evE S c e ρ μ = .ok (.bl true) μ ∧ ∃ ρ' μ', evSs S c body ρ μ = .ok (.next, ρ') μ' ∧ J m ρ' μ') (hf : ∀ ρ μ, J 0 ρ μ → evE S c e ρ μ = .ok (.bl false) μ) :
    ∃ ρ' μ', evSs S c (.cons (.while_ n e body) ss) ρ μ = evSs S c ss ρ' μ' ∧ J 0 ρ' μ' := by
  obtain ⟨ρ', μ', e1, j⟩ := whileM_run (test := fun ρ => evE S c e ρ >>= fun x => M.opt (truth x)) (step := fun ρ => evSs S c body ρ) J (fun m ρ μ hj => by
    obtain ⟨a1, a2⟩ := ht m ρ μ hj
    exact ⟨by rw [run_bind a1]; rfl, a2⟩) (fun ρ μ hj => by rw [run_bind (hf ρ μ hj)]; rfl) m n ρ μ h0 hm
  refine ⟨ρ', μ', seqR ?_, j⟩
  rw [evS]
  exact e1
end
/-- an order of the first m numbers -/
def Ord (m : Int) (o : List Int) : Prop := o.Perm ((List.range m.toNat).map fun i => ((i : Nat) : Int))
theorem Ord.len {m : Int} {o : List Int} (h : Ord m o) : o.length = m.toNat := by rw [h.length_eq]; simp
theorem Ord.mem {m : Int} {o : List Int} (h : Ord m o) {x : Int} : x ∈ o ↔ 0 ≤ x ∧ x < m := by
  rw [h.mem_iff, List.mem_map]
  constructor
  · rintro ⟨i, hi, rfl⟩
    have := List.mem_range.mp hi
    omega
  · rintro ⟨h1, h2⟩
    exact ⟨x.toNat, List.mem_range.mpr (by omega), by omega⟩
theorem Ord.nodup {m : Int} {o : List Int} (h : Ord m o) : o.Nodup := by
  refine h.nodup_iff.mpr ?_
  rw [List.nodup_iff_pairwise_ne, List.pairwise_map]
  exact (List.nodup_range (n := m.toNat)).imp fun h z => h (by omega)
section
variable {S : List Int} {n : Nat}
theorem x_neL0 {a : List Int} : cmpD S .ne (.lst (iD a)) (.lst []) = some (.bl (!decide (a = []))) := x_neL (b := [])
theorem erase_iD (l : List Int) (k : Nat) : (iD l).eraseIdx k = iD (l.eraseIdx k) := by
  induction l generalizing k with
  | nil => rfl
  | cons x l ih =>
    cases k with
    | zero => rfl
    | succ k =>
      show D.int x :: (iD l).eraseIdx k = D.int x :: iD (l.eraseIdx k)
      rw [ih]
theorem erase_perm : ∀ (l : List Int) (i : Nat) (h : i < l.length), (l[i] :: l.eraseIdx i).Perm l
  | [], _, h => absurd h (Nat.not_lt_zero _)
  | x :: l, 0, _ => List.Perm.refl _
  | x :: l, i + 1, h => by
    have hi : i < l.length := by simpa using h
    have := erase_perm l i hi
    show (l[i] :: x :: l.eraseIdx i).Perm (x :: l)
    exact (List.Perm.swap x _ _).trans (this.cons x)
theorem app_iD (l : List Int) (x : Int) : iD l ++ [.int x] = iD (l ++ [x]) := by
  show List.map D.int l ++ _ = List.map D.int _
  rw [List.map_append]
  rfl
theorem e_order_of (hS : S.length ≤ 63) {L : Nat} {m : Int} (m0 : 0 ≤ m) (m1 : m ≤ 900) (hL : L ≤ 900000) : ∃ o, Ord m o ∧ callN tbl S (n + 4) 35 [.scr, .mref 0, .int m] (tw L) = .ok (.lst (iD o)) (tw (L + m.toNat)) := by
  have hr : (rngD 0 m) = iD ((List.range m.toNat).map fun i => ((i : Nat) : Int)) := by
    rw [rng_map]
    show _ = List.map D.int _
    rw [List.map_map]
    congr 1
    funext i
    show D.int (0 + (i : Int)) = D.int (i : Int)
    rw [Int.zero_add]
  have main : ∃ o ρ', Ord m o ∧ evSs S (callN tbl S (n + 3)) fn_law_order_of.body (startE fn_law_order_of.slots [.scr, .mref 0, .int m]) (tw L) = .ok (.ret (.lst (iD o)), ρ') (tw (L + m.toNat)) := by
    unfold fn_law_order_of
    have h1 : evS S (callN tbl S (n + 3)) (.par 3 4 (.lrange (.var 2)) (.lst .nil)) (startE 5 [.scr, .mref 0, .int m]) (tw L) = .ok (.next, [some (false, .scr), some (false, .mref 0), some (false, .int m), some (true, .lst (iD ((List.range m.toNat).map fun i => ((i : Nat) : Int)))), some (true, .lst [])]) (tw L) := by
      simp only [runFn, startE, evSs, evEs, v_non, v_bl, v_int, v_str, v_var, v_glob, v_bin, v_neg, v_not, v_cmp, v_chain, v_isC, v_andL, v_orL, v_ite, v_tup, v_lst, v_idx, v_slice, v_rev, v_call, v_callD, v_callK, v_b1, v_mm, v_isi, v_lrange, v_dget, v_didx, w_assign, w_par, w_unpack, w_append, w_expr, w_ite, w_ret, w_cont, w_raise, w_aug, w_augIdx, evAnd, evOr, evO, evC, evT, look, put, puts, tgPut, wipeE, thaw, lk, lks, lkT, lost, lostT, newL, bindTo, ownL, sc_non, sc_bl, sc_int, sc_str, sc_tup, sc_lst, sc_scr, sc_mref, flat_lst, flat_int, flat_tup, flat_bl, flat_non, flat_mref, flat_scr, isL_lst, isL_tup, isL_int, isL_bl, isL_non, isL_scr, isL_mref, isL_str, opt_some, no_bind, tyD, truth, x_lt, x_le, x_gt, x_ge, x_eqI, x_neI, x_eqL, x_neL, x_eqT, x_neT, x_eqS, binD, negD, isD, idxD, q1_lenL, q1_lenT, q1_lenS, q1_sumL, q1_sumT, q1_abs, q1_listL, q1_listT, q1_tupleL, q1_tupleT, q1_intI, q1_intB, q1_all, q1_min, q1_max, items, fin, pure_bind, bind_assoc, optI, sliceD, List.set_cons_succ, List.set_cons_zero, List.getElem?_cons_succ, List.getElem?_cons_zero, List.getElem?_nil, Option.bind_some, Option.map_some, Option.map_none, List.length_map, List.length_cons, List.length_nil, List.map_cons, List.map_nil, List.cons_append, List.nil_append, List.append_nil, List.replicate_succ, List.replicate_zero, Nat.reduceAdd, Nat.reduceSub, Nat.reduceLeDiff, Nat.reduceLT, if_true, if_false, ite_true, ite_false, Bool.or_true, Bool.or_false, Bool.true_or, Bool.false_or, Bool.and_true, Bool.true_and, Bool.and_false, Bool.false_and, Bool.not_true, Bool.not_false, List.all_cons, List.all_nil, Bool.false_eq_true, reduceIte]
      rw [opt_if ⟨m0, by omega⟩, hr]
      simp only [runFn, startE, evSs, evEs, v_non, v_bl, v_int, v_str, v_var, v_glob, v_bin, v_neg, v_not, v_cmp, v_chain, v_isC, v_andL, v_orL, v_ite, v_tup, v_lst, v_idx, v_slice, v_rev, v_call, v_callD, v_callK, v_b1, v_mm, v_isi, v_lrange, v_dget, v_didx, w_assign, w_par, w_unpack, w_append, w_expr, w_ite, w_ret, w_cont, w_raise, w_aug, w_augIdx, evAnd, evOr, evO, evC, evT, look, put, puts, tgPut, wipeE, thaw, lk, lks, lkT, lost, lostT, newL, bindTo, ownL, sc_non, sc_bl, sc_int, sc_str, sc_tup, sc_lst, sc_scr, sc_mref, flat_lst, flat_int, flat_tup, flat_bl, flat_non, flat_mref, flat_scr, isL_lst, isL_tup, isL_int, isL_bl, isL_non, isL_scr, isL_mref, isL_str, opt_some, no_bind, tyD, truth, x_lt, x_le, x_gt, x_ge, x_eqI, x_neI, x_eqL, x_neL, x_eqT, x_neT, x_eqS, binD, negD, isD, idxD, q1_lenL, q1_lenT, q1_lenS, q1_sumL, q1_sumT, q1_abs, q1_listL, q1_listT, q1_tupleL, q1_tupleT, q1_intI, q1_intB, q1_all, q1_min, q1_max, items, fin, pure_bind, bind_assoc, optI, sliceD, List.set_cons_succ, List.set_cons_zero, List.getElem?_cons_succ, List.getElem?_cons_zero, List.getElem?_nil, Option.bind_some, Option.map_some, Option.map_none, List.length_map, List.length_cons, List.length_nil, List.map_cons, List.map_nil, List.cons_append, List.nil_append, List.append_nil, List.replicate_succ, List.replicate_zero, Nat.reduceAdd, Nat.reduceSub, Nat.reduceLeDiff, Nat.reduceLT, if_true, if_false, ite_true, ite_false, Bool.or_true, Bool.or_false, Bool.true_or, Bool.false_or, Bool.and_true, Bool.true_and, Bool.and_false, Bool.false_and, Bool.not_true, Bool.not_false, List.all_cons, List.all_nil, Bool.false_eq_true, reduceIte, sc_ints]
      rfl
    obtain ⟨ρ', μ', e1, left, made, hj1, hj2, hj3, hj4⟩ := whileR (S := S) (c := callN tbl S (n + 3)) (ss := .cons (.ret (.var 4)) .nil) (e := .cmp .ne (.var 3) (.lst .nil)) (n := 1000) (m := m.toNat) (μ := tw L)
      (body := .cons (.appPop 4 3 (.call 12 (.cons (.var 0) (.cons (.var 1) (.cons (.b1 .len (.var 3)) .nil))))) .nil)
      (ρ := [some (false, .scr), some (false, .mref 0), some (false, .int m), some (true, .lst (iD ((List.range m.toNat).map fun i => ((i : Nat) : Int)))), some (true, .lst [])])
      (fun k ρ μ => ∃ left made : List Int, left.length = k ∧ Ord m (made ++ left) ∧ μ = tw (L + made.length) ∧ ρ = [some (false, .scr), some (false, .mref 0), some (false, .int m), some (true, .lst (iD left)), some (true, .lst (iD made))])
      ⟨_, [], by simp, List.Perm.refl _, rfl, rfl⟩ (by omega)
      (fun k ρ μ hj => by
        obtain ⟨left, made, h1, h2, rfl, rfl⟩ := hj
        have hne : left ≠ [] := fun z => by rw [z] at h1; simp at h1
        have hlen := h2.len
        rw [List.length_append] at hlen
        refine ⟨by simp only [runFn, startE, evSs, evEs, v_non, v_bl, v_int, v_str, v_var, v_glob, v_bin, v_neg, v_not, v_cmp, v_chain, v_isC, v_andL, v_orL, v_ite, v_tup, v_lst, v_idx, v_slice, v_rev, v_call, v_callD, v_callK, v_b1, v_mm, v_isi, v_lrange, v_dget, v_didx, w_assign, w_par, w_unpack, w_append, w_expr, w_ite, w_ret, w_cont, w_raise, w_aug, w_augIdx, evAnd, evOr, evO, evC, evT, look, put, puts, tgPut, wipeE, thaw, lk, lks, lkT, lost, lostT, newL, bindTo, ownL, sc_non, sc_bl, sc_int, sc_str, sc_tup, sc_lst, sc_scr, sc_mref, flat_lst, flat_int, flat_tup, flat_bl, flat_non, flat_mref, flat_scr, isL_lst, isL_tup, isL_int, isL_bl, isL_non, isL_scr, isL_mref, isL_str, opt_some, no_bind, tyD, truth, x_lt, x_le, x_gt, x_ge, x_eqI, x_neI, x_eqL, x_neL, x_eqT, x_neT, x_eqS, binD, negD, isD, idxD, q1_lenL, q1_lenT, q1_lenS, q1_sumL, q1_sumT, q1_abs, q1_listL, q1_listT, q1_tupleL, q1_tupleT, q1_intI, q1_intB, q1_all, q1_min, q1_max, items, fin, pure_bind, bind_assoc, optI, sliceD, List.set_cons_succ, List.set_cons_zero, List.getElem?_cons_succ, List.getElem?_cons_zero, List.getElem?_nil, Option.bind_some, Option.map_some, Option.map_none, List.length_map, List.length_cons, List.length_nil, List.map_cons, List.map_nil, List.cons_append, List.nil_append, List.append_nil, List.replicate_succ, List.replicate_zero, Nat.reduceAdd, Nat.reduceSub, Nat.reduceLeDiff, Nat.reduceLT, if_true, if_false, ite_true, ite_false, Bool.or_true, Bool.or_false, Bool.true_or, Bool.false_or, Bool.and_true, Bool.true_and, Bool.and_false, Bool.false_and, Bool.not_true, Bool.not_false, List.all_cons, List.all_nil, Bool.false_eq_true, reduceIte, Nat.zero_le, x_neL0, decide_eq_false hne]; rfl, ?_⟩
        obtain ⟨d1, d2⟩ := (dv_ok hS (L + made.length + 1) (r := (left.length : Int)) (by omega)).1
        generalize hd : dv S (L + made.length + 1) left.length = d at d1 d2
        have hg : left[d.toNat]? = some (left.getD d.toNat 0) := by rw [List.getD_eq_getElem?_getD, List.getElem?_eq_getElem (by omega)]; rfl
        refine ⟨[some (false, .scr), some (false, .mref 0), some (false, .int m), some (true, .lst (iD (left.eraseIdx d.toNat))), some (true, .lst (iD (made ++ [left.getD d.toNat 0])))], tw (L + (made.length + 1)), ?_, _, _, ?_, ?_, by rw [List.length_append]; rfl, rfl⟩
        · refine (seqR (ρ1 := [some (false, .scr), some (false, .mref 0), some (false, .int m), some (true, .lst (iD (left.eraseIdx d.toNat))), some (true, .lst (iD (made ++ [left.getD d.toNat 0])))]) (μ1 := tw (L + (made.length + 1))) ?_).trans nilR
          rw [evS]
          simp only [runFn, startE, evSs, evEs, v_non, v_bl, v_int, v_str, v_var, v_glob, v_bin, v_neg, v_not, v_cmp, v_chain, v_isC, v_andL, v_orL, v_ite, v_tup, v_lst, v_idx, v_slice, v_rev, v_call, v_callD, v_callK, v_b1, v_mm, v_isi, v_lrange, v_dget, v_didx, w_assign, w_par, w_unpack, w_append, w_expr, w_ite, w_ret, w_cont, w_raise, w_aug, w_augIdx, evAnd, evOr, evO, evC, evT, look, put, puts, tgPut, wipeE, thaw, lk, lks, lkT, lost, lostT, newL, bindTo, ownL, sc_non, sc_bl, sc_int, sc_str, sc_tup, sc_lst, sc_scr, sc_mref, flat_lst, flat_int, flat_tup, flat_bl, flat_non, flat_mref, flat_scr, isL_lst, isL_tup, isL_int, isL_bl, isL_non, isL_scr, isL_mref, isL_str, opt_some, no_bind, tyD, truth, x_lt, x_le, x_gt, x_ge, x_eqI, x_neI, x_eqL, x_neL, x_eqT, x_neT, x_eqS, binD, negD, isD, idxD, q1_lenL, q1_lenT, q1_lenS, q1_sumL, q1_sumT, q1_abs, q1_listL, q1_listT, q1_tupleL, q1_tupleT, q1_intI, q1_intB, q1_all, q1_min, q1_max, items, fin, pure_bind, bind_assoc, optI, sliceD, List.set_cons_succ, List.set_cons_zero, List.getElem?_cons_succ, List.getElem?_cons_zero, List.getElem?_nil, Option.bind_some, Option.map_some, Option.map_none, List.length_map, List.length_cons, List.length_nil, List.map_cons, List.map_nil, List.cons_append, List.nil_append, List.append_nil, List.replicate_succ, List.replicate_zero, Nat.reduceAdd, Nat.reduceSub, Nat.reduceLeDiff, Nat.reduceLT, if_true, if_false, ite_true, ite_false, Bool.or_true, Bool.or_false, Bool.true_or, Bool.false_or, Bool.and_true, Bool.true_and, Bool.and_false, Bool.false_and, Bool.not_true, Bool.not_false, List.all_cons, List.all_nil, Bool.false_eq_true, reduceIte]
          rw [run_bind (e_draw hS (by omega) (by omega)), hd]
          simp only [runFn, startE, evSs, evEs, v_non, v_bl, v_int, v_str, v_var, v_glob, v_bin, v_neg, v_not, v_cmp, v_chain, v_isC, v_andL, v_orL, v_ite, v_tup, v_lst, v_idx, v_slice, v_rev, v_call, v_callD, v_callK, v_b1, v_mm, v_isi, v_lrange, v_dget, v_didx, w_assign, w_par, w_unpack, w_append, w_expr, w_ite, w_ret, w_cont, w_raise, w_aug, w_augIdx, evAnd, evOr, evO, evC, evT, look, put, puts, tgPut, wipeE, thaw, lk, lks, lkT, lost, lostT, newL, bindTo, ownL, sc_non, sc_bl, sc_int, sc_str, sc_tup, sc_lst, sc_scr, sc_mref, flat_lst, flat_int, flat_tup, flat_bl, flat_non, flat_mref, flat_scr, isL_lst, isL_tup, isL_int, isL_bl, isL_non, isL_scr, isL_mref, isL_str, opt_some, no_bind, tyD, truth, x_lt, x_le, x_gt, x_ge, x_eqI, x_neI, x_eqL, x_neL, x_eqT, x_neT, x_eqS, binD, negD, isD, idxD, q1_lenL, q1_lenT, q1_lenS, q1_sumL, q1_sumT, q1_abs, q1_listL, q1_listT, q1_tupleL, q1_tupleT, q1_intI, q1_intB, q1_all, q1_min, q1_max, items, fin, pure_bind, bind_assoc, optI, sliceD, List.set_cons_succ, List.set_cons_zero, List.getElem?_cons_succ, List.getElem?_cons_zero, List.getElem?_nil, Option.bind_some, Option.map_some, Option.map_none, List.length_map, List.length_cons, List.length_nil, List.map_cons, List.map_nil, List.cons_append, List.nil_append, List.append_nil, List.replicate_succ, List.replicate_zero, Nat.reduceAdd, Nat.reduceSub, Nat.reduceLeDiff, Nat.reduceLT, if_true, if_false, ite_true, ite_false, Bool.or_true, Bool.or_false, Bool.true_or, Bool.false_or, Bool.and_true, Bool.true_and, Bool.and_false, Bool.false_and, Bool.not_true, Bool.not_false, List.all_cons, List.all_nil, Bool.false_eq_true, reduceIte, getI (l := left) d1 d2, ixN_ok (m := left.length) d1 d2]
          rw [if_pos (by simp; omega), erase_iD, app_iD]
          rfl
        · rw [List.length_eraseIdx_of_lt (by omega)]
          omega
        · refine List.Perm.trans ?_ h2
          rw [List.append_assoc]
          refine List.Perm.append_left _ ?_
          have := erase_perm left d.toNat (by omega)
          rw [List.getD_eq_getElem?_getD, List.getElem?_eq_getElem (by omega)]
          exact this)
      (fun ρ μ hj => by
        obtain ⟨left, made, h1, h2, rfl, rfl⟩ := hj
        have hne : left = [] := List.length_eq_zero_iff.mp h1
        subst hne
        simp only [runFn, startE, evSs, evEs, v_non, v_bl, v_int, v_str, v_var, v_glob, v_bin, v_neg, v_not, v_cmp, v_chain, v_isC, v_andL, v_orL, v_ite, v_tup, v_lst, v_idx, v_slice, v_rev, v_call, v_callD, v_callK, v_b1, v_mm, v_isi, v_lrange, v_dget, v_didx, w_assign, w_par, w_unpack, w_append, w_expr, w_ite, w_ret, w_cont, w_raise, w_aug, w_augIdx, evAnd, evOr, evO, evC, evT, look, put, puts, tgPut, wipeE, thaw, lk, lks, lkT, lost, lostT, newL, bindTo, ownL, sc_non, sc_bl, sc_int, sc_str, sc_tup, sc_lst, sc_scr, sc_mref, flat_lst, flat_int, flat_tup, flat_bl, flat_non, flat_mref, flat_scr, isL_lst, isL_tup, isL_int, isL_bl, isL_non, isL_scr, isL_mref, isL_str, opt_some, no_bind, tyD, truth, x_lt, x_le, x_gt, x_ge, x_eqI, x_neI, x_eqL, x_neL, x_eqT, x_neT, x_eqS, binD, negD, isD, idxD, q1_lenL, q1_lenT, q1_lenS, q1_sumL, q1_sumT, q1_abs, q1_listL, q1_listT, q1_tupleL, q1_tupleT, q1_intI, q1_intB, q1_all, q1_min, q1_max, items, fin, pure_bind, bind_assoc, optI, sliceD, List.set_cons_succ, List.set_cons_zero, List.getElem?_cons_succ, List.getElem?_cons_zero, List.getElem?_nil, Option.bind_some, Option.map_some, Option.map_none, List.length_map, List.length_cons, List.length_nil, List.map_cons, List.map_nil, List.cons_append, List.nil_append, List.append_nil, List.replicate_succ, List.replicate_zero, Nat.reduceAdd, Nat.reduceSub, Nat.reduceLeDiff, Nat.reduceLT, if_true, if_false, ite_true, ite_false, Bool.or_true, Bool.or_false, Bool.true_or, Bool.false_or, Bool.and_true, Bool.true_and, Bool.and_false, Bool.false_and, Bool.not_true, Bool.not_false, List.all_cons, List.all_nil, Bool.false_eq_true, reduceIte, Nat.zero_le]
        rfl)
    have hne : left = [] := List.length_eq_zero_iff.mp hj1
    subst hne hj3 hj4
    rw [List.append_nil] at hj2
    refine ⟨made, [some (false, .scr), some (false, .mref 0), some (false, .int m), some (true, .lst (iD [])), some (true, .lst (iD made))], hj2, ?_⟩
    refine (seqR h1).trans (e1.trans ?_)
    rw [hj2.len]
    exact retR (by simp only [runFn, startE, evSs, evEs, v_non, v_bl, v_int, v_str, v_var, v_glob, v_bin, v_neg, v_not, v_cmp, v_chain, v_isC, v_andL, v_orL, v_ite, v_tup, v_lst, v_idx, v_slice, v_rev, v_call, v_callD, v_callK, v_b1, v_mm, v_isi, v_lrange, v_dget, v_didx, w_assign, w_par, w_unpack, w_append, w_expr, w_ite, w_ret, w_cont, w_raise, w_aug, w_augIdx, evAnd, evOr, evO, evC, evT, look, put, puts, tgPut, wipeE, thaw, lk, lks, lkT, lost, lostT, newL, bindTo, ownL, sc_non, sc_bl, sc_int, sc_str, sc_tup, sc_lst, sc_scr, sc_mref, flat_lst, flat_int, flat_tup, flat_bl, flat_non, flat_mref, flat_scr, isL_lst, isL_tup, isL_int, isL_bl, isL_non, isL_scr, isL_mref, isL_str, opt_some, no_bind, tyD, truth, x_lt, x_le, x_gt, x_ge, x_eqI, x_neI, x_eqL, x_neL, x_eqT, x_neT, x_eqS, binD, negD, isD, idxD, q1_lenL, q1_lenT, q1_lenS, q1_sumL, q1_sumT, q1_abs, q1_listL, q1_listT, q1_tupleL, q1_tupleT, q1_intI, q1_intB, q1_all, q1_min, q1_max, items, fin, pure_bind, bind_assoc, optI, sliceD, List.set_cons_succ, List.set_cons_zero, List.getElem?_cons_succ, List.getElem?_cons_zero, List.getElem?_nil, Option.bind_some, Option.map_some, Option.map_none, List.length_map, List.length_cons, List.length_nil, List.map_cons, List.map_nil, List.cons_append, List.nil_append, List.append_nil, List.replicate_succ, List.replicate_zero, Nat.reduceAdd, Nat.reduceSub, Nat.reduceLeDiff, Nat.reduceLT, if_true, if_false, ite_true, ite_false, Bool.or_true, Bool.or_false, Bool.true_or, Bool.false_or, Bool.and_true, Bool.true_and, Bool.and_false, Bool.false_and, Bool.not_true, Bool.not_false, List.all_cons, List.all_nil, Bool.false_eq_true, reduceIte]; rfl)
  obtain ⟨o, ρ', ho, h⟩ := main
  exact ⟨o, ho, by rw [c_law_order_of]; exact runR rfl h⟩
theorem e_rest {a m : Int} (m0 : 0 < m) (m1 : m ≤ 1000) : callN tbl S (n + 1) 33 [.int a, .int m] = pure (.int (a % m)) := by
  rw [c_law_rest]
  simp only [fn_law_rest, runFn, startE, evSs, evEs, v_non, v_bl, v_int, v_str, v_var, v_glob, v_bin, v_neg, v_not, v_cmp, v_chain, v_isC, v_andL, v_orL, v_ite, v_tup, v_lst, v_idx, v_slice, v_rev, v_call, v_callD, v_callK, v_b1, v_mm, v_isi, v_lrange, v_dget, v_didx, w_assign, w_par, w_unpack, w_append, w_expr, w_ite, w_ret, w_cont, w_raise, w_aug, w_augIdx, evAnd, evOr, evO, evC, evT, look, put, puts, tgPut, wipeE, thaw, lk, lks, lkT, lost, lostT, newL, bindTo, ownL, sc_non, sc_bl, sc_int, sc_str, sc_tup, sc_lst, sc_scr, sc_mref, flat_lst, flat_int, flat_tup, flat_bl, flat_non, flat_mref, flat_scr, isL_lst, isL_tup, isL_int, isL_bl, isL_non, isL_scr, isL_mref, isL_str, opt_some, no_bind, tyD, truth, x_lt, x_le, x_gt, x_ge, x_eqI, x_neI, x_eqL, x_neL, x_eqT, x_neT, x_eqS, binD, negD, isD, idxD, q1_lenL, q1_lenT, q1_lenS, q1_sumL, q1_sumT, q1_abs, q1_listL, q1_listT, q1_tupleL, q1_tupleT, q1_intI, q1_intB, q1_all, q1_min, q1_max, items, fin, pure_bind, bind_assoc, optI, sliceD, List.set_cons_succ, List.set_cons_zero, List.getElem?_cons_succ, List.getElem?_cons_zero, List.getElem?_nil, Option.bind_some, Option.map_some, Option.map_none, List.length_map, List.length_cons, List.length_nil, List.map_cons, List.map_nil, List.cons_append, List.nil_append, List.append_nil, List.replicate_succ, List.replicate_zero, Nat.reduceAdd, Nat.reduceSub, Nat.reduceLeDiff, Nat.reduceLT, if_true, if_false, ite_true, ite_false, Bool.or_true, Bool.or_false, Bool.true_or, Bool.false_or, Bool.and_true, Bool.true_and, Bool.and_false, Bool.false_and, Bool.not_true, Bool.not_false, List.all_cons, List.all_nil, Bool.false_eq_true, reduceIte]
  rw [opt_if ⟨m0, by omega⟩]
  simp only [runFn, startE, evSs, evEs, v_non, v_bl, v_int, v_str, v_var, v_glob, v_bin, v_neg, v_not, v_cmp, v_chain, v_isC, v_andL, v_orL, v_ite, v_tup, v_lst, v_idx, v_slice, v_rev, v_call, v_callD, v_callK, v_b1, v_mm, v_isi, v_lrange, v_dget, v_didx, w_assign, w_par, w_unpack, w_append, w_expr, w_ite, w_ret, w_cont, w_raise, w_aug, w_augIdx, evAnd, evOr, evO, evC, evT, look, put, puts, tgPut, wipeE, thaw, lk, lks, lkT, lost, lostT, newL, bindTo, ownL, sc_non, sc_bl, sc_int, sc_str, sc_tup, sc_lst, sc_scr, sc_mref, flat_lst, flat_int, flat_tup, flat_bl, flat_non, flat_mref, flat_scr, isL_lst, isL_tup, isL_int, isL_bl, isL_non, isL_scr, isL_mref, isL_str, opt_some, no_bind, tyD, truth, x_lt, x_le, x_gt, x_ge, x_eqI, x_neI, x_eqL, x_neL, x_eqT, x_neT, x_eqS, binD, negD, isD, idxD, q1_lenL, q1_lenT, q1_lenS, q1_sumL, q1_sumT, q1_abs, q1_listL, q1_listT, q1_tupleL, q1_tupleT, q1_intI, q1_intB, q1_all, q1_min, q1_max, items, fin, pure_bind, bind_assoc, optI, sliceD, List.set_cons_succ, List.set_cons_zero, List.getElem?_cons_succ, List.getElem?_cons_zero, List.getElem?_nil, Option.bind_some, Option.map_some, Option.map_none, List.length_map, List.length_cons, List.length_nil, List.map_cons, List.map_nil, List.cons_append, List.nil_append, List.append_nil, List.replicate_succ, List.replicate_zero, Nat.reduceAdd, Nat.reduceSub, Nat.reduceLeDiff, Nat.reduceLT, if_true, if_false, ite_true, ite_false, Bool.or_true, Bool.or_false, Bool.true_or, Bool.false_or, Bool.and_true, Bool.true_and, Bool.and_false, Bool.false_and, Bool.not_true, Bool.not_false, List.all_cons, List.all_nil, Bool.false_eq_true, reduceIte]
  rw [opt_if (.inr (by omega))]
  simp only [runFn, startE, evSs, evEs, v_non, v_bl, v_int, v_str, v_var, v_glob, v_bin, v_neg, v_not, v_cmp, v_chain, v_isC, v_andL, v_orL, v_ite, v_tup, v_lst, v_idx, v_slice, v_rev, v_call, v_callD, v_callK, v_b1, v_mm, v_isi, v_lrange, v_dget, v_didx, w_assign, w_par, w_unpack, w_append, w_expr, w_ite, w_ret, w_cont, w_raise, w_aug, w_augIdx, evAnd, evOr, evO, evC, evT, look, put, puts, tgPut, wipeE, thaw, lk, lks, lkT, lost, lostT, newL, bindTo, ownL, sc_non, sc_bl, sc_int, sc_str, sc_tup, sc_lst, sc_scr, sc_mref, flat_lst, flat_int, flat_tup, flat_bl, flat_non, flat_mref, flat_scr, isL_lst, isL_tup, isL_int, isL_bl, isL_non, isL_scr, isL_mref, isL_str, opt_some, no_bind, tyD, truth, x_lt, x_le, x_gt, x_ge, x_eqI, x_neI, x_eqL, x_neL, x_eqT, x_neT, x_eqS, binD, negD, isD, idxD, q1_lenL, q1_lenT, q1_lenS, q1_sumL, q1_sumT, q1_abs, q1_listL, q1_listT, q1_tupleL, q1_tupleT, q1_intI, q1_intB, q1_all, q1_min, q1_max, items, fin, pure_bind, bind_assoc, optI, sliceD, List.set_cons_succ, List.set_cons_zero, List.getElem?_cons_succ, List.getElem?_cons_zero, List.getElem?_nil, Option.bind_some, Option.map_some, Option.map_none, List.length_map, List.length_cons, List.length_nil, List.map_cons, List.map_nil, List.cons_append, List.nil_append, List.append_nil, List.replicate_succ, List.replicate_zero, Nat.reduceAdd, Nat.reduceSub, Nat.reduceLeDiff, Nat.reduceLT, if_true, if_false, ite_true, ite_false, Bool.or_true, Bool.or_false, Bool.true_or, Bool.false_or, Bool.and_true, Bool.true_and, Bool.and_false, Bool.false_and, Bool.not_true, Bool.not_false, List.all_cons, List.all_nil, Bool.false_eq_true, reduceIte]
  rw [Int.emod_def, Int.mul_comm]
def putR (h : Int) (r o : List Int) : List Int := o.flatMap fun t => r.map fun x => (x + t) % h
theorem e_put {h : Int} {r o : List Int} (h0 : 0 < h) (h1 : h ≤ 1000) (hr : r.length ≤ 1000) (ho : o.length ≤ 900) : callN tbl S (n + 2) 34 [.int h, .tup (iD r), .tup (iD o)] = pure (.tup (iD (putR h r o))) := by
  rw [c_law_put]
  obtain ⟨u, hn, hu⟩ : ∃ u : List Int → Option (Bool × D), u [] = none ∧ ∀ ps x, u (ps ++ [x]) = some (false, .int x) := ⟨fun ps => ps.getLast?.map fun p => (false, .int p), rfl, by simp⟩
  have hf := forM_next (step := fun d ρ => M.opt (tgPut ρ (.one 4) d) >>= fun ρ1 => evSs S (callN tbl S (n + 1)) (.cons (.extend 3 (.comp [5] (.one 5) (.seq (.var 1)) .none (.call 33 (.cons (.bin .add (.var 5) (.var 4)) (.cons (.var 0) .nil))))) .nil) ρ1) D.int
    (fun ps => [some (false, .int h), some (false, .tup (iD r)), some (false, .tup (iD o)), some (true, .lst (iD (putR h r ps))), u ps, none]) (xs := o) fun ps x rs e => by
    have hps : ps.length < 900 := by
      have := congrArg List.length e
      simp at this
      omega
    have hl : (putR h r ps).length = ps.length * r.length := by
      unfold putR
      clear e hps
      induction ps with
      | nil => simp
      | cons p ps ih => rw [List.flatMap_cons, List.length_append, ih, List.length_map, List.length_cons, Nat.succ_mul]; omega
    have hz : (putR h r ps).length + r.length ≤ 1000000 := by
      rw [hl]
      have : ps.length * r.length ≤ 899 * 1000 := Nat.mul_le_mul (by omega) hr
      omega
    rw [hu]
    have hc := evComp (S := S) (c := callN tbl S (n + 1)) (vs := [5]) (tg := .one 5) (it := .seq (.var 1)) (elt := .call 33 (.cons (.bin .add (.var 5) (.var 4)) (.cons (.var 0) .nil))) (ρ := [some (false, .int h), some (false, .tup (iD r)), some (false, .tup (iD o)), some (true, .lst (iD (putR h r ps))), some (false, .int x), none])
      D.int (fun y => D.int ((y + x) % h)) (xs := r) (by simp only [runFn, startE, evSs, evEs, v_non, v_bl, v_int, v_str, v_var, v_glob, v_bin, v_neg, v_not, v_cmp, v_chain, v_isC, v_andL, v_orL, v_ite, v_tup, v_lst, v_idx, v_slice, v_rev, v_call, v_callD, v_callK, v_b1, v_mm, v_isi, v_lrange, v_dget, v_didx, w_assign, w_par, w_unpack, w_append, w_expr, w_ite, w_ret, w_cont, w_raise, w_aug, w_augIdx, evAnd, evOr, evO, evC, evT, look, put, puts, tgPut, wipeE, thaw, lk, lks, lkT, lost, lostT, newL, bindTo, ownL, sc_non, sc_bl, sc_int, sc_str, sc_tup, sc_lst, sc_scr, sc_mref, flat_lst, flat_int, flat_tup, flat_bl, flat_non, flat_mref, flat_scr, isL_lst, isL_tup, isL_int, isL_bl, isL_non, isL_scr, isL_mref, isL_str, opt_some, no_bind, tyD, truth, x_lt, x_le, x_gt, x_ge, x_eqI, x_neI, x_eqL, x_neL, x_eqT, x_neT, x_eqS, binD, negD, isD, idxD, q1_lenL, q1_lenT, q1_lenS, q1_sumL, q1_sumT, q1_abs, q1_listL, q1_listT, q1_tupleL, q1_tupleT, q1_intI, q1_intB, q1_all, q1_min, q1_max, items, fin, pure_bind, bind_assoc, optI, sliceD, List.set_cons_succ, List.set_cons_zero, List.getElem?_cons_succ, List.getElem?_cons_zero, List.getElem?_nil, Option.bind_some, Option.map_some, Option.map_none, List.length_map, List.length_cons, List.length_nil, List.map_cons, List.map_nil, List.cons_append, List.nil_append, List.append_nil, List.replicate_succ, List.replicate_zero, Nat.reduceAdd, Nat.reduceSub, Nat.reduceLeDiff, Nat.reduceLT, if_true, if_false, ite_true, ite_false, Bool.or_true, Bool.or_false, Bool.true_or, Bool.false_or, Bool.and_true, Bool.true_and, Bool.and_false, Bool.false_and, Bool.not_true, Bool.not_false, List.all_cons, List.all_nil, Bool.false_eq_true, reduceIte]) (fun y hy => ⟨_, rfl, by simp only [runFn, startE, evSs, evEs, v_non, v_bl, v_int, v_str, v_var, v_glob, v_bin, v_neg, v_not, v_cmp, v_chain, v_isC, v_andL, v_orL, v_ite, v_tup, v_lst, v_idx, v_slice, v_rev, v_call, v_callD, v_callK, v_b1, v_mm, v_isi, v_lrange, v_dget, v_didx, w_assign, w_par, w_unpack, w_append, w_expr, w_ite, w_ret, w_cont, w_raise, w_aug, w_augIdx, evAnd, evOr, evO, evC, evT, look, put, puts, tgPut, wipeE, thaw, lk, lks, lkT, lost, lostT, newL, bindTo, ownL, sc_non, sc_bl, sc_int, sc_str, sc_tup, sc_lst, sc_scr, sc_mref, flat_lst, flat_int, flat_tup, flat_bl, flat_non, flat_mref, flat_scr, isL_lst, isL_tup, isL_int, isL_bl, isL_non, isL_scr, isL_mref, isL_str, opt_some, no_bind, tyD, truth, x_lt, x_le, x_gt, x_ge, x_eqI, x_neI, x_eqL, x_neL, x_eqT, x_neT, x_eqS, binD, negD, isD, idxD, q1_lenL, q1_lenT, q1_lenS, q1_sumL, q1_sumT, q1_abs, q1_listL, q1_listT, q1_tupleL, q1_tupleT, q1_intI, q1_intB, q1_all, q1_min, q1_max, items, fin, pure_bind, bind_assoc, optI, sliceD, List.set_cons_succ, List.set_cons_zero, List.getElem?_cons_succ, List.getElem?_cons_zero, List.getElem?_nil, Option.bind_some, Option.map_some, Option.map_none, List.length_map, List.length_cons, List.length_nil, List.map_cons, List.map_nil, List.cons_append, List.nil_append, List.append_nil, List.replicate_succ, List.replicate_zero, Nat.reduceAdd, Nat.reduceSub, Nat.reduceLeDiff, Nat.reduceLT, if_true, if_false, ite_true, ite_false, Bool.or_true, Bool.or_false, Bool.true_or, Bool.false_or, Bool.and_true, Bool.true_and, Bool.and_false, Bool.false_and, Bool.not_true, Bool.not_false, List.all_cons, List.all_nil, Bool.false_eq_true, reduceIte, put, wipeE, thaw, e_rest h0 h1]⟩) (by omega)
    have hm : (r.map fun y => D.int ((y + x) % h)) = iD (r.map fun y => (y + x) % h) := by
      show _ = List.map D.int _
      rw [List.map_map]
      rfl
    have hp : iD (putR h r (ps ++ [x])) = iD (putR h r ps) ++ iD (r.map fun y => (y + x) % h) := by
      show List.map D.int _ = List.map D.int _ ++ List.map D.int _
      rw [← List.map_append]
      unfold putR
      rw [List.flatMap_append]
      simp
    rw [hm] at hc
    rw [hp]
    simp only [evSs, evS, hc, put, tgPut, opt_some, pure_bind, bind_assoc, bindTo, sc_ints, lost, lostT, thaw, lkT, lk, lks, newL, sc_non, sc_bl, sc_int, sc_str, sc_tup, sc_lst, sc_scr, sc_mref, flat_lst, flat_int, flat_tup, flat_bl, flat_non, flat_mref, flat_scr, isL_lst, isL_tup, isL_int, isL_bl, isL_non, isL_scr, isL_mref, isL_str, List.set_cons_succ, List.set_cons_zero, List.getElem?_cons_succ, List.getElem?_cons_zero, List.getElem?_nil, Option.bind_some, Option.map_some, Option.map_none, List.length_map, List.length_cons, List.length_nil, List.map_cons, List.map_nil, List.cons_append, List.nil_append, List.append_nil, List.replicate_succ, List.replicate_zero, Nat.reduceAdd, Nat.reduceSub, Nat.reduceLeDiff, Nat.reduceLT, if_true, if_false, ite_true, ite_false, Bool.or_true, Bool.or_false, Bool.true_or, Bool.false_or, Bool.and_true, Bool.true_and, Bool.and_false, Bool.false_and, Bool.not_true, Bool.not_false, List.all_cons, List.all_nil, Bool.false_eq_true, reduceIte, ownL, sc_ints, List.not_mem_nil, decide_false]
    rw [if_pos (by simpa using hz)]
    rfl
  rw [hn] at hf
  simp only [fn_law_put, runFn, startE, evSs, evEs, v_non, v_bl, v_int, v_str, v_var, v_glob, v_bin, v_neg, v_not, v_cmp, v_chain, v_isC, v_andL, v_orL, v_ite, v_tup, v_lst, v_idx, v_slice, v_rev, v_call, v_callD, v_callK, v_b1, v_mm, v_isi, v_lrange, v_dget, v_didx, w_assign, w_par, w_unpack, w_append, w_expr, w_ite, w_ret, w_cont, w_raise, w_aug, w_augIdx, evAnd, evOr, evO, evC, evT, look, put, puts, tgPut, wipeE, thaw, lk, lks, lkT, lost, lostT, newL, bindTo, ownL, sc_non, sc_bl, sc_int, sc_str, sc_tup, sc_lst, sc_scr, sc_mref, flat_lst, flat_int, flat_tup, flat_bl, flat_non, flat_mref, flat_scr, isL_lst, isL_tup, isL_int, isL_bl, isL_non, isL_scr, isL_mref, isL_str, opt_some, no_bind, tyD, truth, x_lt, x_le, x_gt, x_ge, x_eqI, x_neI, x_eqL, x_neL, x_eqT, x_neT, x_eqS, binD, negD, isD, idxD, q1_lenL, q1_lenT, q1_lenS, q1_sumL, q1_sumT, q1_abs, q1_listL, q1_listT, q1_tupleL, q1_tupleT, q1_intI, q1_intB, q1_all, q1_min, q1_max, items, fin, pure_bind, bind_assoc, optI, sliceD, List.set_cons_succ, List.set_cons_zero, List.getElem?_cons_succ, List.getElem?_cons_zero, List.getElem?_nil, Option.bind_some, Option.map_some, Option.map_none, List.length_map, List.length_cons, List.length_nil, List.map_cons, List.map_nil, List.cons_append, List.nil_append, List.append_nil, List.replicate_succ, List.replicate_zero, Nat.reduceAdd, Nat.reduceSub, Nat.reduceLeDiff, Nat.reduceLT, if_true, if_false, ite_true, ite_false, Bool.or_true, Bool.or_false, Bool.true_or, Bool.false_or, Bool.and_true, Bool.true_and, Bool.and_false, Bool.false_and, Bool.not_true, Bool.not_false, List.all_cons, List.all_nil, Bool.false_eq_true, reduceIte, Nat.zero_le]
  rw [w_for (ds := iD o) (by simp only [runFn, startE, evSs, evEs, v_non, v_bl, v_int, v_str, v_var, v_glob, v_bin, v_neg, v_not, v_cmp, v_chain, v_isC, v_andL, v_orL, v_ite, v_tup, v_lst, v_idx, v_slice, v_rev, v_call, v_callD, v_callK, v_b1, v_mm, v_isi, v_lrange, v_dget, v_didx, w_assign, w_par, w_unpack, w_append, w_expr, w_ite, w_ret, w_cont, w_raise, w_aug, w_augIdx, evAnd, evOr, evO, evC, evT, look, put, puts, tgPut, wipeE, thaw, lk, lks, lkT, lost, lostT, newL, bindTo, ownL, sc_non, sc_bl, sc_int, sc_str, sc_tup, sc_lst, sc_scr, sc_mref, flat_lst, flat_int, flat_tup, flat_bl, flat_non, flat_mref, flat_scr, isL_lst, isL_tup, isL_int, isL_bl, isL_non, isL_scr, isL_mref, isL_str, opt_some, no_bind, tyD, truth, x_lt, x_le, x_gt, x_ge, x_eqI, x_neI, x_eqL, x_neL, x_eqT, x_neT, x_eqS, binD, negD, isD, idxD, q1_lenL, q1_lenT, q1_lenS, q1_sumL, q1_sumT, q1_abs, q1_listL, q1_listT, q1_tupleL, q1_tupleT, q1_intI, q1_intB, q1_all, q1_min, q1_max, items, fin, pure_bind, bind_assoc, optI, sliceD, List.set_cons_succ, List.set_cons_zero, List.getElem?_cons_succ, List.getElem?_cons_zero, List.getElem?_nil, Option.bind_some, Option.map_some, Option.map_none, List.length_map, List.length_cons, List.length_nil, List.map_cons, List.map_nil, List.cons_append, List.nil_append, List.append_nil, List.replicate_succ, List.replicate_zero, Nat.reduceAdd, Nat.reduceSub, Nat.reduceLeDiff, Nat.reduceLT, if_true, if_false, ite_true, ite_false, Bool.or_true, Bool.or_false, Bool.true_or, Bool.false_or, Bool.and_true, Bool.true_and, Bool.and_false, Bool.false_and, Bool.not_true, Bool.not_false, List.all_cons, List.all_nil, Bool.false_eq_true, reduceIte])]
  simp only [lostT, thaw, lkT, lk, newL, List.set_cons_succ, List.set_cons_zero, List.getElem?_cons_succ, List.getElem?_cons_zero, List.getElem?_nil, Option.bind_some, Option.map_some, Option.map_none, List.length_map, List.length_cons, List.length_nil, List.map_cons, List.map_nil, List.cons_append, List.nil_append, List.append_nil, List.replicate_succ, List.replicate_zero, Nat.reduceAdd, Nat.reduceSub, Nat.reduceLeDiff, Nat.reduceLT, if_true, if_false, ite_true, ite_false, Bool.or_true, Bool.or_false, Bool.true_or, Bool.false_or, Bool.and_true, Bool.true_and, Bool.and_false, Bool.false_and, Bool.not_true, Bool.not_false, List.all_cons, List.all_nil, Bool.false_eq_true, reduceIte]
  have h0' : iD (putR h r []) = [] := rfl
  rw [h0'] at hf
  rw [hf]
  simp only [runFn, startE, evSs, evEs, v_non, v_bl, v_int, v_str, v_var, v_glob, v_bin, v_neg, v_not, v_cmp, v_chain, v_isC, v_andL, v_orL, v_ite, v_tup, v_lst, v_idx, v_slice, v_rev, v_call, v_callD, v_callK, v_b1, v_mm, v_isi, v_lrange, v_dget, v_didx, w_assign, w_par, w_unpack, w_append, w_expr, w_ite, w_ret, w_cont, w_raise, w_aug, w_augIdx, evAnd, evOr, evO, evC, evT, look, put, puts, tgPut, wipeE, thaw, lk, lks, lkT, lost, lostT, newL, bindTo, ownL, sc_non, sc_bl, sc_int, sc_str, sc_tup, sc_lst, sc_scr, sc_mref, flat_lst, flat_int, flat_tup, flat_bl, flat_non, flat_mref, flat_scr, isL_lst, isL_tup, isL_int, isL_bl, isL_non, isL_scr, isL_mref, isL_str, opt_some, no_bind, tyD, truth, x_lt, x_le, x_gt, x_ge, x_eqI, x_neI, x_eqL, x_neL, x_eqT, x_neT, x_eqS, binD, negD, isD, idxD, q1_lenL, q1_lenT, q1_lenS, q1_sumL, q1_sumT, q1_abs, q1_listL, q1_listT, q1_tupleL, q1_tupleT, q1_intI, q1_intB, q1_all, q1_min, q1_max, items, fin, pure_bind, bind_assoc, optI, sliceD, List.set_cons_succ, List.set_cons_zero, List.getElem?_cons_succ, List.getElem?_cons_zero, List.getElem?_nil, Option.bind_some, Option.map_some, Option.map_none, List.length_map, List.length_cons, List.length_nil, List.map_cons, List.map_nil, List.cons_append, List.nil_append, List.append_nil, List.replicate_succ, List.replicate_zero, Nat.reduceAdd, Nat.reduceSub, Nat.reduceLeDiff, Nat.reduceLT, if_true, if_false, ite_true, ite_false, Bool.or_true, Bool.or_false, Bool.true_or, Bool.false_or, Bool.and_true, Bool.true_and, Bool.and_false, Bool.false_and, Bool.not_true, Bool.not_false, List.all_cons, List.all_nil, Bool.false_eq_true, reduceIte]
/-- what a drawn row of hands is -/
theorem putR_ok {h : Int} {r o : List Int} (h0 : 0 < h) : (∀ x ∈ putR h r o, 0 ≤ x ∧ x < h) ∧ (putR h r o).length = o.length * r.length := by
  refine ⟨fun x hx => ?_, ?_⟩
  · unfold putR at hx
    obtain ⟨t, _, hx⟩ := List.mem_flatMap.mp hx
    obtain ⟨y, _, rfl⟩ := List.mem_map.mp hx
    exact ⟨Int.emod_nonneg _ (by omega), Int.emod_lt_of_pos _ h0⟩
  · unfold putR
    induction o with
    | nil => simp
    | cons p ps ih => rw [List.flatMap_cons, List.length_append, ih, List.length_map, List.length_cons, Nat.succ_mul]; omega
/-- orders put into one another, one behind another -/
def putAll (h : Int) : List (List Int) → List Int
  | [] => []
  | o :: os => os.foldl (putR h) o
theorem putAll_snoc {h : Int} {os : List (List Int)} (ne : os ≠ []) (o : List Int) : putAll h (os ++ [o]) = putR h (putAll h os) o := by
  cases os with
  | nil => exact absurd rfl ne
  | cons x os => show (os ++ [o]).foldl (putR h) x = _; rw [List.foldl_append]; rfl
theorem row_pow {h k : Nat} (h2 : h ≤ 4) (k2 : k ≤ 3) : h ^ k ≤ 64 :=
  Nat.le_trans (Nat.pow_le_pow_left h2 k) (Nat.le_trans (Nat.pow_le_pow_right (by decide) k2) (by decide))
theorem rev_iD (l : List Int) : (iD l).reverse = iD l.reverse := by
  show (List.map D.int l).reverse = List.map D.int l.reverse
  rw [List.map_reverse]
theorem cat_iD (l m : List Int) : iD l ++ iD m = iD (l ++ m) := by
  show List.map D.int l ++ List.map D.int m = List.map D.int (l ++ m)
  rw [List.map_append]
theorem e_even_row (hS : S.length ≤ 63) {L : Nat} {h dg : Int} (h1 : 2 ≤ h) (h2 : h ≤ 4) (d0 : 0 ≤ dg) (d1 : dg ≤ 2) (hL : L ≤ 800000) :
    ∃ (r : List Int) (os : List (List Int)) (L' : Nat), Row h r ∧ os.length = dg.toNat + 1 ∧ (∀ o ∈ os, Ord h o) ∧ (r = putAll h os ∨ r = putAll h os ++ (putAll h os).reverse) ∧ L' ≤ L + 20 ∧ callN tbl S (n + 5) 36 [.scr, .mref 0, .int h, .int dg] (tw L) = .ok (.tup (iD r)) (tw L') := by
  obtain ⟨o1, ho1, he1⟩ := e_order_of (n := n) hS (L := L) (m := h) (by omega) (by omega) (by omega)
  -- the loop
  obtain ⟨ρ', μ', e1, os, u5, k1, k2, k3, k4, k5⟩ := forR (S := S) (c := callN tbl S (n + 4)) (tg := .one 5) (it := .rng1 (.var 3)) (body := .cons (.assign 4 (.call 34 (.cons (.var 2) (.cons (.var 4) (.cons (.b1 .tuple (.call 35 (.cons (.var 0) (.cons (.var 1) (.cons (.var 2) .nil))))) .nil))))) .nil)
    (ss := .cons (.ite (.andL (.cons (.cmp .eq (.call 12 (.cons (.var 0) (.cons (.var 1) (.cons (.int 3) .nil)))) (.int 0)) (.cons (.cmp .le (.bin .mul (.int 2) (.b1 .len (.var 4))) (.int 32)) .nil))) (.cons (.assign 4 (.bin .add (.var 4) (.rev (.var 4)))) .nil) .nil) (.cons (.ret (.var 4)) .nil))
    (ρ := [some (false, .scr), some (false, .mref 0), some (false, .int h), some (false, .int dg), some (false, .tup (iD o1)), none]) (μ := tw (L + h.toNat)) (μ1 := tw (L + h.toNat)) (ds := rngD 0 dg)
    (fun i ρ μ => ∃ os u5, os.length = i + 1 ∧ (∀ o ∈ os, Ord h o) ∧ (∀ x ∈ putAll h os, 0 ≤ x ∧ x < h) ∧ (putAll h os).length = h.toNat ^ (i + 1) ∧ μ = tw (L + (i + 1) * h.toNat) ∧ ρ = [some (false, .scr), some (false, .mref 0), some (false, .int h), some (false, .int dg), some (false, .tup (iD (putAll h os))), u5])
    (e_rng (h := dg) (by simp only [runFn, startE, evSs, evEs, v_non, v_bl, v_int, v_str, v_var, v_glob, v_bin, v_neg, v_not, v_cmp, v_chain, v_isC, v_andL, v_orL, v_ite, v_tup, v_lst, v_idx, v_slice, v_rev, v_call, v_callD, v_callK, v_b1, v_mm, v_isi, v_lrange, v_dget, v_didx, w_assign, w_par, w_unpack, w_append, w_expr, w_ite, w_ret, w_cont, w_raise, w_aug, w_augIdx, evAnd, evOr, evO, evC, evT, look, put, puts, tgPut, wipeE, thaw, lk, lks, lkT, lost, lostT, newL, bindTo, ownL, sc_non, sc_bl, sc_int, sc_str, sc_tup, sc_lst, sc_scr, sc_mref, flat_lst, flat_int, flat_tup, flat_bl, flat_non, flat_mref, flat_scr, isL_lst, isL_tup, isL_int, isL_bl, isL_non, isL_scr, isL_mref, isL_str, opt_some, no_bind, tyD, truth, x_lt, x_le, x_gt, x_ge, x_eqI, x_neI, x_eqL, x_neL, x_eqT, x_neT, x_eqS, binD, negD, isD, idxD, q1_lenL, q1_lenT, q1_lenS, q1_sumL, q1_sumT, q1_abs, q1_listL, q1_listT, q1_tupleL, q1_tupleT, q1_intI, q1_intB, q1_all, q1_min, q1_max, items, fin, pure_bind, bind_assoc, optI, sliceD, List.set_cons_succ, List.set_cons_zero, List.getElem?_cons_succ, List.getElem?_cons_zero, List.getElem?_nil, Option.bind_some, Option.map_some, Option.map_none, List.length_map, List.length_cons, List.length_nil, List.map_cons, List.map_nil, List.cons_append, List.nil_append, List.append_nil, List.replicate_succ, List.replicate_zero, Nat.reduceAdd, Nat.reduceSub, Nat.reduceLeDiff, Nat.reduceLT, if_true, if_false, ite_true, ite_false, Bool.or_true, Bool.or_false, Bool.true_or, Bool.false_or, Bool.and_true, Bool.true_and, Bool.and_false, Bool.false_and, Bool.not_true, Bool.not_false, List.all_cons, List.all_nil, Bool.false_eq_true, reduceIte]) d0 (by omega))
    ⟨[o1], none, rfl, fun o ho => by rw [List.mem_singleton.mp ho]; exact ho1, fun x hx => ho1.mem.mp hx, by rw [Nat.pow_one]; exact ho1.len, by rw [Nat.zero_add, Nat.one_mul], rfl⟩
    (fun i d ρ μ hd hj => by
      obtain ⟨os, u5, k1, k2, k3, k4, rfl, rfl⟩ := hj
      obtain ⟨rfl, hi⟩ := rng_get hd
      have hih : (i + 1) * h.toNat ≤ 3 * 4 := Nat.mul_le_mul (by omega) (by omega)
      obtain ⟨o, ho, he⟩ := e_order_of (n := n) hS (L := L + (i + 1) * h.toNat) (m := h) (by omega) (by omega) (by omega)
      have hne : os ≠ [] := fun z => by rw [z] at k1; simp at k1
      have hlen : (putAll h os).length ≤ 64 := by rw [k4]; exact row_pow (by omega) (by omega)
      have hol := ho.len
      obtain ⟨q1, q2⟩ := putR_ok (h := h) (r := putAll h os) (o := o) (by omega)
      refine ⟨_, _, tw (L + (i + 1) * h.toNat + h.toNat), rfl, .inl ?_, os ++ [o], some (false, .int i), by simp [k1], fun x hx => ?_, by rw [putAll_snoc hne]; exact q1, ?_, ?_, rfl⟩
      · simp only [put, bindTo, sc_ints, lost, lostT, thaw, lkT, lk, lks, newL, sc_non, sc_bl, sc_int, sc_str, sc_tup, sc_lst, sc_scr, sc_mref, flat_lst, flat_int, flat_tup, flat_bl, flat_non, flat_mref, flat_scr, isL_lst, isL_tup, isL_int, isL_bl, isL_non, isL_scr, isL_mref, isL_str, List.set_cons_succ, List.set_cons_zero, List.getElem?_cons_succ, List.getElem?_cons_zero, List.getElem?_nil, Option.bind_some, Option.map_some, Option.map_none, List.length_map, List.length_cons, List.length_nil, List.map_cons, List.map_nil, List.cons_append, List.nil_append, List.append_nil, List.replicate_succ, List.replicate_zero, Nat.reduceAdd, Nat.reduceSub, Nat.reduceLeDiff, Nat.reduceLT, if_true, if_false, ite_true, ite_false, Bool.or_true, Bool.or_false, Bool.true_or, Bool.false_or, Bool.and_true, Bool.true_and, Bool.and_false, Bool.false_and, Bool.not_true, Bool.not_false, List.all_cons, List.all_nil, Bool.false_eq_true, reduceIte]
        refine (setR (d := .tup (iD (putR h (putAll h os) o))) (μ1 := tw (L + (i + 1) * h.toNat + h.toNat)) ?_).trans ?_
        · simp only [runFn, startE, evSs, evEs, v_non, v_bl, v_int, v_str, v_var, v_glob, v_bin, v_neg, v_not, v_cmp, v_chain, v_isC, v_andL, v_orL, v_ite, v_tup, v_lst, v_idx, v_slice, v_rev, v_call, v_callD, v_callK, v_b1, v_mm, v_isi, v_lrange, v_dget, v_didx, w_assign, w_par, w_unpack, w_append, w_expr, w_ite, w_ret, w_cont, w_raise, w_aug, w_augIdx, evAnd, evOr, evO, evC, evT, look, put, puts, tgPut, wipeE, thaw, lk, lks, lkT, lost, lostT, newL, bindTo, ownL, sc_non, sc_bl, sc_int, sc_str, sc_tup, sc_lst, sc_scr, sc_mref, flat_lst, flat_int, flat_tup, flat_bl, flat_non, flat_mref, flat_scr, isL_lst, isL_tup, isL_int, isL_bl, isL_non, isL_scr, isL_mref, isL_str, opt_some, no_bind, tyD, truth, x_lt, x_le, x_gt, x_ge, x_eqI, x_neI, x_eqL, x_neL, x_eqT, x_neT, x_eqS, binD, negD, isD, idxD, q1_lenL, q1_lenT, q1_lenS, q1_sumL, q1_sumT, q1_abs, q1_listL, q1_listT, q1_tupleL, q1_tupleT, q1_intI, q1_intB, q1_all, q1_min, q1_max, items, fin, pure_bind, bind_assoc, optI, sliceD, List.set_cons_succ, List.set_cons_zero, List.getElem?_cons_succ, List.getElem?_cons_zero, List.getElem?_nil, Option.bind_some, Option.map_some, Option.map_none, List.length_map, List.length_cons, List.length_nil, List.map_cons, List.map_nil, List.cons_append, List.nil_append, List.append_nil, List.replicate_succ, List.replicate_zero, Nat.reduceAdd, Nat.reduceSub, Nat.reduceLeDiff, Nat.reduceLT, if_true, if_false, ite_true, ite_false, Bool.or_true, Bool.or_false, Bool.true_or, Bool.false_or, Bool.and_true, Bool.true_and, Bool.and_false, Bool.false_and, Bool.not_true, Bool.not_false, List.all_cons, List.all_nil, Bool.false_eq_true, reduceIte]
          rw [run_bind he]
          simp only [runFn, startE, evSs, evEs, v_non, v_bl, v_int, v_str, v_var, v_glob, v_bin, v_neg, v_not, v_cmp, v_chain, v_isC, v_andL, v_orL, v_ite, v_tup, v_lst, v_idx, v_slice, v_rev, v_call, v_callD, v_callK, v_b1, v_mm, v_isi, v_lrange, v_dget, v_didx, w_assign, w_par, w_unpack, w_append, w_expr, w_ite, w_ret, w_cont, w_raise, w_aug, w_augIdx, evAnd, evOr, evO, evC, evT, look, put, puts, tgPut, wipeE, thaw, lk, lks, lkT, lost, lostT, newL, bindTo, ownL, sc_non, sc_bl, sc_int, sc_str, sc_tup, sc_lst, sc_scr, sc_mref, flat_lst, flat_int, flat_tup, flat_bl, flat_non, flat_mref, flat_scr, isL_lst, isL_tup, isL_int, isL_bl, isL_non, isL_scr, isL_mref, isL_str, opt_some, no_bind, tyD, truth, x_lt, x_le, x_gt, x_ge, x_eqI, x_neI, x_eqL, x_neL, x_eqT, x_neT, x_eqS, binD, negD, isD, idxD, q1_lenL, q1_lenT, q1_lenS, q1_sumL, q1_sumT, q1_abs, q1_listL, q1_listT, q1_tupleL, q1_tupleT, q1_intI, q1_intB, q1_all, q1_min, q1_max, items, fin, pure_bind, bind_assoc, optI, sliceD, List.set_cons_succ, List.set_cons_zero, List.getElem?_cons_succ, List.getElem?_cons_zero, List.getElem?_nil, Option.bind_some, Option.map_some, Option.map_none, List.length_map, List.length_cons, List.length_nil, List.map_cons, List.map_nil, List.cons_append, List.nil_append, List.append_nil, List.replicate_succ, List.replicate_zero, Nat.reduceAdd, Nat.reduceSub, Nat.reduceLeDiff, Nat.reduceLT, if_true, if_false, ite_true, ite_false, Bool.or_true, Bool.or_false, Bool.true_or, Bool.false_or, Bool.and_true, Bool.true_and, Bool.and_false, Bool.false_and, Bool.not_true, Bool.not_false, List.all_cons, List.all_nil, Bool.false_eq_true, reduceIte]
          rw [e_put (by omega) (by omega) (by omega) (by omega)]
          rfl
        · simp only [bindTo, sc_ints, lost, lostT, thaw, lkT, lk, lks, newL, sc_non, sc_bl, sc_int, sc_str, sc_tup, sc_lst, sc_scr, sc_mref, flat_lst, flat_int, flat_tup, flat_bl, flat_non, flat_mref, flat_scr, isL_lst, isL_tup, isL_int, isL_bl, isL_non, isL_scr, isL_mref, isL_str, List.set_cons_succ, List.set_cons_zero, List.getElem?_cons_succ, List.getElem?_cons_zero, List.getElem?_nil, Option.bind_some, Option.map_some, Option.map_none, List.length_map, List.length_cons, List.length_nil, List.map_cons, List.map_nil, List.cons_append, List.nil_append, List.append_nil, List.replicate_succ, List.replicate_zero, Nat.reduceAdd, Nat.reduceSub, Nat.reduceLeDiff, Nat.reduceLT, if_true, if_false, ite_true, ite_false, Bool.or_true, Bool.or_false, Bool.true_or, Bool.false_or, Bool.and_true, Bool.true_and, Bool.and_false, Bool.false_and, Bool.not_true, Bool.not_false, List.all_cons, List.all_nil, Bool.false_eq_true, reduceIte]
          rw [nilR, putAll_snoc hne]
      · rcases List.mem_append.mp hx with hx | hx
        · exact k2 x hx
        · rw [List.mem_singleton.mp hx]; exact ho
      · rw [putAll_snoc hne, q2, k4, hol, Nat.mul_comm, ← Nat.pow_succ]
      · rw [Nat.add_assoc, ← Nat.succ_mul])
  obtain ⟨k5, rfl⟩ := k5
  have hlr : (rngD 0 dg).length = dg.toNat := by rw [rng_map, List.length_map, List.length_range]
  rw [hlr] at k1 k4 k5
  subst k5
  have hlen : (putAll h os).length ≤ 64 := by rw [k4]; exact row_pow (by omega) (by omega)
  have hpos : 1 ≤ (putAll h os).length := by rw [k4]; exact Nat.pow_pos (by omega)
  have hih : (dg.toNat + 1) * h.toNat ≤ 3 * 4 := Nat.mul_le_mul (by omega) (by omega)
  generalize hLL : L + (dg.toNat + 1) * h.toNat = LL at e1
  generalize hdd : dv S (LL + 1) 3 = d
  have hcond : evE S (callN tbl S (n + 4)) (.andL (.cons (.cmp .eq (.call 12 (.cons (.var 0) (.cons (.var 1) (.cons (.int 3) .nil)))) (.int 0)) (.cons (.cmp .le (.bin .mul (.int 2) (.b1 .len (.var 4))) (.int 32)) .nil))) [some (false, .scr), some (false, .mref 0), some (false, .int h), some (false, .int dg), some (false, .tup (iD (putAll h os))), u5] (tw LL) = .ok (.bl (decide (d = 0) && decide (2 * ((putAll h os).length : Int) ≤ 32))) (tw (LL + 1)) := by
    simp only [runFn, startE, evSs, evEs, v_non, v_bl, v_int, v_str, v_var, v_glob, v_bin, v_neg, v_not, v_cmp, v_chain, v_isC, v_andL, v_orL, v_ite, v_tup, v_lst, v_idx, v_slice, v_rev, v_call, v_callD, v_callK, v_b1, v_mm, v_isi, v_lrange, v_dget, v_didx, w_assign, w_par, w_unpack, w_append, w_expr, w_ite, w_ret, w_cont, w_raise, w_aug, w_augIdx, evAnd, evOr, evO, evC, evT, look, put, puts, tgPut, wipeE, thaw, lk, lks, lkT, lost, lostT, newL, bindTo, ownL, sc_non, sc_bl, sc_int, sc_str, sc_tup, sc_lst, sc_scr, sc_mref, flat_lst, flat_int, flat_tup, flat_bl, flat_non, flat_mref, flat_scr, isL_lst, isL_tup, isL_int, isL_bl, isL_non, isL_scr, isL_mref, isL_str, opt_some, no_bind, tyD, truth, x_lt, x_le, x_gt, x_ge, x_eqI, x_neI, x_eqL, x_neL, x_eqT, x_neT, x_eqS, binD, negD, isD, idxD, q1_lenL, q1_lenT, q1_lenS, q1_sumL, q1_sumT, q1_abs, q1_listL, q1_listT, q1_tupleL, q1_tupleT, q1_intI, q1_intB, q1_all, q1_min, q1_max, items, fin, pure_bind, bind_assoc, optI, sliceD, List.set_cons_succ, List.set_cons_zero, List.getElem?_cons_succ, List.getElem?_cons_zero, List.getElem?_nil, Option.bind_some, Option.map_some, Option.map_none, List.length_map, List.length_cons, List.length_nil, List.map_cons, List.map_nil, List.cons_append, List.nil_append, List.append_nil, List.replicate_succ, List.replicate_zero, Nat.reduceAdd, Nat.reduceSub, Nat.reduceLeDiff, Nat.reduceLT, if_true, if_false, ite_true, ite_false, Bool.or_true, Bool.or_false, Bool.true_or, Bool.false_or, Bool.and_true, Bool.true_and, Bool.and_false, Bool.false_and, Bool.not_true, Bool.not_false, List.all_cons, List.all_nil, Bool.false_eq_true, reduceIte]
    rw [run_bind (e_draw hS (by decide) (by omega)), hdd]
    by_cases e : d = 0
    · simp only [runFn, startE, evSs, evEs, v_non, v_bl, v_int, v_str, v_var, v_glob, v_bin, v_neg, v_not, v_cmp, v_chain, v_isC, v_andL, v_orL, v_ite, v_tup, v_lst, v_idx, v_slice, v_rev, v_call, v_callD, v_callK, v_b1, v_mm, v_isi, v_lrange, v_dget, v_didx, w_assign, w_par, w_unpack, w_append, w_expr, w_ite, w_ret, w_cont, w_raise, w_aug, w_augIdx, evAnd, evOr, evO, evC, evT, look, put, puts, tgPut, wipeE, thaw, lk, lks, lkT, lost, lostT, newL, bindTo, ownL, sc_non, sc_bl, sc_int, sc_str, sc_tup, sc_lst, sc_scr, sc_mref, flat_lst, flat_int, flat_tup, flat_bl, flat_non, flat_mref, flat_scr, isL_lst, isL_tup, isL_int, isL_bl, isL_non, isL_scr, isL_mref, isL_str, opt_some, no_bind, tyD, truth, x_lt, x_le, x_gt, x_ge, x_eqI, x_neI, x_eqL, x_neL, x_eqT, x_neT, x_eqS, binD, negD, isD, idxD, q1_lenL, q1_lenT, q1_lenS, q1_sumL, q1_sumT, q1_abs, q1_listL, q1_listT, q1_tupleL, q1_tupleT, q1_intI, q1_intB, q1_all, q1_min, q1_max, items, fin, pure_bind, bind_assoc, optI, sliceD, List.set_cons_succ, List.set_cons_zero, List.getElem?_cons_succ, List.getElem?_cons_zero, List.getElem?_nil, Option.bind_some, Option.map_some, Option.map_none, List.length_map, List.length_cons, List.length_nil, List.map_cons, List.map_nil, List.cons_append, List.nil_append, List.append_nil, List.replicate_succ, List.replicate_zero, Nat.reduceAdd, Nat.reduceSub, Nat.reduceLeDiff, Nat.reduceLT, if_true, if_false, ite_true, ite_false, Bool.or_true, Bool.or_false, Bool.true_or, Bool.false_or, Bool.and_true, Bool.true_and, Bool.and_false, Bool.false_and, Bool.not_true, Bool.not_false, List.all_cons, List.all_nil, Bool.false_eq_true, reduceIte, e, decide_true]
      rw [opt_if (.inl (by decide))]
      simp only [runFn, startE, evSs, evEs, v_non, v_bl, v_int, v_str, v_var, v_glob, v_bin, v_neg, v_not, v_cmp, v_chain, v_isC, v_andL, v_orL, v_ite, v_tup, v_lst, v_idx, v_slice, v_rev, v_call, v_callD, v_callK, v_b1, v_mm, v_isi, v_lrange, v_dget, v_didx, w_assign, w_par, w_unpack, w_append, w_expr, w_ite, w_ret, w_cont, w_raise, w_aug, w_augIdx, evAnd, evOr, evO, evC, evT, look, put, puts, tgPut, wipeE, thaw, lk, lks, lkT, lost, lostT, newL, bindTo, ownL, sc_non, sc_bl, sc_int, sc_str, sc_tup, sc_lst, sc_scr, sc_mref, flat_lst, flat_int, flat_tup, flat_bl, flat_non, flat_mref, flat_scr, isL_lst, isL_tup, isL_int, isL_bl, isL_non, isL_scr, isL_mref, isL_str, opt_some, no_bind, tyD, truth, x_lt, x_le, x_gt, x_ge, x_eqI, x_neI, x_eqL, x_neL, x_eqT, x_neT, x_eqS, binD, negD, isD, idxD, q1_lenL, q1_lenT, q1_lenS, q1_sumL, q1_sumT, q1_abs, q1_listL, q1_listT, q1_tupleL, q1_tupleT, q1_intI, q1_intB, q1_all, q1_min, q1_max, items, fin, pure_bind, bind_assoc, optI, sliceD, List.set_cons_succ, List.set_cons_zero, List.getElem?_cons_succ, List.getElem?_cons_zero, List.getElem?_nil, Option.bind_some, Option.map_some, Option.map_none, List.length_map, List.length_cons, List.length_nil, List.map_cons, List.map_nil, List.cons_append, List.nil_append, List.append_nil, List.replicate_succ, List.replicate_zero, Nat.reduceAdd, Nat.reduceSub, Nat.reduceLeDiff, Nat.reduceLT, if_true, if_false, ite_true, ite_false, Bool.or_true, Bool.or_false, Bool.true_or, Bool.false_or, Bool.and_true, Bool.true_and, Bool.and_false, Bool.false_and, Bool.not_true, Bool.not_false, List.all_cons, List.all_nil, Bool.false_eq_true, reduceIte]
      rfl
    · simp only [runFn, startE, evSs, evEs, v_non, v_bl, v_int, v_str, v_var, v_glob, v_bin, v_neg, v_not, v_cmp, v_chain, v_isC, v_andL, v_orL, v_ite, v_tup, v_lst, v_idx, v_slice, v_rev, v_call, v_callD, v_callK, v_b1, v_mm, v_isi, v_lrange, v_dget, v_didx, w_assign, w_par, w_unpack, w_append, w_expr, w_ite, w_ret, w_cont, w_raise, w_aug, w_augIdx, evAnd, evOr, evO, evC, evT, look, put, puts, tgPut, wipeE, thaw, lk, lks, lkT, lost, lostT, newL, bindTo, ownL, sc_non, sc_bl, sc_int, sc_str, sc_tup, sc_lst, sc_scr, sc_mref, flat_lst, flat_int, flat_tup, flat_bl, flat_non, flat_mref, flat_scr, isL_lst, isL_tup, isL_int, isL_bl, isL_non, isL_scr, isL_mref, isL_str, opt_some, no_bind, tyD, truth, x_lt, x_le, x_gt, x_ge, x_eqI, x_neI, x_eqL, x_neL, x_eqT, x_neT, x_eqS, binD, negD, isD, idxD, q1_lenL, q1_lenT, q1_lenS, q1_sumL, q1_sumT, q1_abs, q1_listL, q1_listT, q1_tupleL, q1_tupleT, q1_intI, q1_intB, q1_all, q1_min, q1_max, items, fin, pure_bind, bind_assoc, optI, sliceD, List.set_cons_succ, List.set_cons_zero, List.getElem?_cons_succ, List.getElem?_cons_zero, List.getElem?_nil, Option.bind_some, Option.map_some, Option.map_none, List.length_map, List.length_cons, List.length_nil, List.map_cons, List.map_nil, List.cons_append, List.nil_append, List.append_nil, List.replicate_succ, List.replicate_zero, Nat.reduceAdd, Nat.reduceSub, Nat.reduceLeDiff, Nat.reduceLT, if_true, if_false, ite_true, ite_false, Bool.or_true, Bool.or_false, Bool.true_or, Bool.false_or, Bool.and_true, Bool.true_and, Bool.and_false, Bool.false_and, Bool.not_true, Bool.not_false, List.all_cons, List.all_nil, Bool.false_eq_true, reduceIte, decide_eq_false e]
      rfl
  have hstart : ∀ d ρ', evSs S (callN tbl S (n + 4)) (.cons (.ite (.andL (.cons (.cmp .eq (.call 12 (.cons (.var 0) (.cons (.var 1) (.cons (.int 3) .nil)))) (.int 0)) (.cons (.cmp .le (.bin .mul (.int 2) (.b1 .len (.var 4))) (.int 32)) .nil))) (.cons (.assign 4 (.bin .add (.var 4) (.rev (.var 4)))) .nil) .nil) (.cons (.ret (.var 4)) .nil)) [some (false, .scr), some (false, .mref 0), some (false, .int h), some (false, .int dg), some (false, .tup (iD (putAll h os))), u5] (tw LL) = .ok (.ret d, ρ') (tw (LL + 1)) →
      callN tbl S (n + 5) 36 [.scr, .mref 0, .int h, .int dg] (tw L) = .ok d (tw (LL + 1)) := fun d ρ' hh => by
    rw [c_law_even_row]
    refine runR (ρ1 := ρ') rfl ?_
    rw [show startE fn_law_even_row.slots [D.scr, .mref 0, .int h, .int dg] = [some (false, .scr), some (false, .mref 0), some (false, .int h), some (false, .int dg), none, none] from rfl]
    unfold fn_law_even_row
    refine (setR (d := .tup (iD o1)) (μ1 := tw (L + h.toNat)) (by
      simp only [runFn, startE, evSs, evEs, v_non, v_bl, v_int, v_str, v_var, v_glob, v_bin, v_neg, v_not, v_cmp, v_chain, v_isC, v_andL, v_orL, v_ite, v_tup, v_lst, v_idx, v_slice, v_rev, v_call, v_callD, v_callK, v_b1, v_mm, v_isi, v_lrange, v_dget, v_didx, w_assign, w_par, w_unpack, w_append, w_expr, w_ite, w_ret, w_cont, w_raise, w_aug, w_augIdx, evAnd, evOr, evO, evC, evT, look, put, puts, tgPut, wipeE, thaw, lk, lks, lkT, lost, lostT, newL, bindTo, ownL, sc_non, sc_bl, sc_int, sc_str, sc_tup, sc_lst, sc_scr, sc_mref, flat_lst, flat_int, flat_tup, flat_bl, flat_non, flat_mref, flat_scr, isL_lst, isL_tup, isL_int, isL_bl, isL_non, isL_scr, isL_mref, isL_str, opt_some, no_bind, tyD, truth, x_lt, x_le, x_gt, x_ge, x_eqI, x_neI, x_eqL, x_neL, x_eqT, x_neT, x_eqS, binD, negD, isD, idxD, q1_lenL, q1_lenT, q1_lenS, q1_sumL, q1_sumT, q1_abs, q1_listL, q1_listT, q1_tupleL, q1_tupleT, q1_intI, q1_intB, q1_all, q1_min, q1_max, items, fin, pure_bind, bind_assoc, optI, sliceD, List.set_cons_succ, List.set_cons_zero, List.getElem?_cons_succ, List.getElem?_cons_zero, List.getElem?_nil, Option.bind_some, Option.map_some, Option.map_none, List.length_map, List.length_cons, List.length_nil, List.map_cons, List.map_nil, List.cons_append, List.nil_append, List.append_nil, List.replicate_succ, List.replicate_zero, Nat.reduceAdd, Nat.reduceSub, Nat.reduceLeDiff, Nat.reduceLT, if_true, if_false, ite_true, ite_false, Bool.or_true, Bool.or_false, Bool.true_or, Bool.false_or, Bool.and_true, Bool.true_and, Bool.and_false, Bool.false_and, Bool.not_true, Bool.not_false, List.all_cons, List.all_nil, Bool.false_eq_true, reduceIte]
      rw [run_bind he1]
      rfl)).trans ?_
    simp only [bindTo, sc_ints, lost, lostT, thaw, lkT, lk, lks, newL, sc_non, sc_bl, sc_int, sc_str, sc_tup, sc_lst, sc_scr, sc_mref, flat_lst, flat_int, flat_tup, flat_bl, flat_non, flat_mref, flat_scr, isL_lst, isL_tup, isL_int, isL_bl, isL_non, isL_scr, isL_mref, isL_str, List.set_cons_succ, List.set_cons_zero, List.getElem?_cons_succ, List.getElem?_cons_zero, List.getElem?_nil, Option.bind_some, Option.map_some, Option.map_none, List.length_map, List.length_cons, List.length_nil, List.map_cons, List.map_nil, List.cons_append, List.nil_append, List.append_nil, List.replicate_succ, List.replicate_zero, Nat.reduceAdd, Nat.reduceSub, Nat.reduceLeDiff, Nat.reduceLT, if_true, if_false, ite_true, ite_false, Bool.or_true, Bool.or_false, Bool.true_or, Bool.false_or, Bool.and_true, Bool.true_and, Bool.and_false, Bool.false_and, Bool.not_true, Bool.not_false, List.all_cons, List.all_nil, Bool.false_eq_true, reduceIte]
    exact e1.trans hh
  by_cases hb : (decide (d = 0) && decide (2 * ((putAll h os).length : Int) ≤ 32)) = true
  · refine ⟨putAll h os ++ (putAll h os).reverse, os, LL + 1, ⟨by rw [List.length_append]; omega, ?_, fun x hx => ?_⟩, k1, k2, .inr rfl, by omega, hstart _ [some (false, .scr), some (false, .mref 0), some (false, .int h), some (false, .int dg), some (false, .tup (iD (putAll h os ++ (putAll h os).reverse))), u5] ?_⟩
    · rw [Bool.and_eq_true] at hb
      have := of_decide_eq_true hb.2
      rw [List.length_append, List.length_reverse]
      omega
    · rcases List.mem_append.mp hx with hx | hx
      · exact k3 x hx
      · exact k3 x (List.mem_reverse.mp hx)
    · rw [hb] at hcond
      refine (ifT hcond (ρ1 := [some (false, .scr), some (false, .mref 0), some (false, .int h), some (false, .int dg), some (false, .tup (iD (putAll h os ++ (putAll h os).reverse))), u5]) (μ2 := tw (LL + 1)) ?_).trans (retR (by simp only [runFn, startE, evSs, evEs, v_non, v_bl, v_int, v_str, v_var, v_glob, v_bin, v_neg, v_not, v_cmp, v_chain, v_isC, v_andL, v_orL, v_ite, v_tup, v_lst, v_idx, v_slice, v_rev, v_call, v_callD, v_callK, v_b1, v_mm, v_isi, v_lrange, v_dget, v_didx, w_assign, w_par, w_unpack, w_append, w_expr, w_ite, w_ret, w_cont, w_raise, w_aug, w_augIdx, evAnd, evOr, evO, evC, evT, look, put, puts, tgPut, wipeE, thaw, lk, lks, lkT, lost, lostT, newL, bindTo, ownL, sc_non, sc_bl, sc_int, sc_str, sc_tup, sc_lst, sc_scr, sc_mref, flat_lst, flat_int, flat_tup, flat_bl, flat_non, flat_mref, flat_scr, isL_lst, isL_tup, isL_int, isL_bl, isL_non, isL_scr, isL_mref, isL_str, opt_some, no_bind, tyD, truth, x_lt, x_le, x_gt, x_ge, x_eqI, x_neI, x_eqL, x_neL, x_eqT, x_neT, x_eqS, binD, negD, isD, idxD, q1_lenL, q1_lenT, q1_lenS, q1_sumL, q1_sumT, q1_abs, q1_listL, q1_listT, q1_tupleL, q1_tupleT, q1_intI, q1_intB, q1_all, q1_min, q1_max, items, fin, pure_bind, bind_assoc, optI, sliceD, List.set_cons_succ, List.set_cons_zero, List.getElem?_cons_succ, List.getElem?_cons_zero, List.getElem?_nil, Option.bind_some, Option.map_some, Option.map_none, List.length_map, List.length_cons, List.length_nil, List.map_cons, List.map_nil, List.cons_append, List.nil_append, List.append_nil, List.replicate_succ, List.replicate_zero, Nat.reduceAdd, Nat.reduceSub, Nat.reduceLeDiff, Nat.reduceLT, if_true, if_false, ite_true, ite_false, Bool.or_true, Bool.or_false, Bool.true_or, Bool.false_or, Bool.and_true, Bool.true_and, Bool.and_false, Bool.false_and, Bool.not_true, Bool.not_false, List.all_cons, List.all_nil, Bool.false_eq_true, reduceIte]; rfl))
      refine (setR (d := .tup (iD (putAll h os ++ (putAll h os).reverse))) (μ1 := tw (LL + 1)) ?_).trans ?_
      · simp only [runFn, startE, evSs, evEs, v_non, v_bl, v_int, v_str, v_var, v_glob, v_bin, v_neg, v_not, v_cmp, v_chain, v_isC, v_andL, v_orL, v_ite, v_tup, v_lst, v_idx, v_slice, v_rev, v_call, v_callD, v_callK, v_b1, v_mm, v_isi, v_lrange, v_dget, v_didx, w_assign, w_par, w_unpack, w_append, w_expr, w_ite, w_ret, w_cont, w_raise, w_aug, w_augIdx, evAnd, evOr, evO, evC, evT, look, put, puts, tgPut, wipeE, thaw, lk, lks, lkT, lost, lostT, newL, bindTo, ownL, sc_non, sc_bl, sc_int, sc_str, sc_tup, sc_lst, sc_scr, sc_mref, flat_lst, flat_int, flat_tup, flat_bl, flat_non, flat_mref, flat_scr, isL_lst, isL_tup, isL_int, isL_bl, isL_non, isL_scr, isL_mref, isL_str, opt_some, no_bind, tyD, truth, x_lt, x_le, x_gt, x_ge, x_eqI, x_neI, x_eqL, x_neL, x_eqT, x_neT, x_eqS, binD, negD, isD, idxD, q1_lenL, q1_lenT, q1_lenS, q1_sumL, q1_sumT, q1_abs, q1_listL, q1_listT, q1_tupleL, q1_tupleT, q1_intI, q1_intB, q1_all, q1_min, q1_max, items, fin, pure_bind, bind_assoc, optI, sliceD, List.set_cons_succ, List.set_cons_zero, List.getElem?_cons_succ, List.getElem?_cons_zero, List.getElem?_nil, Option.bind_some, Option.map_some, Option.map_none, List.length_map, List.length_cons, List.length_nil, List.map_cons, List.map_nil, List.cons_append, List.nil_append, List.append_nil, List.replicate_succ, List.replicate_zero, Nat.reduceAdd, Nat.reduceSub, Nat.reduceLeDiff, Nat.reduceLT, if_true, if_false, ite_true, ite_false, Bool.or_true, Bool.or_false, Bool.true_or, Bool.false_or, Bool.and_true, Bool.true_and, Bool.and_false, Bool.false_and, Bool.not_true, Bool.not_false, List.all_cons, List.all_nil, Bool.false_eq_true, reduceIte, revD, rev_iD]
        rw [opt_if (by rw [List.length_reverse]; omega), cat_iD]
        rfl
      · simp only [bindTo, sc_ints, lost, lostT, thaw, lkT, lk, lks, newL, sc_non, sc_bl, sc_int, sc_str, sc_tup, sc_lst, sc_scr, sc_mref, flat_lst, flat_int, flat_tup, flat_bl, flat_non, flat_mref, flat_scr, isL_lst, isL_tup, isL_int, isL_bl, isL_non, isL_scr, isL_mref, isL_str, List.set_cons_succ, List.set_cons_zero, List.getElem?_cons_succ, List.getElem?_cons_zero, List.getElem?_nil, Option.bind_some, Option.map_some, Option.map_none, List.length_map, List.length_cons, List.length_nil, List.map_cons, List.map_nil, List.cons_append, List.nil_append, List.append_nil, List.replicate_succ, List.replicate_zero, Nat.reduceAdd, Nat.reduceSub, Nat.reduceLeDiff, Nat.reduceLT, if_true, if_false, ite_true, ite_false, Bool.or_true, Bool.or_false, Bool.true_or, Bool.false_or, Bool.and_true, Bool.true_and, Bool.and_false, Bool.false_and, Bool.not_true, Bool.not_false, List.all_cons, List.all_nil, Bool.false_eq_true, reduceIte]
        exact nilR
  · have hb' : (decide (d = 0) && decide (2 * ((putAll h os).length : Int) ≤ 32)) = false := by simpa using hb
    rw [hb'] at hcond
    refine ⟨putAll h os, os, LL + 1, ⟨hpos, hlen, k3⟩, k1, k2, .inl rfl, by omega, hstart _ _ ((ifN hcond).trans (retR (by simp only [runFn, startE, evSs, evEs, v_non, v_bl, v_int, v_str, v_var, v_glob, v_bin, v_neg, v_not, v_cmp, v_chain, v_isC, v_andL, v_orL, v_ite, v_tup, v_lst, v_idx, v_slice, v_rev, v_call, v_callD, v_callK, v_b1, v_mm, v_isi, v_lrange, v_dget, v_didx, w_assign, w_par, w_unpack, w_append, w_expr, w_ite, w_ret, w_cont, w_raise, w_aug, w_augIdx, evAnd, evOr, evO, evC, evT, look, put, puts, tgPut, wipeE, thaw, lk, lks, lkT, lost, lostT, newL, bindTo, ownL, sc_non, sc_bl, sc_int, sc_str, sc_tup, sc_lst, sc_scr, sc_mref, flat_lst, flat_int, flat_tup, flat_bl, flat_non, flat_mref, flat_scr, isL_lst, isL_tup, isL_int, isL_bl, isL_non, isL_scr, isL_mref, isL_str, opt_some, no_bind, tyD, truth, x_lt, x_le, x_gt, x_ge, x_eqI, x_neI, x_eqL, x_neL, x_eqT, x_neT, x_eqS, binD, negD, isD, idxD, q1_lenL, q1_lenT, q1_lenS, q1_sumL, q1_sumT, q1_abs, q1_listL, q1_listT, q1_tupleL, q1_tupleT, q1_intI, q1_intB, q1_all, q1_min, q1_max, items, fin, pure_bind, bind_assoc, optI, sliceD, List.set_cons_succ, List.set_cons_zero, List.getElem?_cons_succ, List.getElem?_cons_zero, List.getElem?_nil, Option.bind_some, Option.map_some, Option.map_none, List.length_map, List.length_cons, List.length_nil, List.map_cons, List.map_nil, List.cons_append, List.nil_append, List.append_nil, List.replicate_succ, List.replicate_zero, Nat.reduceAdd, Nat.reduceSub, Nat.reduceLeDiff, Nat.reduceLT, if_true, if_false, ite_true, ite_false, Bool.or_true, Bool.or_false, Bool.true_or, Bool.false_or, Bool.and_true, Bool.true_and, Bool.and_false, Bool.false_and, Bool.not_true, Bool.not_false, List.all_cons, List.all_nil, Bool.false_eq_true, reduceIte]; rfl)))⟩
theorem set_iD (l : List Int) (k : Nat) (x : Int) : (iD l).set k (.int x) = iD (l.set k x) := by
  show (List.map D.int l).set k (D.int x) = List.map D.int (l.set k x)
  rw [List.map_set]
theorem row_set {h : Int} {r : List Int} (g : Row h r) (k : Nat) {x : Int} (hx : 0 ≤ x ∧ x < h) : Row h (r.set k x) :=
  ⟨by rw [List.length_set]; exact g.1, by rw [List.length_set]; exact g.2.1, fun y hy => (List.mem_or_eq_of_mem_set hy).elim (g.2.2 y) fun e => by rw [e]; exact hx⟩
theorem row_get {h : Int} {r : List Int} (g : Row h r) {k : Nat} (hk : k < r.length) : 0 ≤ r.getD k 0 ∧ r.getD k 0 < h := by
  rw [List.getD_eq_getElem?_getD, List.getElem?_eq_getElem hk]
  exact g.2.2 _ (List.getElem_mem hk)
theorem e_near_even (hS : S.length ≤ 63) {L : Nat} {h dg : Int} (h1 : 2 ≤ h) (h2 : h ≤ 4) (d0 : 0 ≤ dg) (d1 : dg ≤ 2) (hL : L ≤ 700000) :
    ∃ (r : List Int) (L' : Nat), Row h r ∧ L' ≤ L + 40 ∧ callN tbl S (n + 6) 45 [.scr, .mref 0, .int h, .int dg] (tw L) = .ok (.tup (iD r)) (tw L') := by
  generalize hkd : dv S (L + 1) 4 = kd
  by_cases k0 : kd = 0
  · obtain ⟨r, r1, r2, r3, hr⟩ := e_some_row (n := n + 1) hS (L := L + 1) (h := h) (q := 12) (by omega) (by decide) (by decide) (by omega)
    refine ⟨r, L + 1 + 1 + r.length, ⟨r1, by omega, r3⟩, by omega, ?_⟩
    rw [c_law_near_even]
    refine runR (ρ1 := [some (false, .scr), some (false, .mref 0), some (false, .int h), some (false, .int dg), some (false, .int kd), none, none, none]) rfl ?_
    rw [show startE fn_law_near_even.slots [D.scr, .mref 0, .int h, .int dg] = [some (false, .scr), some (false, .mref 0), some (false, .int h), some (false, .int dg), none, none, none, none] from rfl]
    unfold fn_law_near_even
    refine (setR (d := .int kd) (μ1 := tw (L + 1)) (by simp only [runFn, startE, evSs, evEs, v_non, v_bl, v_int, v_str, v_var, v_glob, v_bin, v_neg, v_not, v_cmp, v_chain, v_isC, v_andL, v_orL, v_ite, v_tup, v_lst, v_idx, v_slice, v_rev, v_call, v_callD, v_callK, v_b1, v_mm, v_isi, v_lrange, v_dget, v_didx, w_assign, w_par, w_unpack, w_append, w_expr, w_ite, w_ret, w_cont, w_raise, w_aug, w_augIdx, evAnd, evOr, evO, evC, evT, look, put, puts, tgPut, wipeE, thaw, lk, lks, lkT, lost, lostT, newL, bindTo, ownL, sc_non, sc_bl, sc_int, sc_str, sc_tup, sc_lst, sc_scr, sc_mref, flat_lst, flat_int, flat_tup, flat_bl, flat_non, flat_mref, flat_scr, isL_lst, isL_tup, isL_int, isL_bl, isL_non, isL_scr, isL_mref, isL_str, opt_some, no_bind, tyD, truth, x_lt, x_le, x_gt, x_ge, x_eqI, x_neI, x_eqL, x_neL, x_eqT, x_neT, x_eqS, binD, negD, isD, idxD, q1_lenL, q1_lenT, q1_lenS, q1_sumL, q1_sumT, q1_abs, q1_listL, q1_listT, q1_tupleL, q1_tupleT, q1_intI, q1_intB, q1_all, q1_min, q1_max, items, fin, pure_bind, bind_assoc, optI, sliceD, List.set_cons_succ, List.set_cons_zero, List.getElem?_cons_succ, List.getElem?_cons_zero, List.getElem?_nil, Option.bind_some, Option.map_some, Option.map_none, List.length_map, List.length_cons, List.length_nil, List.map_cons, List.map_nil, List.cons_append, List.nil_append, List.append_nil, List.replicate_succ, List.replicate_zero, Nat.reduceAdd, Nat.reduceSub, Nat.reduceLeDiff, Nat.reduceLT, if_true, if_false, ite_true, ite_false, Bool.or_true, Bool.or_false, Bool.true_or, Bool.false_or, Bool.and_true, Bool.true_and, Bool.and_false, Bool.false_and, Bool.not_true, Bool.not_false, List.all_cons, List.all_nil, Bool.false_eq_true, reduceIte]; rw [e_draw hS (by decide) (by omega), hkd])).trans ?_
    simp only [bindTo, sc_ints, lost, lostT, thaw, lkT, lk, lks, newL, sc_non, sc_bl, sc_int, sc_str, sc_tup, sc_lst, sc_scr, sc_mref, flat_lst, flat_int, flat_tup, flat_bl, flat_non, flat_mref, flat_scr, isL_lst, isL_tup, isL_int, isL_bl, isL_non, isL_scr, isL_mref, isL_str, List.set_cons_succ, List.set_cons_zero, List.getElem?_cons_succ, List.getElem?_cons_zero, List.getElem?_nil, Option.bind_some, Option.map_some, Option.map_none, List.length_map, List.length_cons, List.length_nil, List.map_cons, List.map_nil, List.cons_append, List.nil_append, List.append_nil, List.replicate_succ, List.replicate_zero, Nat.reduceAdd, Nat.reduceSub, Nat.reduceLeDiff, Nat.reduceLT, if_true, if_false, ite_true, ite_false, Bool.or_true, Bool.or_false, Bool.true_or, Bool.false_or, Bool.and_true, Bool.true_and, Bool.and_false, Bool.false_and, Bool.not_true, Bool.not_false, List.all_cons, List.all_nil, Bool.false_eq_true, reduceIte]
    exact ifRet (μ1 := tw (L + 1)) (by simp only [runFn, startE, evSs, evEs, v_non, v_bl, v_int, v_str, v_var, v_glob, v_bin, v_neg, v_not, v_cmp, v_chain, v_isC, v_andL, v_orL, v_ite, v_tup, v_lst, v_idx, v_slice, v_rev, v_call, v_callD, v_callK, v_b1, v_mm, v_isi, v_lrange, v_dget, v_didx, w_assign, w_par, w_unpack, w_append, w_expr, w_ite, w_ret, w_cont, w_raise, w_aug, w_augIdx, evAnd, evOr, evO, evC, evT, look, put, puts, tgPut, wipeE, thaw, lk, lks, lkT, lost, lostT, newL, bindTo, ownL, sc_non, sc_bl, sc_int, sc_str, sc_tup, sc_lst, sc_scr, sc_mref, flat_lst, flat_int, flat_tup, flat_bl, flat_non, flat_mref, flat_scr, isL_lst, isL_tup, isL_int, isL_bl, isL_non, isL_scr, isL_mref, isL_str, opt_some, no_bind, tyD, truth, x_lt, x_le, x_gt, x_ge, x_eqI, x_neI, x_eqL, x_neL, x_eqT, x_neT, x_eqS, binD, negD, isD, idxD, q1_lenL, q1_lenT, q1_lenS, q1_sumL, q1_sumT, q1_abs, q1_listL, q1_listT, q1_tupleL, q1_tupleT, q1_intI, q1_intB, q1_all, q1_min, q1_max, items, fin, pure_bind, bind_assoc, optI, sliceD, List.set_cons_succ, List.set_cons_zero, List.getElem?_cons_succ, List.getElem?_cons_zero, List.getElem?_nil, Option.bind_some, Option.map_some, Option.map_none, List.length_map, List.length_cons, List.length_nil, List.map_cons, List.map_nil, List.cons_append, List.nil_append, List.append_nil, List.replicate_succ, List.replicate_zero, Nat.reduceAdd, Nat.reduceSub, Nat.reduceLeDiff, Nat.reduceLT, if_true, if_false, ite_true, ite_false, Bool.or_true, Bool.or_false, Bool.true_or, Bool.false_or, Bool.and_true, Bool.true_and, Bool.and_false, Bool.false_and, Bool.not_true, Bool.not_false, List.all_cons, List.all_nil, Bool.false_eq_true, reduceIte, k0, decide_true]; rfl) (retR (by simp only [runFn, startE, evSs, evEs, v_non, v_bl, v_int, v_str, v_var, v_glob, v_bin, v_neg, v_not, v_cmp, v_chain, v_isC, v_andL, v_orL, v_ite, v_tup, v_lst, v_idx, v_slice, v_rev, v_call, v_callD, v_callK, v_b1, v_mm, v_isi, v_lrange, v_dget, v_didx, w_assign, w_par, w_unpack, w_append, w_expr, w_ite, w_ret, w_cont, w_raise, w_aug, w_augIdx, evAnd, evOr, evO, evC, evT, look, put, puts, tgPut, wipeE, thaw, lk, lks, lkT, lost, lostT, newL, bindTo, ownL, sc_non, sc_bl, sc_int, sc_str, sc_tup, sc_lst, sc_scr, sc_mref, flat_lst, flat_int, flat_tup, flat_bl, flat_non, flat_mref, flat_scr, isL_lst, isL_tup, isL_int, isL_bl, isL_non, isL_scr, isL_mref, isL_str, opt_some, no_bind, tyD, truth, x_lt, x_le, x_gt, x_ge, x_eqI, x_neI, x_eqL, x_neL, x_eqT, x_neT, x_eqS, binD, negD, isD, idxD, q1_lenL, q1_lenT, q1_lenS, q1_sumL, q1_sumT, q1_abs, q1_listL, q1_listT, q1_tupleL, q1_tupleT, q1_intI, q1_intB, q1_all, q1_min, q1_max, items, fin, pure_bind, bind_assoc, optI, sliceD, List.set_cons_succ, List.set_cons_zero, List.getElem?_cons_succ, List.getElem?_cons_zero, List.getElem?_nil, Option.bind_some, Option.map_some, Option.map_none, List.length_map, List.length_cons, List.length_nil, List.map_cons, List.map_nil, List.cons_append, List.nil_append, List.append_nil, List.replicate_succ, List.replicate_zero, Nat.reduceAdd, Nat.reduceSub, Nat.reduceLeDiff, Nat.reduceLT, if_true, if_false, ite_true, ite_false, Bool.or_true, Bool.or_false, Bool.true_or, Bool.false_or, Bool.and_true, Bool.true_and, Bool.and_false, Bool.false_and, Bool.not_true, Bool.not_false, List.all_cons, List.all_nil, Bool.false_eq_true, reduceIte]; exact hr))
  · obtain ⟨r, os, L1, g, _, _, _, hL1, hr⟩ := e_even_row (n := n) hS (L := L + 1) h1 h2 d0 d1 (by omega)
    have rl : 1 ≤ r.length := g.1
    have rk : r.length ≤ 64 := g.2.1
    have hgo : ∀ d ρ' L', evSs S (callN tbl S (n + 5)) (.cons (.ite (.cmp .eq (.var 4) (.int 1)) (.cons (.setIdx 5 (.call 12 (.cons (.var 0) (.cons (.var 1) (.cons (.b1 .len (.var 5)) .nil)))) (.call 12 (.cons (.var 0) (.cons (.var 1) (.cons (.var 2) .nil))))) .nil) .nil) (.cons (.ite (.cmp .eq (.var 4) (.int 2)) (.cons (.par 6 7 (.call 12 (.cons (.var 0) (.cons (.var 1) (.cons (.b1 .len (.var 5)) .nil)))) (.call 12 (.cons (.var 0) (.cons (.var 1) (.cons (.b1 .len (.var 5)) .nil))))) (.cons (.swap2 5 (.var 6) (.var 7) (.idx (.var 5) (.var 7)) (.idx (.var 5) (.var 6))) .nil)) .nil) (.cons (.ret (.b1 .tuple (.var 5))) .nil)))
        [some (false, .scr), some (false, .mref 0), some (false, .int h), some (false, .int dg), some (false, .int kd), some (true, .lst (iD r)), none, none] (tw L1) = .ok (.ret d, ρ') (tw L') → callN tbl S (n + 6) 45 [.scr, .mref 0, .int h, .int dg] (tw L) = .ok d (tw L') := fun d ρ' L' hh => by
      rw [c_law_near_even]
      refine runR (ρ1 := ρ') rfl ?_
      rw [show startE fn_law_near_even.slots [D.scr, .mref 0, .int h, .int dg] = [some (false, .scr), some (false, .mref 0), some (false, .int h), some (false, .int dg), none, none, none, none] from rfl]
      unfold fn_law_near_even
      refine (setR (d := .int kd) (μ1 := tw (L + 1)) (by simp only [runFn, startE, evSs, evEs, v_non, v_bl, v_int, v_str, v_var, v_glob, v_bin, v_neg, v_not, v_cmp, v_chain, v_isC, v_andL, v_orL, v_ite, v_tup, v_lst, v_idx, v_slice, v_rev, v_call, v_callD, v_callK, v_b1, v_mm, v_isi, v_lrange, v_dget, v_didx, w_assign, w_par, w_unpack, w_append, w_expr, w_ite, w_ret, w_cont, w_raise, w_aug, w_augIdx, evAnd, evOr, evO, evC, evT, look, put, puts, tgPut, wipeE, thaw, lk, lks, lkT, lost, lostT, newL, bindTo, ownL, sc_non, sc_bl, sc_int, sc_str, sc_tup, sc_lst, sc_scr, sc_mref, flat_lst, flat_int, flat_tup, flat_bl, flat_non, flat_mref, flat_scr, isL_lst, isL_tup, isL_int, isL_bl, isL_non, isL_scr, isL_mref, isL_str, opt_some, no_bind, tyD, truth, x_lt, x_le, x_gt, x_ge, x_eqI, x_neI, x_eqL, x_neL, x_eqT, x_neT, x_eqS, binD, negD, isD, idxD, q1_lenL, q1_lenT, q1_lenS, q1_sumL, q1_sumT, q1_abs, q1_listL, q1_listT, q1_tupleL, q1_tupleT, q1_intI, q1_intB, q1_all, q1_min, q1_max, items, fin, pure_bind, bind_assoc, optI, sliceD, List.set_cons_succ, List.set_cons_zero, List.getElem?_cons_succ, List.getElem?_cons_zero, List.getElem?_nil, Option.bind_some, Option.map_some, Option.map_none, List.length_map, List.length_cons, List.length_nil, List.map_cons, List.map_nil, List.cons_append, List.nil_append, List.append_nil, List.replicate_succ, List.replicate_zero, Nat.reduceAdd, Nat.reduceSub, Nat.reduceLeDiff, Nat.reduceLT, if_true, if_false, ite_true, ite_false, Bool.or_true, Bool.or_false, Bool.true_or, Bool.false_or, Bool.and_true, Bool.true_and, Bool.and_false, Bool.false_and, Bool.not_true, Bool.not_false, List.all_cons, List.all_nil, Bool.false_eq_true, reduceIte]; rw [e_draw hS (by decide) (by omega), hkd])).trans ?_
      simp only [bindTo, sc_ints, lost, lostT, thaw, lkT, lk, lks, newL, sc_non, sc_bl, sc_int, sc_str, sc_tup, sc_lst, sc_scr, sc_mref, flat_lst, flat_int, flat_tup, flat_bl, flat_non, flat_mref, flat_scr, isL_lst, isL_tup, isL_int, isL_bl, isL_non, isL_scr, isL_mref, isL_str, List.set_cons_succ, List.set_cons_zero, List.getElem?_cons_succ, List.getElem?_cons_zero, List.getElem?_nil, Option.bind_some, Option.map_some, Option.map_none, List.length_map, List.length_cons, List.length_nil, List.map_cons, List.map_nil, List.cons_append, List.nil_append, List.append_nil, List.replicate_succ, List.replicate_zero, Nat.reduceAdd, Nat.reduceSub, Nat.reduceLeDiff, Nat.reduceLT, if_true, if_false, ite_true, ite_false, Bool.or_true, Bool.or_false, Bool.true_or, Bool.false_or, Bool.and_true, Bool.true_and, Bool.and_false, Bool.false_and, Bool.not_true, Bool.not_false, List.all_cons, List.all_nil, Bool.false_eq_true, reduceIte]
      refine (ifN (μ1 := tw (L + 1)) (by simp only [runFn, startE, evSs, evEs, v_non, v_bl, v_int, v_str, v_var, v_glob, v_bin, v_neg, v_not, v_cmp, v_chain, v_isC, v_andL, v_orL, v_ite, v_tup, v_lst, v_idx, v_slice, v_rev, v_call, v_callD, v_callK, v_b1, v_mm, v_isi, v_lrange, v_dget, v_didx, w_assign, w_par, w_unpack, w_append, w_expr, w_ite, w_ret, w_cont, w_raise, w_aug, w_augIdx, evAnd, evOr, evO, evC, evT, look, put, puts, tgPut, wipeE, thaw, lk, lks, lkT, lost, lostT, newL, bindTo, ownL, sc_non, sc_bl, sc_int, sc_str, sc_tup, sc_lst, sc_scr, sc_mref, flat_lst, flat_int, flat_tup, flat_bl, flat_non, flat_mref, flat_scr, isL_lst, isL_tup, isL_int, isL_bl, isL_non, isL_scr, isL_mref, isL_str, opt_some, no_bind, tyD, truth, x_lt, x_le, x_gt, x_ge, x_eqI, x_neI, x_eqL, x_neL, x_eqT, x_neT, x_eqS, binD, negD, isD, idxD, q1_lenL, q1_lenT, q1_lenS, q1_sumL, q1_sumT, q1_abs, q1_listL, q1_listT, q1_tupleL, q1_tupleT, q1_intI, q1_intB, q1_all, q1_min, q1_max, items, fin, pure_bind, bind_assoc, optI, sliceD, List.set_cons_succ, List.set_cons_zero, List.getElem?_cons_succ, List.getElem?_cons_zero, List.getElem?_nil, Option.bind_some, Option.map_some, Option.map_none, List.length_map, List.length_cons, List.length_nil, List.map_cons, List.map_nil, List.cons_append, List.nil_append, List.append_nil, List.replicate_succ, List.replicate_zero, Nat.reduceAdd, Nat.reduceSub, Nat.reduceLeDiff, Nat.reduceLT, if_true, if_false, ite_true, ite_false, Bool.or_true, Bool.or_false, Bool.true_or, Bool.false_or, Bool.and_true, Bool.true_and, Bool.and_false, Bool.false_and, Bool.not_true, Bool.not_false, List.all_cons, List.all_nil, Bool.false_eq_true, reduceIte, decide_eq_false k0]; rfl)).trans ?_
      refine (setR (d := .lst (iD r)) (μ1 := tw L1) (by simp only [runFn, startE, evSs, evEs, v_non, v_bl, v_int, v_str, v_var, v_glob, v_bin, v_neg, v_not, v_cmp, v_chain, v_isC, v_andL, v_orL, v_ite, v_tup, v_lst, v_idx, v_slice, v_rev, v_call, v_callD, v_callK, v_b1, v_mm, v_isi, v_lrange, v_dget, v_didx, w_assign, w_par, w_unpack, w_append, w_expr, w_ite, w_ret, w_cont, w_raise, w_aug, w_augIdx, evAnd, evOr, evO, evC, evT, look, put, puts, tgPut, wipeE, thaw, lk, lks, lkT, lost, lostT, newL, bindTo, ownL, sc_non, sc_bl, sc_int, sc_str, sc_tup, sc_lst, sc_scr, sc_mref, flat_lst, flat_int, flat_tup, flat_bl, flat_non, flat_mref, flat_scr, isL_lst, isL_tup, isL_int, isL_bl, isL_non, isL_scr, isL_mref, isL_str, opt_some, no_bind, tyD, truth, x_lt, x_le, x_gt, x_ge, x_eqI, x_neI, x_eqL, x_neL, x_eqT, x_neT, x_eqS, binD, negD, isD, idxD, q1_lenL, q1_lenT, q1_lenS, q1_sumL, q1_sumT, q1_abs, q1_listL, q1_listT, q1_tupleL, q1_tupleT, q1_intI, q1_intB, q1_all, q1_min, q1_max, items, fin, pure_bind, bind_assoc, optI, sliceD, List.set_cons_succ, List.set_cons_zero, List.getElem?_cons_succ, List.getElem?_cons_zero, List.getElem?_nil, Option.bind_some, Option.map_some, Option.map_none, List.length_map, List.length_cons, List.length_nil, List.map_cons, List.map_nil, List.cons_append, List.nil_append, List.append_nil, List.replicate_succ, List.replicate_zero, Nat.reduceAdd, Nat.reduceSub, Nat.reduceLeDiff, Nat.reduceLT, if_true, if_false, ite_true, ite_false, Bool.or_true, Bool.or_false, Bool.true_or, Bool.false_or, Bool.and_true, Bool.true_and, Bool.and_false, Bool.false_and, Bool.not_true, Bool.not_false, List.all_cons, List.all_nil, Bool.false_eq_true, reduceIte]; rw [run_bind hr]; rfl)).trans ?_
      simp only [bindTo, sc_ints, lost, lostT, thaw, lkT, lk, lks, newL, sc_non, sc_bl, sc_int, sc_str, sc_tup, sc_lst, sc_scr, sc_mref, flat_lst, flat_int, flat_tup, flat_bl, flat_non, flat_mref, flat_scr, isL_lst, isL_tup, isL_int, isL_bl, isL_non, isL_scr, isL_mref, isL_str, List.set_cons_succ, List.set_cons_zero, List.getElem?_cons_succ, List.getElem?_cons_zero, List.getElem?_nil, Option.bind_some, Option.map_some, Option.map_none, List.length_map, List.length_cons, List.length_nil, List.map_cons, List.map_nil, List.cons_append, List.nil_append, List.append_nil, List.replicate_succ, List.replicate_zero, Nat.reduceAdd, Nat.reduceSub, Nat.reduceLeDiff, Nat.reduceLT, if_true, if_false, ite_true, ite_false, Bool.or_true, Bool.or_false, Bool.true_or, Bool.false_or, Bool.and_true, Bool.true_and, Bool.and_false, Bool.false_and, Bool.not_true, Bool.not_false, List.all_cons, List.all_nil, Bool.false_eq_true, reduceIte]
      exact hh
    by_cases k1 : kd = 1
    · obtain ⟨a1, a2⟩ := (dv_ok hS (L1 + 1) (r := h) (by omega)).1
      obtain ⟨b1, b2⟩ := (dv_ok hS (L1 + 1 + 1) (r := (r.length : Int)) (by omega)).1
      generalize ha : dv S (L1 + 1) h = a at a1 a2
      generalize hb : dv S (L1 + 1 + 1) r.length = b at b1 b2
      refine ⟨r.set b.toNat a, L1 + 2, row_set g _ ⟨a1, a2⟩, by omega, hgo _ [some (false, .scr), some (false, .mref 0), some (false, .int h), some (false, .int dg), some (false, .int kd), some (true, .lst (iD (r.set b.toNat a))), none, none] _ ?_⟩
      refine (ifT (μ1 := tw L1) (ρ1 := [some (false, .scr), some (false, .mref 0), some (false, .int h), some (false, .int dg), some (false, .int kd), some (true, .lst (iD (r.set b.toNat a))), none, none]) (μ2 := tw (L1 + 2)) (by simp only [runFn, startE, evSs, evEs, v_non, v_bl, v_int, v_str, v_var, v_glob, v_bin, v_neg, v_not, v_cmp, v_chain, v_isC, v_andL, v_orL, v_ite, v_tup, v_lst, v_idx, v_slice, v_rev, v_call, v_callD, v_callK, v_b1, v_mm, v_isi, v_lrange, v_dget, v_didx, w_assign, w_par, w_unpack, w_append, w_expr, w_ite, w_ret, w_cont, w_raise, w_aug, w_augIdx, evAnd, evOr, evO, evC, evT, look, put, puts, tgPut, wipeE, thaw, lk, lks, lkT, lost, lostT, newL, bindTo, ownL, sc_non, sc_bl, sc_int, sc_str, sc_tup, sc_lst, sc_scr, sc_mref, flat_lst, flat_int, flat_tup, flat_bl, flat_non, flat_mref, flat_scr, isL_lst, isL_tup, isL_int, isL_bl, isL_non, isL_scr, isL_mref, isL_str, opt_some, no_bind, tyD, truth, x_lt, x_le, x_gt, x_ge, x_eqI, x_neI, x_eqL, x_neL, x_eqT, x_neT, x_eqS, binD, negD, isD, idxD, q1_lenL, q1_lenT, q1_lenS, q1_sumL, q1_sumT, q1_abs, q1_listL, q1_listT, q1_tupleL, q1_tupleT, q1_intI, q1_intB, q1_all, q1_min, q1_max, items, fin, pure_bind, bind_assoc, optI, sliceD, List.set_cons_succ, List.set_cons_zero, List.getElem?_cons_succ, List.getElem?_cons_zero, List.getElem?_nil, Option.bind_some, Option.map_some, Option.map_none, List.length_map, List.length_cons, List.length_nil, List.map_cons, List.map_nil, List.cons_append, List.nil_append, List.append_nil, List.replicate_succ, List.replicate_zero, Nat.reduceAdd, Nat.reduceSub, Nat.reduceLeDiff, Nat.reduceLT, if_true, if_false, ite_true, ite_false, Bool.or_true, Bool.or_false, Bool.true_or, Bool.false_or, Bool.and_true, Bool.true_and, Bool.and_false, Bool.false_and, Bool.not_true, Bool.not_false, List.all_cons, List.all_nil, Bool.false_eq_true, reduceIte, k1, decide_true]; rfl) ?_).trans ?_
      · refine (seqR ?_).trans nilR
        rw [evS]
        simp only [runFn, startE, evSs, evEs, v_non, v_bl, v_int, v_str, v_var, v_glob, v_bin, v_neg, v_not, v_cmp, v_chain, v_isC, v_andL, v_orL, v_ite, v_tup, v_lst, v_idx, v_slice, v_rev, v_call, v_callD, v_callK, v_b1, v_mm, v_isi, v_lrange, v_dget, v_didx, w_assign, w_par, w_unpack, w_append, w_expr, w_ite, w_ret, w_cont, w_raise, w_aug, w_augIdx, evAnd, evOr, evO, evC, evT, look, put, puts, tgPut, wipeE, thaw, lk, lks, lkT, lost, lostT, newL, bindTo, ownL, sc_non, sc_bl, sc_int, sc_str, sc_tup, sc_lst, sc_scr, sc_mref, flat_lst, flat_int, flat_tup, flat_bl, flat_non, flat_mref, flat_scr, isL_lst, isL_tup, isL_int, isL_bl, isL_non, isL_scr, isL_mref, isL_str, opt_some, no_bind, tyD, truth, x_lt, x_le, x_gt, x_ge, x_eqI, x_neI, x_eqL, x_neL, x_eqT, x_neT, x_eqS, binD, negD, isD, idxD, q1_lenL, q1_lenT, q1_lenS, q1_sumL, q1_sumT, q1_abs, q1_listL, q1_listT, q1_tupleL, q1_tupleT, q1_intI, q1_intB, q1_all, q1_min, q1_max, items, fin, pure_bind, bind_assoc, optI, sliceD, List.set_cons_succ, List.set_cons_zero, List.getElem?_cons_succ, List.getElem?_cons_zero, List.getElem?_nil, Option.bind_some, Option.map_some, Option.map_none, List.length_map, List.length_cons, List.length_nil, List.map_cons, List.map_nil, List.cons_append, List.nil_append, List.append_nil, List.replicate_succ, List.replicate_zero, Nat.reduceAdd, Nat.reduceSub, Nat.reduceLeDiff, Nat.reduceLT, if_true, if_false, ite_true, ite_false, Bool.or_true, Bool.or_false, Bool.true_or, Bool.false_or, Bool.and_true, Bool.true_and, Bool.and_false, Bool.false_and, Bool.not_true, Bool.not_false, List.all_cons, List.all_nil, Bool.false_eq_true, reduceIte]
        rw [run_bind (e_draw hS (by omega) (by omega)), ha]
        simp only [runFn, startE, evSs, evEs, v_non, v_bl, v_int, v_str, v_var, v_glob, v_bin, v_neg, v_not, v_cmp, v_chain, v_isC, v_andL, v_orL, v_ite, v_tup, v_lst, v_idx, v_slice, v_rev, v_call, v_callD, v_callK, v_b1, v_mm, v_isi, v_lrange, v_dget, v_didx, w_assign, w_par, w_unpack, w_append, w_expr, w_ite, w_ret, w_cont, w_raise, w_aug, w_augIdx, evAnd, evOr, evO, evC, evT, look, put, puts, tgPut, wipeE, thaw, lk, lks, lkT, lost, lostT, newL, bindTo, ownL, sc_non, sc_bl, sc_int, sc_str, sc_tup, sc_lst, sc_scr, sc_mref, flat_lst, flat_int, flat_tup, flat_bl, flat_non, flat_mref, flat_scr, isL_lst, isL_tup, isL_int, isL_bl, isL_non, isL_scr, isL_mref, isL_str, opt_some, no_bind, tyD, truth, x_lt, x_le, x_gt, x_ge, x_eqI, x_neI, x_eqL, x_neL, x_eqT, x_neT, x_eqS, binD, negD, isD, idxD, q1_lenL, q1_lenT, q1_lenS, q1_sumL, q1_sumT, q1_abs, q1_listL, q1_listT, q1_tupleL, q1_tupleT, q1_intI, q1_intB, q1_all, q1_min, q1_max, items, fin, pure_bind, bind_assoc, optI, sliceD, List.set_cons_succ, List.set_cons_zero, List.getElem?_cons_succ, List.getElem?_cons_zero, List.getElem?_nil, Option.bind_some, Option.map_some, Option.map_none, List.length_map, List.length_cons, List.length_nil, List.map_cons, List.map_nil, List.cons_append, List.nil_append, List.append_nil, List.replicate_succ, List.replicate_zero, Nat.reduceAdd, Nat.reduceSub, Nat.reduceLeDiff, Nat.reduceLT, if_true, if_false, ite_true, ite_false, Bool.or_true, Bool.or_false, Bool.true_or, Bool.false_or, Bool.and_true, Bool.true_and, Bool.and_false, Bool.false_and, Bool.not_true, Bool.not_false, List.all_cons, List.all_nil, Bool.false_eq_true, reduceIte]
        rw [run_bind (e_draw hS (by omega) (by omega)), hb]
        simp only [runFn, startE, evSs, evEs, v_non, v_bl, v_int, v_str, v_var, v_glob, v_bin, v_neg, v_not, v_cmp, v_chain, v_isC, v_andL, v_orL, v_ite, v_tup, v_lst, v_idx, v_slice, v_rev, v_call, v_callD, v_callK, v_b1, v_mm, v_isi, v_lrange, v_dget, v_didx, w_assign, w_par, w_unpack, w_append, w_expr, w_ite, w_ret, w_cont, w_raise, w_aug, w_augIdx, evAnd, evOr, evO, evC, evT, look, put, puts, tgPut, wipeE, thaw, lk, lks, lkT, lost, lostT, newL, bindTo, ownL, sc_non, sc_bl, sc_int, sc_str, sc_tup, sc_lst, sc_scr, sc_mref, flat_lst, flat_int, flat_tup, flat_bl, flat_non, flat_mref, flat_scr, isL_lst, isL_tup, isL_int, isL_bl, isL_non, isL_scr, isL_mref, isL_str, opt_some, no_bind, tyD, truth, x_lt, x_le, x_gt, x_ge, x_eqI, x_neI, x_eqL, x_neL, x_eqT, x_neT, x_eqS, binD, negD, isD, idxD, q1_lenL, q1_lenT, q1_lenS, q1_sumL, q1_sumT, q1_abs, q1_listL, q1_listT, q1_tupleL, q1_tupleT, q1_intI, q1_intB, q1_all, q1_min, q1_max, items, fin, pure_bind, bind_assoc, optI, sliceD, List.set_cons_succ, List.set_cons_zero, List.getElem?_cons_succ, List.getElem?_cons_zero, List.getElem?_nil, Option.bind_some, Option.map_some, Option.map_none, List.length_map, List.length_cons, List.length_nil, List.map_cons, List.map_nil, List.cons_append, List.nil_append, List.append_nil, List.replicate_succ, List.replicate_zero, Nat.reduceAdd, Nat.reduceSub, Nat.reduceLeDiff, Nat.reduceLT, if_true, if_false, ite_true, ite_false, Bool.or_true, Bool.or_false, Bool.true_or, Bool.false_or, Bool.and_true, Bool.true_and, Bool.and_false, Bool.false_and, Bool.not_true, Bool.not_false, List.all_cons, List.all_nil, Bool.false_eq_true, reduceIte, setD, ixN_ok (m := r.length) b1 b2, List.not_mem_nil, not_false_eq_true, set_iD]
        rfl
      · refine (ifN (μ1 := tw (L1 + 2)) (by simp only [runFn, startE, evSs, evEs, v_non, v_bl, v_int, v_str, v_var, v_glob, v_bin, v_neg, v_not, v_cmp, v_chain, v_isC, v_andL, v_orL, v_ite, v_tup, v_lst, v_idx, v_slice, v_rev, v_call, v_callD, v_callK, v_b1, v_mm, v_isi, v_lrange, v_dget, v_didx, w_assign, w_par, w_unpack, w_append, w_expr, w_ite, w_ret, w_cont, w_raise, w_aug, w_augIdx, evAnd, evOr, evO, evC, evT, look, put, puts, tgPut, wipeE, thaw, lk, lks, lkT, lost, lostT, newL, bindTo, ownL, sc_non, sc_bl, sc_int, sc_str, sc_tup, sc_lst, sc_scr, sc_mref, flat_lst, flat_int, flat_tup, flat_bl, flat_non, flat_mref, flat_scr, isL_lst, isL_tup, isL_int, isL_bl, isL_non, isL_scr, isL_mref, isL_str, opt_some, no_bind, tyD, truth, x_lt, x_le, x_gt, x_ge, x_eqI, x_neI, x_eqL, x_neL, x_eqT, x_neT, x_eqS, binD, negD, isD, idxD, q1_lenL, q1_lenT, q1_lenS, q1_sumL, q1_sumT, q1_abs, q1_listL, q1_listT, q1_tupleL, q1_tupleT, q1_intI, q1_intB, q1_all, q1_min, q1_max, items, fin, pure_bind, bind_assoc, optI, sliceD, List.set_cons_succ, List.set_cons_zero, List.getElem?_cons_succ, List.getElem?_cons_zero, List.getElem?_nil, Option.bind_some, Option.map_some, Option.map_none, List.length_map, List.length_cons, List.length_nil, List.map_cons, List.map_nil, List.cons_append, List.nil_append, List.append_nil, List.replicate_succ, List.replicate_zero, Nat.reduceAdd, Nat.reduceSub, Nat.reduceLeDiff, Nat.reduceLT, if_true, if_false, ite_true, ite_false, Bool.or_true, Bool.or_false, Bool.true_or, Bool.false_or, Bool.and_true, Bool.true_and, Bool.and_false, Bool.false_and, Bool.not_true, Bool.not_false, List.all_cons, List.all_nil, Bool.false_eq_true, reduceIte, k1]; rfl)).trans ?_
        exact retR (by simp only [runFn, startE, evSs, evEs, v_non, v_bl, v_int, v_str, v_var, v_glob, v_bin, v_neg, v_not, v_cmp, v_chain, v_isC, v_andL, v_orL, v_ite, v_tup, v_lst, v_idx, v_slice, v_rev, v_call, v_callD, v_callK, v_b1, v_mm, v_isi, v_lrange, v_dget, v_didx, w_assign, w_par, w_unpack, w_append, w_expr, w_ite, w_ret, w_cont, w_raise, w_aug, w_augIdx, evAnd, evOr, evO, evC, evT, look, put, puts, tgPut, wipeE, thaw, lk, lks, lkT, lost, lostT, newL, bindTo, ownL, sc_non, sc_bl, sc_int, sc_str, sc_tup, sc_lst, sc_scr, sc_mref, flat_lst, flat_int, flat_tup, flat_bl, flat_non, flat_mref, flat_scr, isL_lst, isL_tup, isL_int, isL_bl, isL_non, isL_scr, isL_mref, isL_str, opt_some, no_bind, tyD, truth, x_lt, x_le, x_gt, x_ge, x_eqI, x_neI, x_eqL, x_neL, x_eqT, x_neT, x_eqS, binD, negD, isD, idxD, q1_lenL, q1_lenT, q1_lenS, q1_sumL, q1_sumT, q1_abs, q1_listL, q1_listT, q1_tupleL, q1_tupleT, q1_intI, q1_intB, q1_all, q1_min, q1_max, items, fin, pure_bind, bind_assoc, optI, sliceD, List.set_cons_succ, List.set_cons_zero, List.getElem?_cons_succ, List.getElem?_cons_zero, List.getElem?_nil, Option.bind_some, Option.map_some, Option.map_none, List.length_map, List.length_cons, List.length_nil, List.map_cons, List.map_nil, List.cons_append, List.nil_append, List.append_nil, List.replicate_succ, List.replicate_zero, Nat.reduceAdd, Nat.reduceSub, Nat.reduceLeDiff, Nat.reduceLT, if_true, if_false, ite_true, ite_false, Bool.or_true, Bool.or_false, Bool.true_or, Bool.false_or, Bool.and_true, Bool.true_and, Bool.and_false, Bool.false_and, Bool.not_true, Bool.not_false, List.all_cons, List.all_nil, Bool.false_eq_true, reduceIte]; rfl)
    · by_cases k2 : kd = 2
      · obtain ⟨a1, a2⟩ := (dv_ok hS (L1 + 1) (r := (r.length : Int)) (by omega)).1
        obtain ⟨b1, b2⟩ := (dv_ok hS (L1 + 1 + 1) (r := (r.length : Int)) (by omega)).1
        generalize ha : dv S (L1 + 1) r.length = a at a1 a2
        generalize hb : dv S (L1 + 1 + 1) r.length = b at b1 b2
        refine ⟨(r.set a.toNat (r.getD b.toNat 0)).set b.toNat (r.getD a.toNat 0), L1 + 2, row_set (row_set g _ (row_get g (by omega))) _ (row_get g (by omega)), by omega, hgo _ [some (false, .scr), some (false, .mref 0), some (false, .int h), some (false, .int dg), some (false, .int kd), some (true, .lst (iD ((r.set a.toNat (r.getD b.toNat 0)).set b.toNat (r.getD a.toNat 0)))), some (false, .int a), some (false, .int b)] _ ?_⟩
        refine (ifN (μ1 := tw L1) (by simp only [runFn, startE, evSs, evEs, v_non, v_bl, v_int, v_str, v_var, v_glob, v_bin, v_neg, v_not, v_cmp, v_chain, v_isC, v_andL, v_orL, v_ite, v_tup, v_lst, v_idx, v_slice, v_rev, v_call, v_callD, v_callK, v_b1, v_mm, v_isi, v_lrange, v_dget, v_didx, w_assign, w_par, w_unpack, w_append, w_expr, w_ite, w_ret, w_cont, w_raise, w_aug, w_augIdx, evAnd, evOr, evO, evC, evT, look, put, puts, tgPut, wipeE, thaw, lk, lks, lkT, lost, lostT, newL, bindTo, ownL, sc_non, sc_bl, sc_int, sc_str, sc_tup, sc_lst, sc_scr, sc_mref, flat_lst, flat_int, flat_tup, flat_bl, flat_non, flat_mref, flat_scr, isL_lst, isL_tup, isL_int, isL_bl, isL_non, isL_scr, isL_mref, isL_str, opt_some, no_bind, tyD, truth, x_lt, x_le, x_gt, x_ge, x_eqI, x_neI, x_eqL, x_neL, x_eqT, x_neT, x_eqS, binD, negD, isD, idxD, q1_lenL, q1_lenT, q1_lenS, q1_sumL, q1_sumT, q1_abs, q1_listL, q1_listT, q1_tupleL, q1_tupleT, q1_intI, q1_intB, q1_all, q1_min, q1_max, items, fin, pure_bind, bind_assoc, optI, sliceD, List.set_cons_succ, List.set_cons_zero, List.getElem?_cons_succ, List.getElem?_cons_zero, List.getElem?_nil, Option.bind_some, Option.map_some, Option.map_none, List.length_map, List.length_cons, List.length_nil, List.map_cons, List.map_nil, List.cons_append, List.nil_append, List.append_nil, List.replicate_succ, List.replicate_zero, Nat.reduceAdd, Nat.reduceSub, Nat.reduceLeDiff, Nat.reduceLT, if_true, if_false, ite_true, ite_false, Bool.or_true, Bool.or_false, Bool.true_or, Bool.false_or, Bool.and_true, Bool.true_and, Bool.and_false, Bool.false_and, Bool.not_true, Bool.not_false, List.all_cons, List.all_nil, Bool.false_eq_true, reduceIte, decide_eq_false k1]; rfl)).trans ?_
        refine (ifT (μ1 := tw L1) (ρ1 := [some (false, .scr), some (false, .mref 0), some (false, .int h), some (false, .int dg), some (false, .int kd), some (true, .lst (iD ((r.set a.toNat (r.getD b.toNat 0)).set b.toNat (r.getD a.toNat 0)))), some (false, .int a), some (false, .int b)]) (μ2 := tw (L1 + 2)) (by simp only [runFn, startE, evSs, evEs, v_non, v_bl, v_int, v_str, v_var, v_glob, v_bin, v_neg, v_not, v_cmp, v_chain, v_isC, v_andL, v_orL, v_ite, v_tup, v_lst, v_idx, v_slice, v_rev, v_call, v_callD, v_callK, v_b1, v_mm, v_isi, v_lrange, v_dget, v_didx, w_assign, w_par, w_unpack, w_append, w_expr, w_ite, w_ret, w_cont, w_raise, w_aug, w_augIdx, evAnd, evOr, evO, evC, evT, look, put, puts, tgPut, wipeE, thaw, lk, lks, lkT, lost, lostT, newL, bindTo, ownL, sc_non, sc_bl, sc_int, sc_str, sc_tup, sc_lst, sc_scr, sc_mref, flat_lst, flat_int, flat_tup, flat_bl, flat_non, flat_mref, flat_scr, isL_lst, isL_tup, isL_int, isL_bl, isL_non, isL_scr, isL_mref, isL_str, opt_some, no_bind, tyD, truth, x_lt, x_le, x_gt, x_ge, x_eqI, x_neI, x_eqL, x_neL, x_eqT, x_neT, x_eqS, binD, negD, isD, idxD, q1_lenL, q1_lenT, q1_lenS, q1_sumL, q1_sumT, q1_abs, q1_listL, q1_listT, q1_tupleL, q1_tupleT, q1_intI, q1_intB, q1_all, q1_min, q1_max, items, fin, pure_bind, bind_assoc, optI, sliceD, List.set_cons_succ, List.set_cons_zero, List.getElem?_cons_succ, List.getElem?_cons_zero, List.getElem?_nil, Option.bind_some, Option.map_some, Option.map_none, List.length_map, List.length_cons, List.length_nil, List.map_cons, List.map_nil, List.cons_append, List.nil_append, List.append_nil, List.replicate_succ, List.replicate_zero, Nat.reduceAdd, Nat.reduceSub, Nat.reduceLeDiff, Nat.reduceLT, if_true, if_false, ite_true, ite_false, Bool.or_true, Bool.or_false, Bool.true_or, Bool.false_or, Bool.and_true, Bool.true_and, Bool.and_false, Bool.false_and, Bool.not_true, Bool.not_false, List.all_cons, List.all_nil, Bool.false_eq_true, reduceIte, k2, decide_true]; rfl) ?_).trans ?_
        · refine (seqR (ρ1 := [some (false, .scr), some (false, .mref 0), some (false, .int h), some (false, .int dg), some (false, .int kd), some (true, .lst (iD r)), some (false, .int a), some (false, .int b)]) (μ1 := tw (L1 + 2)) ?_).trans ?_
          · simp only [runFn, startE, evSs, evEs, v_non, v_bl, v_int, v_str, v_var, v_glob, v_bin, v_neg, v_not, v_cmp, v_chain, v_isC, v_andL, v_orL, v_ite, v_tup, v_lst, v_idx, v_slice, v_rev, v_call, v_callD, v_callK, v_b1, v_mm, v_isi, v_lrange, v_dget, v_didx, w_assign, w_par, w_unpack, w_append, w_expr, w_ite, w_ret, w_cont, w_raise, w_aug, w_augIdx, evAnd, evOr, evO, evC, evT, look, put, puts, tgPut, wipeE, thaw, lk, lks, lkT, lost, lostT, newL, bindTo, ownL, sc_non, sc_bl, sc_int, sc_str, sc_tup, sc_lst, sc_scr, sc_mref, flat_lst, flat_int, flat_tup, flat_bl, flat_non, flat_mref, flat_scr, isL_lst, isL_tup, isL_int, isL_bl, isL_non, isL_scr, isL_mref, isL_str, opt_some, no_bind, tyD, truth, x_lt, x_le, x_gt, x_ge, x_eqI, x_neI, x_eqL, x_neL, x_eqT, x_neT, x_eqS, binD, negD, isD, idxD, q1_lenL, q1_lenT, q1_lenS, q1_sumL, q1_sumT, q1_abs, q1_listL, q1_listT, q1_tupleL, q1_tupleT, q1_intI, q1_intB, q1_all, q1_min, q1_max, items, fin, pure_bind, bind_assoc, optI, sliceD, List.set_cons_succ, List.set_cons_zero, List.getElem?_cons_succ, List.getElem?_cons_zero, List.getElem?_nil, Option.bind_some, Option.map_some, Option.map_none, List.length_map, List.length_cons, List.length_nil, List.map_cons, List.map_nil, List.cons_append, List.nil_append, List.append_nil, List.replicate_succ, List.replicate_zero, Nat.reduceAdd, Nat.reduceSub, Nat.reduceLeDiff, Nat.reduceLT, if_true, if_false, ite_true, ite_false, Bool.or_true, Bool.or_false, Bool.true_or, Bool.false_or, Bool.and_true, Bool.true_and, Bool.and_false, Bool.false_and, Bool.not_true, Bool.not_false, List.all_cons, List.all_nil, Bool.false_eq_true, reduceIte]
            rw [run_bind (e_draw hS (by omega) (by omega)), ha]
            simp only [runFn, startE, evSs, evEs, v_non, v_bl, v_int, v_str, v_var, v_glob, v_bin, v_neg, v_not, v_cmp, v_chain, v_isC, v_andL, v_orL, v_ite, v_tup, v_lst, v_idx, v_slice, v_rev, v_call, v_callD, v_callK, v_b1, v_mm, v_isi, v_lrange, v_dget, v_didx, w_assign, w_par, w_unpack, w_append, w_expr, w_ite, w_ret, w_cont, w_raise, w_aug, w_augIdx, evAnd, evOr, evO, evC, evT, look, put, puts, tgPut, wipeE, thaw, lk, lks, lkT, lost, lostT, newL, bindTo, ownL, sc_non, sc_bl, sc_int, sc_str, sc_tup, sc_lst, sc_scr, sc_mref, flat_lst, flat_int, flat_tup, flat_bl, flat_non, flat_mref, flat_scr, isL_lst, isL_tup, isL_int, isL_bl, isL_non, isL_scr, isL_mref, isL_str, opt_some, no_bind, tyD, truth, x_lt, x_le, x_gt, x_ge, x_eqI, x_neI, x_eqL, x_neL, x_eqT, x_neT, x_eqS, binD, negD, isD, idxD, q1_lenL, q1_lenT, q1_lenS, q1_sumL, q1_sumT, q1_abs, q1_listL, q1_listT, q1_tupleL, q1_tupleT, q1_intI, q1_intB, q1_all, q1_min, q1_max, items, fin, pure_bind, bind_assoc, optI, sliceD, List.set_cons_succ, List.set_cons_zero, List.getElem?_cons_succ, List.getElem?_cons_zero, List.getElem?_nil, Option.bind_some, Option.map_some, Option.map_none, List.length_map, List.length_cons, List.length_nil, List.map_cons, List.map_nil, List.cons_append, List.nil_append, List.append_nil, List.replicate_succ, List.replicate_zero, Nat.reduceAdd, Nat.reduceSub, Nat.reduceLeDiff, Nat.reduceLT, if_true, if_false, ite_true, ite_false, Bool.or_true, Bool.or_false, Bool.true_or, Bool.false_or, Bool.and_true, Bool.true_and, Bool.and_false, Bool.false_and, Bool.not_true, Bool.not_false, List.all_cons, List.all_nil, Bool.false_eq_true, reduceIte]
            rw [run_bind (e_draw hS (by omega) (by omega)), hb]
            rfl
          · refine (seqR ?_).trans nilR
            rw [evS]
            simp only [runFn, startE, evSs, evEs, v_non, v_bl, v_int, v_str, v_var, v_glob, v_bin, v_neg, v_not, v_cmp, v_chain, v_isC, v_andL, v_orL, v_ite, v_tup, v_lst, v_idx, v_slice, v_rev, v_call, v_callD, v_callK, v_b1, v_mm, v_isi, v_lrange, v_dget, v_didx, w_assign, w_par, w_unpack, w_append, w_expr, w_ite, w_ret, w_cont, w_raise, w_aug, w_augIdx, evAnd, evOr, evO, evC, evT, look, put, puts, tgPut, wipeE, thaw, lk, lks, lkT, lost, lostT, newL, bindTo, ownL, sc_non, sc_bl, sc_int, sc_str, sc_tup, sc_lst, sc_scr, sc_mref, flat_lst, flat_int, flat_tup, flat_bl, flat_non, flat_mref, flat_scr, isL_lst, isL_tup, isL_int, isL_bl, isL_non, isL_scr, isL_mref, isL_str, opt_some, no_bind, tyD, truth, x_lt, x_le, x_gt, x_ge, x_eqI, x_neI, x_eqL, x_neL, x_eqT, x_neT, x_eqS, binD, negD, isD, idxD, q1_lenL, q1_lenT, q1_lenS, q1_sumL, q1_sumT, q1_abs, q1_listL, q1_listT, q1_tupleL, q1_tupleT, q1_intI, q1_intB, q1_all, q1_min, q1_max, items, fin, pure_bind, bind_assoc, optI, sliceD, List.set_cons_succ, List.set_cons_zero, List.getElem?_cons_succ, List.getElem?_cons_zero, List.getElem?_nil, Option.bind_some, Option.map_some, Option.map_none, List.length_map, List.length_cons, List.length_nil, List.map_cons, List.map_nil, List.cons_append, List.nil_append, List.append_nil, List.replicate_succ, List.replicate_zero, Nat.reduceAdd, Nat.reduceSub, Nat.reduceLeDiff, Nat.reduceLT, if_true, if_false, ite_true, ite_false, Bool.or_true, Bool.or_false, Bool.true_or, Bool.false_or, Bool.and_true, Bool.true_and, Bool.and_false, Bool.false_and, Bool.not_true, Bool.not_false, List.all_cons, List.all_nil, Bool.false_eq_true, reduceIte, getI (l := r) a1 a2, getI (l := r) b1 b2, setD, ixN_ok (m := r.length) a1 a2, set_iD, List.length_set, ixN_ok (m := r.length) b1 b2]
            rfl
        · exact retR (by simp only [runFn, startE, evSs, evEs, v_non, v_bl, v_int, v_str, v_var, v_glob, v_bin, v_neg, v_not, v_cmp, v_chain, v_isC, v_andL, v_orL, v_ite, v_tup, v_lst, v_idx, v_slice, v_rev, v_call, v_callD, v_callK, v_b1, v_mm, v_isi, v_lrange, v_dget, v_didx, w_assign, w_par, w_unpack, w_append, w_expr, w_ite, w_ret, w_cont, w_raise, w_aug, w_augIdx, evAnd, evOr, evO, evC, evT, look, put, puts, tgPut, wipeE, thaw, lk, lks, lkT, lost, lostT, newL, bindTo, ownL, sc_non, sc_bl, sc_int, sc_str, sc_tup, sc_lst, sc_scr, sc_mref, flat_lst, flat_int, flat_tup, flat_bl, flat_non, flat_mref, flat_scr, isL_lst, isL_tup, isL_int, isL_bl, isL_non, isL_scr, isL_mref, isL_str, opt_some, no_bind, tyD, truth, x_lt, x_le, x_gt, x_ge, x_eqI, x_neI, x_eqL, x_neL, x_eqT, x_neT, x_eqS, binD, negD, isD, idxD, q1_lenL, q1_lenT, q1_lenS, q1_sumL, q1_sumT, q1_abs, q1_listL, q1_listT, q1_tupleL, q1_tupleT, q1_intI, q1_intB, q1_all, q1_min, q1_max, items, fin, pure_bind, bind_assoc, optI, sliceD, List.set_cons_succ, List.set_cons_zero, List.getElem?_cons_succ, List.getElem?_cons_zero, List.getElem?_nil, Option.bind_some, Option.map_some, Option.map_none, List.length_map, List.length_cons, List.length_nil, List.map_cons, List.map_nil, List.cons_append, List.nil_append, List.append_nil, List.replicate_succ, List.replicate_zero, Nat.reduceAdd, Nat.reduceSub, Nat.reduceLeDiff, Nat.reduceLT, if_true, if_false, ite_true, ite_false, Bool.or_true, Bool.or_false, Bool.true_or, Bool.false_or, Bool.and_true, Bool.true_and, Bool.and_false, Bool.false_and, Bool.not_true, Bool.not_false, List.all_cons, List.all_nil, Bool.false_eq_true, reduceIte]; rfl)
      · refine ⟨r, L1, g, by omega, hgo _ _ _ ((ifN (μ1 := tw L1) (by simp only [runFn, startE, evSs, evEs, v_non, v_bl, v_int, v_str, v_var, v_glob, v_bin, v_neg, v_not, v_cmp, v_chain, v_isC, v_andL, v_orL, v_ite, v_tup, v_lst, v_idx, v_slice, v_rev, v_call, v_callD, v_callK, v_b1, v_mm, v_isi, v_lrange, v_dget, v_didx, w_assign, w_par, w_unpack, w_append, w_expr, w_ite, w_ret, w_cont, w_raise, w_aug, w_augIdx, evAnd, evOr, evO, evC, evT, look, put, puts, tgPut, wipeE, thaw, lk, lks, lkT, lost, lostT, newL, bindTo, ownL, sc_non, sc_bl, sc_int, sc_str, sc_tup, sc_lst, sc_scr, sc_mref, flat_lst, flat_int, flat_tup, flat_bl, flat_non, flat_mref, flat_scr, isL_lst, isL_tup, isL_int, isL_bl, isL_non, isL_scr, isL_mref, isL_str, opt_some, no_bind, tyD, truth, x_lt, x_le, x_gt, x_ge, x_eqI, x_neI, x_eqL, x_neL, x_eqT, x_neT, x_eqS, binD, negD, isD, idxD, q1_lenL, q1_lenT, q1_lenS, q1_sumL, q1_sumT, q1_abs, q1_listL, q1_listT, q1_tupleL, q1_tupleT, q1_intI, q1_intB, q1_all, q1_min, q1_max, items, fin, pure_bind, bind_assoc, optI, sliceD, List.set_cons_succ, List.set_cons_zero, List.getElem?_cons_succ, List.getElem?_cons_zero, List.getElem?_nil, Option.bind_some, Option.map_some, Option.map_none, List.length_map, List.length_cons, List.length_nil, List.map_cons, List.map_nil, List.cons_append, List.nil_append, List.append_nil, List.replicate_succ, List.replicate_zero, Nat.reduceAdd, Nat.reduceSub, Nat.reduceLeDiff, Nat.reduceLT, if_true, if_false, ite_true, ite_false, Bool.or_true, Bool.or_false, Bool.true_or, Bool.false_or, Bool.and_true, Bool.true_and, Bool.and_false, Bool.false_and, Bool.not_true, Bool.not_false, List.all_cons, List.all_nil, Bool.false_eq_true, reduceIte, decide_eq_false k1]; rfl)).trans ((ifN (μ1 := tw L1) (by simp only [runFn, startE, evSs, evEs, v_non, v_bl, v_int, v_str, v_var, v_glob, v_bin, v_neg, v_not, v_cmp, v_chain, v_isC, v_andL, v_orL, v_ite, v_tup, v_lst, v_idx, v_slice, v_rev, v_call, v_callD, v_callK, v_b1, v_mm, v_isi, v_lrange, v_dget, v_didx, w_assign, w_par, w_unpack, w_append, w_expr, w_ite, w_ret, w_cont, w_raise, w_aug, w_augIdx, evAnd, evOr, evO, evC, evT, look, put, puts, tgPut, wipeE, thaw, lk, lks, lkT, lost, lostT, newL, bindTo, ownL, sc_non, sc_bl, sc_int, sc_str, sc_tup, sc_lst, sc_scr, sc_mref, flat_lst, flat_int, flat_tup, flat_bl, flat_non, flat_mref, flat_scr, isL_lst, isL_tup, isL_int, isL_bl, isL_non, isL_scr, isL_mref, isL_str, opt_some, no_bind, tyD, truth, x_lt, x_le, x_gt, x_ge, x_eqI, x_neI, x_eqL, x_neL, x_eqT, x_neT, x_eqS, binD, negD, isD, idxD, q1_lenL, q1_lenT, q1_lenS, q1_sumL, q1_sumT, q1_abs, q1_listL, q1_listT, q1_tupleL, q1_tupleT, q1_intI, q1_intB, q1_all, q1_min, q1_max, items, fin, pure_bind, bind_assoc, optI, sliceD, List.set_cons_succ, List.set_cons_zero, List.getElem?_cons_succ, List.getElem?_cons_zero, List.getElem?_nil, Option.bind_some, Option.map_some, Option.map_none, List.length_map, List.length_cons, List.length_nil, List.map_cons, List.map_nil, List.cons_append, List.nil_append, List.append_nil, List.replicate_succ, List.replicate_zero, Nat.reduceAdd, Nat.reduceSub, Nat.reduceLeDiff, Nat.reduceLT, if_true, if_false, ite_true, ite_false, Bool.or_true, Bool.or_false, Bool.true_or, Bool.false_or, Bool.and_true, Bool.true_and, Bool.and_false, Bool.false_and, Bool.not_true, Bool.not_false, List.all_cons, List.all_nil, Bool.false_eq_true, reduceIte, decide_eq_false k2]; rfl)).trans (retR (by simp only [runFn, startE, evSs, evEs, v_non, v_bl, v_int, v_str, v_var, v_glob, v_bin, v_neg, v_not, v_cmp, v_chain, v_isC, v_andL, v_orL, v_ite, v_tup, v_lst, v_idx, v_slice, v_rev, v_call, v_callD, v_callK, v_b1, v_mm, v_isi, v_lrange, v_dget, v_didx, w_assign, w_par, w_unpack, w_append, w_expr, w_ite, w_ret, w_cont, w_raise, w_aug, w_augIdx, evAnd, evOr, evO, evC, evT, look, put, puts, tgPut, wipeE, thaw, lk, lks, lkT, lost, lostT, newL, bindTo, ownL, sc_non, sc_bl, sc_int, sc_str, sc_tup, sc_lst, sc_scr, sc_mref, flat_lst, flat_int, flat_tup, flat_bl, flat_non, flat_mref, flat_scr, isL_lst, isL_tup, isL_int, isL_bl, isL_non, isL_scr, isL_mref, isL_str, opt_some, no_bind, tyD, truth, x_lt, x_le, x_gt, x_ge, x_eqI, x_neI, x_eqL, x_neL, x_eqT, x_neT, x_eqS, binD, negD, isD, idxD, q1_lenL, q1_lenT, q1_lenS, q1_sumL, q1_sumT, q1_abs, q1_listL, q1_listT, q1_tupleL, q1_tupleT, q1_intI, q1_intB, q1_all, q1_min, q1_max, items, fin, pure_bind, bind_assoc, optI, sliceD, List.set_cons_succ, List.set_cons_zero, List.getElem?_cons_succ, List.getElem?_cons_zero, List.getElem?_nil, Option.bind_some, Option.map_some, Option.map_none, List.length_map, List.length_cons, List.length_nil, List.map_cons, List.map_nil, List.cons_append, List.nil_append, List.append_nil, List.replicate_succ, List.replicate_zero, Nat.reduceAdd, Nat.reduceSub, Nat.reduceLeDiff, Nat.reduceLT, if_true, if_false, ite_true, ite_false, Bool.or_true, Bool.or_false, Bool.true_or, Bool.false_or, Bool.and_true, Bool.true_and, Bool.and_false, Bool.false_and, Bool.not_true, Bool.not_false, List.all_cons, List.all_nil, Bool.false_eq_true, reduceIte]; rfl))))⟩
end
end Ev

set_option Elab.async false
set_option linter.all false
set_option maxRecDepth 100000
set_option maxHeartbeats 1000000
namespace Ev
/-! ### partial sums -/
def psum : Int → List Int → List Int
  | _, [] => []
  | a, x :: r => (a + x) :: psum (a + x) r
def sumN : Nat → List Int → List Int
  | 0, l => l
  | n + 1, l => psum 0 (sumN n l)
theorem psum_len : ∀ (a : Int) (l : List Int), (psum a l).length = l.length
  | _, [] => rfl
  | a, x :: r => congrArg Nat.succ (psum_len (a + x) r)
theorem sumN_len (n : Nat) (l : List Int) : (sumN n l).length = l.length := by
  induction n with
  | zero => rfl
  | succ n ih => rw [sumN, psum_len, ih]
theorem psum_snoc : ∀ (a : Int) (l : List Int) (x : Int), psum a (l ++ [x]) = psum a l ++ [a + l.sum + x]
  | a, [], x => by simp [psum]
  | a, y :: r, x => by
    rw [List.cons_append, psum, psum_snoc (a + y) r x, psum, List.sum_cons, List.cons_append, show a + (y + r.sum) + x = a + y + r.sum + x by omega]
theorem psum_get : ∀ (a : Int) (l : List Int) (i : Nat), i < l.length → (psum a l)[i]? = some (a + (l.take (i + 1)).sum)
  | a, [], i, h => by simp at h
  | a, x :: r, 0, _ => by simp [psum]
  | a, x :: r, i + 1, h => by
    rw [psum, List.getElem?_cons_succ, psum_get (a + x) r i (by simpa using h), List.take_succ_cons, List.sum_cons, Int.add_assoc]
theorem psum_range (l : List Int) : ((List.range l.length).map fun i => (l.take (i + 1)).sum) = psum 0 l := by
  refine List.ext_getElem (by rw [List.length_map, List.length_range, psum_len]) fun i h1 h2 => ?_
  rw [psum_len] at h2
  have := psum_get 0 l i h2
  rw [List.getElem?_eq_getElem (by rw [psum_len]; exact h2), Int.zero_add] at this
  rw [List.getElem_map, List.getElem_range]
  exact (Option.some.inj this).symm
section
variable {S : List Int} {n : Nat}
theorem e_summed {l : List Int} (hl : l.length ≤ 100000) : callN tbl S (n + 1) 28 [.lst (iD l)] = pure (.lst (iD (psum 0 l))) := by
  rw [c_summed]
  obtain ⟨u, hn, hu⟩ : ∃ u : List Int → Option (Bool × D), u [] = none ∧ ∀ ps x, u (ps ++ [x]) = some (false, .int x) := ⟨fun ps => ps.getLast?.map fun p => (false, .int p), rfl, by simp⟩
  have hf := forM_next (step := fun d ρ => M.opt (tgPut ρ (.one 3) d) >>= fun ρ1 => evSs S (callN tbl S n) (.cons (.aug 2 (.var 3)) (.cons (.append 1 (.var 2)) .nil)) ρ1) D.int
    (fun ps => [some (false, .lst (iD l)), some (true, .lst (iD (psum 0 ps))), some (false, .int ps.sum), u ps]) (xs := l) fun ps x rs e => by
    have hps : ps.length < 1000000 := by
      have := congrArg List.length e
      simp at this
      omega
    have e1 : (ps ++ [x]).sum = ps.sum + x := by simp
    rw [hu, e1, psum_snoc, ← app_iD, Int.zero_add]
    generalize hq : ps.sum = q
    have hz : (iD (psum 0 ps)).length < 1000000 := by rw [List.length_map, psum_len]; exact hps
    generalize iD (psum 0 ps) = m at hz
    simp only [runFn, startE, evSs, evEs, v_non, v_bl, v_int, v_str, v_var, v_glob, v_bin, v_neg, v_not, v_cmp, v_chain, v_isC, v_andL, v_orL, v_ite, v_tup, v_lst, v_idx, v_slice, v_rev, v_call, v_callD, v_callK, v_b1, v_mm, v_isi, v_lrange, v_dget, v_didx, w_assign, w_par, w_unpack, w_append, w_expr, w_ite, w_ret, w_cont, w_raise, w_aug, w_augIdx, evAnd, evOr, evO, evC, evT, look, put, puts, tgPut, wipeE, thaw, lk, lks, lkT, lost, lostT, newL, bindTo, ownL, sc_non, sc_bl, sc_int, sc_str, sc_tup, sc_lst, sc_scr, sc_mref, flat_lst, flat_int, flat_tup, flat_bl, flat_non, flat_mref, flat_scr, isL_lst, isL_tup, isL_int, isL_bl, isL_non, isL_scr, isL_mref, isL_str, opt_some, no_bind, tyD, truth, x_lt, x_le, x_gt, x_ge, x_eqI, x_neI, x_eqL, x_neL, x_eqT, x_neT, x_eqS, binD, negD, isD, idxD, q1_lenL, q1_lenT, q1_lenS, q1_sumL, q1_sumT, q1_abs, q1_listL, q1_listT, q1_tupleL, q1_tupleT, q1_intI, q1_intB, q1_all, q1_min, q1_max, items, fin, pure_bind, bind_assoc, optI, sliceD, List.set_cons_succ, List.set_cons_zero, List.getElem?_cons_succ, List.getElem?_cons_zero, List.getElem?_nil, Option.bind_some, Option.map_some, Option.map_none, List.length_map, List.length_cons, List.length_nil, List.map_cons, List.map_nil, List.cons_append, List.nil_append, List.append_nil, List.replicate_succ, List.replicate_zero, Nat.reduceAdd, Nat.reduceSub, Nat.reduceLeDiff, Nat.reduceLT, if_true, if_false, ite_true, ite_false, Bool.or_true, Bool.or_false, Bool.true_or, Bool.false_or, Bool.and_true, Bool.true_and, Bool.and_false, Bool.false_and, Bool.not_true, Bool.not_false, List.all_cons, List.all_nil, Bool.false_eq_true, reduceIte, put, tgPut, appTo]
    rw [if_pos ⟨by simp, hz⟩]
    simp only [runFn, startE, evSs, evEs, v_non, v_bl, v_int, v_str, v_var, v_glob, v_bin, v_neg, v_not, v_cmp, v_chain, v_isC, v_andL, v_orL, v_ite, v_tup, v_lst, v_idx, v_slice, v_rev, v_call, v_callD, v_callK, v_b1, v_mm, v_isi, v_lrange, v_dget, v_didx, w_assign, w_par, w_unpack, w_append, w_expr, w_ite, w_ret, w_cont, w_raise, w_aug, w_augIdx, evAnd, evOr, evO, evC, evT, look, put, puts, tgPut, wipeE, thaw, lk, lks, lkT, lost, lostT, newL, bindTo, ownL, sc_non, sc_bl, sc_int, sc_str, sc_tup, sc_lst, sc_scr, sc_mref, flat_lst, flat_int, flat_tup, flat_bl, flat_non, flat_mref, flat_scr, isL_lst, isL_tup, isL_int, isL_bl, isL_non, isL_scr, isL_mref, isL_str, opt_some, no_bind, tyD, truth, x_lt, x_le, x_gt, x_ge, x_eqI, x_neI, x_eqL, x_neL, x_eqT, x_neT, x_eqS, binD, negD, isD, idxD, q1_lenL, q1_lenT, q1_lenS, q1_sumL, q1_sumT, q1_abs, q1_listL, q1_listT, q1_tupleL, q1_tupleT, q1_intI, q1_intB, q1_all, q1_min, q1_max, items, fin, pure_bind, bind_assoc, optI, sliceD, List.set_cons_succ, List.set_cons_zero, List.getElem?_cons_succ, List.getElem?_cons_zero, List.getElem?_nil, Option.bind_some, Option.map_some, Option.map_none, List.length_map, List.length_cons, List.length_nil, List.map_cons, List.map_nil, List.cons_append, List.nil_append, List.append_nil, List.replicate_succ, List.replicate_zero, Nat.reduceAdd, Nat.reduceSub, Nat.reduceLeDiff, Nat.reduceLT, if_true, if_false, ite_true, ite_false, Bool.or_true, Bool.or_false, Bool.true_or, Bool.false_or, Bool.and_true, Bool.true_and, Bool.and_false, Bool.false_and, Bool.not_true, Bool.not_false, List.all_cons, List.all_nil, Bool.false_eq_true, reduceIte]
  rw [hn] at hf
  simp only [fn_summed, runFn, startE, evSs, evEs, v_non, v_bl, v_int, v_str, v_var, v_glob, v_bin, v_neg, v_not, v_cmp, v_chain, v_isC, v_andL, v_orL, v_ite, v_tup, v_lst, v_idx, v_slice, v_rev, v_call, v_callD, v_callK, v_b1, v_mm, v_isi, v_lrange, v_dget, v_didx, w_assign, w_par, w_unpack, w_append, w_expr, w_ite, w_ret, w_cont, w_raise, w_aug, w_augIdx, evAnd, evOr, evO, evC, evT, look, put, puts, tgPut, wipeE, thaw, lk, lks, lkT, lost, lostT, newL, bindTo, ownL, sc_non, sc_bl, sc_int, sc_str, sc_tup, sc_lst, sc_scr, sc_mref, flat_lst, flat_int, flat_tup, flat_bl, flat_non, flat_mref, flat_scr, isL_lst, isL_tup, isL_int, isL_bl, isL_non, isL_scr, isL_mref, isL_str, opt_some, no_bind, tyD, truth, x_lt, x_le, x_gt, x_ge, x_eqI, x_neI, x_eqL, x_neL, x_eqT, x_neT, x_eqS, binD, negD, isD, idxD, q1_lenL, q1_lenT, q1_lenS, q1_sumL, q1_sumT, q1_abs, q1_listL, q1_listT, q1_tupleL, q1_tupleT, q1_intI, q1_intB, q1_all, q1_min, q1_max, items, fin, pure_bind, bind_assoc, optI, sliceD, List.set_cons_succ, List.set_cons_zero, List.getElem?_cons_succ, List.getElem?_cons_zero, List.getElem?_nil, Option.bind_some, Option.map_some, Option.map_none, List.length_map, List.length_cons, List.length_nil, List.map_cons, List.map_nil, List.cons_append, List.nil_append, List.append_nil, List.replicate_succ, List.replicate_zero, Nat.reduceAdd, Nat.reduceSub, Nat.reduceLeDiff, Nat.reduceLT, if_true, if_false, ite_true, ite_false, Bool.or_true, Bool.or_false, Bool.true_or, Bool.false_or, Bool.and_true, Bool.true_and, Bool.and_false, Bool.false_and, Bool.not_true, Bool.not_false, List.all_cons, List.all_nil, Bool.false_eq_true, reduceIte, Nat.zero_le]
  rw [w_for (ds := iD l) (by simp only [runFn, startE, evSs, evEs, v_non, v_bl, v_int, v_str, v_var, v_glob, v_bin, v_neg, v_not, v_cmp, v_chain, v_isC, v_andL, v_orL, v_ite, v_tup, v_lst, v_idx, v_slice, v_rev, v_call, v_callD, v_callK, v_b1, v_mm, v_isi, v_lrange, v_dget, v_didx, w_assign, w_par, w_unpack, w_append, w_expr, w_ite, w_ret, w_cont, w_raise, w_aug, w_augIdx, evAnd, evOr, evO, evC, evT, look, put, puts, tgPut, wipeE, thaw, lk, lks, lkT, lost, lostT, newL, bindTo, ownL, sc_non, sc_bl, sc_int, sc_str, sc_tup, sc_lst, sc_scr, sc_mref, flat_lst, flat_int, flat_tup, flat_bl, flat_non, flat_mref, flat_scr, isL_lst, isL_tup, isL_int, isL_bl, isL_non, isL_scr, isL_mref, isL_str, opt_some, no_bind, tyD, truth, x_lt, x_le, x_gt, x_ge, x_eqI, x_neI, x_eqL, x_neL, x_eqT, x_neT, x_eqS, binD, negD, isD, idxD, q1_lenL, q1_lenT, q1_lenS, q1_sumL, q1_sumT, q1_abs, q1_listL, q1_listT, q1_tupleL, q1_tupleT, q1_intI, q1_intB, q1_all, q1_min, q1_max, items, fin, pure_bind, bind_assoc, optI, sliceD, List.set_cons_succ, List.set_cons_zero, List.getElem?_cons_succ, List.getElem?_cons_zero, List.getElem?_nil, Option.bind_some, Option.map_some, Option.map_none, List.length_map, List.length_cons, List.length_nil, List.map_cons, List.map_nil, List.cons_append, List.nil_append, List.append_nil, List.replicate_succ, List.replicate_zero, Nat.reduceAdd, Nat.reduceSub, Nat.reduceLeDiff, Nat.reduceLT, if_true, if_false, ite_true, ite_false, Bool.or_true, Bool.or_false, Bool.true_or, Bool.false_or, Bool.and_true, Bool.true_and, Bool.and_false, Bool.false_and, Bool.not_true, Bool.not_false, List.all_cons, List.all_nil, Bool.false_eq_true, reduceIte])]
  simp only [lostT, thaw, lkT, lk, newL, List.set_cons_succ, List.set_cons_zero, List.getElem?_cons_succ, List.getElem?_cons_zero, List.getElem?_nil, Option.bind_some, Option.map_some, Option.map_none, List.length_map, List.length_cons, List.length_nil, List.map_cons, List.map_nil, List.cons_append, List.nil_append, List.append_nil, List.replicate_succ, List.replicate_zero, Nat.reduceAdd, Nat.reduceSub, Nat.reduceLeDiff, Nat.reduceLT, if_true, if_false, ite_true, ite_false, Bool.or_true, Bool.or_false, Bool.true_or, Bool.false_or, Bool.and_true, Bool.true_and, Bool.and_false, Bool.false_and, Bool.not_true, Bool.not_false, List.all_cons, List.all_nil, Bool.false_eq_true, reduceIte]
  have h0 : iD (psum 0 []) = [] := rfl
  have h1 : ([] : List Int).sum = 0 := rfl
  rw [h0, h1] at hf
  rw [hf]
  simp only [runFn, startE, evSs, evEs, v_non, v_bl, v_int, v_str, v_var, v_glob, v_bin, v_neg, v_not, v_cmp, v_chain, v_isC, v_andL, v_orL, v_ite, v_tup, v_lst, v_idx, v_slice, v_rev, v_call, v_callD, v_callK, v_b1, v_mm, v_isi, v_lrange, v_dget, v_didx, w_assign, w_par, w_unpack, w_append, w_expr, w_ite, w_ret, w_cont, w_raise, w_aug, w_augIdx, evAnd, evOr, evO, evC, evT, look, put, puts, tgPut, wipeE, thaw, lk, lks, lkT, lost, lostT, newL, bindTo, ownL, sc_non, sc_bl, sc_int, sc_str, sc_tup, sc_lst, sc_scr, sc_mref, flat_lst, flat_int, flat_tup, flat_bl, flat_non, flat_mref, flat_scr, isL_lst, isL_tup, isL_int, isL_bl, isL_non, isL_scr, isL_mref, isL_str, opt_some, no_bind, tyD, truth, x_lt, x_le, x_gt, x_ge, x_eqI, x_neI, x_eqL, x_neL, x_eqT, x_neT, x_eqS, binD, negD, isD, idxD, q1_lenL, q1_lenT, q1_lenS, q1_sumL, q1_sumT, q1_abs, q1_listL, q1_listT, q1_tupleL, q1_tupleT, q1_intI, q1_intB, q1_all, q1_min, q1_max, items, fin, pure_bind, bind_assoc, optI, sliceD, List.set_cons_succ, List.set_cons_zero, List.getElem?_cons_succ, List.getElem?_cons_zero, List.getElem?_nil, Option.bind_some, Option.map_some, Option.map_none, List.length_map, List.length_cons, List.length_nil, List.map_cons, List.map_nil, List.cons_append, List.nil_append, List.append_nil, List.replicate_succ, List.replicate_zero, Nat.reduceAdd, Nat.reduceSub, Nat.reduceLeDiff, Nat.reduceLT, if_true, if_false, ite_true, ite_false, Bool.or_true, Bool.or_false, Bool.true_or, Bool.false_or, Bool.and_true, Bool.true_and, Bool.and_false, Bool.false_and, Bool.not_true, Bool.not_false, List.all_cons, List.all_nil, Bool.false_eq_true, reduceIte]
theorem e_sums_of {r : List Int} {a b k : Int} (hr : r.length ≤ 1000) (k0 : 0 ≤ k) (k1 : k ≤ 1000) : callN tbl S (n + 2) 29 [.tup (iD r), .int a, .int b, .int k] = pure (.lst (iD (sumN k.toNat (r.map (sgn a b))))) := by
  rw [c_sums_of]
  obtain ⟨u, hn, hu⟩ : ∃ u : List Nat → Option (Bool × D), u [] = none ∧ ∀ ps x, u (ps ++ [x]) = some (false, .int (0 + (x : Nat))) := ⟨fun ps => ps.getLast?.map fun p => (false, .int (0 + (p : Nat))), rfl, by simp⟩
  have hf := forM_next (step := fun d ρ => M.opt (tgPut ρ (.one 5) d) >>= fun ρ1 => evSs S (callN tbl S (n + 1)) (.cons (.assign 4 (.call 28 (.cons (.var 4) .nil))) .nil) ρ1) (fun k : Nat => D.int (0 + (k : Nat)))
    (fun ps => [some (false, .tup (iD r)), some (false, .int a), some (false, .int b), some (false, .int k), some (false, .lst (iD (sumN ps.length (r.map (sgn a b))))), u ps]) (xs := List.range k.toNat) fun ps x rs e => by
    have hl : (ps ++ [x]).length = ps.length + 1 := by simp
    rw [hu, hl, sumN]
    have hm : (sumN ps.length (r.map (sgn a b))).length ≤ 1000 := by rw [sumN_len, List.length_map]; exact hr
    generalize sumN ps.length (r.map (sgn a b)) = m at hm
    simp only [runFn, startE, evSs, evEs, v_non, v_bl, v_int, v_str, v_var, v_glob, v_bin, v_neg, v_not, v_cmp, v_chain, v_isC, v_andL, v_orL, v_ite, v_tup, v_lst, v_idx, v_slice, v_rev, v_call, v_callD, v_callK, v_b1, v_mm, v_isi, v_lrange, v_dget, v_didx, w_assign, w_par, w_unpack, w_append, w_expr, w_ite, w_ret, w_cont, w_raise, w_aug, w_augIdx, evAnd, evOr, evO, evC, evT, look, put, puts, tgPut, wipeE, thaw, lk, lks, lkT, lost, lostT, newL, bindTo, ownL, sc_non, sc_bl, sc_int, sc_str, sc_tup, sc_lst, sc_scr, sc_mref, flat_lst, flat_int, flat_tup, flat_bl, flat_non, flat_mref, flat_scr, isL_lst, isL_tup, isL_int, isL_bl, isL_non, isL_scr, isL_mref, isL_str, opt_some, no_bind, tyD, truth, x_lt, x_le, x_gt, x_ge, x_eqI, x_neI, x_eqL, x_neL, x_eqT, x_neT, x_eqS, binD, negD, isD, idxD, q1_lenL, q1_lenT, q1_lenS, q1_sumL, q1_sumT, q1_abs, q1_listL, q1_listT, q1_tupleL, q1_tupleT, q1_intI, q1_intB, q1_all, q1_min, q1_max, items, fin, pure_bind, bind_assoc, optI, sliceD, List.set_cons_succ, List.set_cons_zero, List.getElem?_cons_succ, List.getElem?_cons_zero, List.getElem?_nil, Option.bind_some, Option.map_some, Option.map_none, List.length_map, List.length_cons, List.length_nil, List.map_cons, List.map_nil, List.cons_append, List.nil_append, List.append_nil, List.replicate_succ, List.replicate_zero, Nat.reduceAdd, Nat.reduceSub, Nat.reduceLeDiff, Nat.reduceLT, if_true, if_false, ite_true, ite_false, Bool.or_true, Bool.or_false, Bool.true_or, Bool.false_or, Bool.and_true, Bool.true_and, Bool.and_false, Bool.false_and, Bool.not_true, Bool.not_false, List.all_cons, List.all_nil, Bool.false_eq_true, reduceIte, e_summed (show m.length ≤ 100000 by omega), sc_ints]
  rw [hn] at hf
  have h0 : sumN ([] : List Nat).length (r.map (sgn a b)) = r.map (sgn a b) := rfl
  rw [h0, List.length_range] at hf
  simp only [fn_sums_of, runFn, startE, evSs, evEs, v_non, v_bl, v_int, v_str, v_var, v_glob, v_bin, v_neg, v_not, v_cmp, v_chain, v_isC, v_andL, v_orL, v_ite, v_tup, v_lst, v_idx, v_slice, v_rev, v_call, v_callD, v_callK, v_b1, v_mm, v_isi, v_lrange, v_dget, v_didx, w_assign, w_par, w_unpack, w_append, w_expr, w_ite, w_ret, w_cont, w_raise, w_aug, w_augIdx, evAnd, evOr, evO, evC, evT, look, put, puts, tgPut, wipeE, thaw, lk, lks, lkT, lost, lostT, newL, bindTo, ownL, sc_non, sc_bl, sc_int, sc_str, sc_tup, sc_lst, sc_scr, sc_mref, flat_lst, flat_int, flat_tup, flat_bl, flat_non, flat_mref, flat_scr, isL_lst, isL_tup, isL_int, isL_bl, isL_non, isL_scr, isL_mref, isL_str, opt_some, no_bind, tyD, truth, x_lt, x_le, x_gt, x_ge, x_eqI, x_neI, x_eqL, x_neL, x_eqT, x_neT, x_eqS, binD, negD, isD, idxD, q1_lenL, q1_lenT, q1_lenS, q1_sumL, q1_sumT, q1_abs, q1_listL, q1_listT, q1_tupleL, q1_tupleT, q1_intI, q1_intB, q1_all, q1_min, q1_max, items, fin, pure_bind, bind_assoc, optI, sliceD, List.set_cons_succ, List.set_cons_zero, List.getElem?_cons_succ, List.getElem?_cons_zero, List.getElem?_nil, Option.bind_some, Option.map_some, Option.map_none, List.length_map, List.length_cons, List.length_nil, List.map_cons, List.map_nil, List.cons_append, List.nil_append, List.append_nil, List.replicate_succ, List.replicate_zero, Nat.reduceAdd, Nat.reduceSub, Nat.reduceLeDiff, Nat.reduceLT, if_true, if_false, ite_true, ite_false, Bool.or_true, Bool.or_false, Bool.true_or, Bool.false_or, Bool.and_true, Bool.true_and, Bool.and_false, Bool.false_and, Bool.not_true, Bool.not_false, List.all_cons, List.all_nil, Bool.false_eq_true, reduceIte, e_signs_of hr]
  rw [w_for (ds := (List.range k.toNat).map fun i => D.int (0 + (i : Nat))) (e_rngP (h := k) (by simp only [runFn, startE, evSs, evEs, v_non, v_bl, v_int, v_str, v_var, v_glob, v_bin, v_neg, v_not, v_cmp, v_chain, v_isC, v_andL, v_orL, v_ite, v_tup, v_lst, v_idx, v_slice, v_rev, v_call, v_callD, v_callK, v_b1, v_mm, v_isi, v_lrange, v_dget, v_didx, w_assign, w_par, w_unpack, w_append, w_expr, w_ite, w_ret, w_cont, w_raise, w_aug, w_augIdx, evAnd, evOr, evO, evC, evT, look, put, puts, tgPut, wipeE, thaw, lk, lks, lkT, lost, lostT, newL, bindTo, ownL, sc_non, sc_bl, sc_int, sc_str, sc_tup, sc_lst, sc_scr, sc_mref, flat_lst, flat_int, flat_tup, flat_bl, flat_non, flat_mref, flat_scr, isL_lst, isL_tup, isL_int, isL_bl, isL_non, isL_scr, isL_mref, isL_str, opt_some, no_bind, tyD, truth, x_lt, x_le, x_gt, x_ge, x_eqI, x_neI, x_eqL, x_neL, x_eqT, x_neT, x_eqS, binD, negD, isD, idxD, q1_lenL, q1_lenT, q1_lenS, q1_sumL, q1_sumT, q1_abs, q1_listL, q1_listT, q1_tupleL, q1_tupleT, q1_intI, q1_intB, q1_all, q1_min, q1_max, items, fin, pure_bind, bind_assoc, optI, sliceD, List.set_cons_succ, List.set_cons_zero, List.getElem?_cons_succ, List.getElem?_cons_zero, List.getElem?_nil, Option.bind_some, Option.map_some, Option.map_none, List.length_map, List.length_cons, List.length_nil, List.map_cons, List.map_nil, List.cons_append, List.nil_append, List.append_nil, List.replicate_succ, List.replicate_zero, Nat.reduceAdd, Nat.reduceSub, Nat.reduceLeDiff, Nat.reduceLT, if_true, if_false, ite_true, ite_false, Bool.or_true, Bool.or_false, Bool.true_or, Bool.false_or, Bool.and_true, Bool.true_and, Bool.and_false, Bool.false_and, Bool.not_true, Bool.not_false, List.all_cons, List.all_nil, Bool.false_eq_true, reduceIte]) k0 (by omega))]
  simp only [lostT, thaw, lkT, lk, newL, List.set_cons_succ, List.set_cons_zero, List.getElem?_cons_succ, List.getElem?_cons_zero, List.getElem?_nil, Option.bind_some, Option.map_some, Option.map_none, List.length_map, List.length_cons, List.length_nil, List.map_cons, List.map_nil, List.cons_append, List.nil_append, List.append_nil, List.replicate_succ, List.replicate_zero, Nat.reduceAdd, Nat.reduceSub, Nat.reduceLeDiff, Nat.reduceLT, if_true, if_false, ite_true, ite_false, Bool.or_true, Bool.or_false, Bool.true_or, Bool.false_or, Bool.and_true, Bool.true_and, Bool.and_false, Bool.false_and, Bool.not_true, Bool.not_false, List.all_cons, List.all_nil, Bool.false_eq_true, reduceIte]
  rw [hf]
  simp only [runFn, startE, evSs, evEs, v_non, v_bl, v_int, v_str, v_var, v_glob, v_bin, v_neg, v_not, v_cmp, v_chain, v_isC, v_andL, v_orL, v_ite, v_tup, v_lst, v_idx, v_slice, v_rev, v_call, v_callD, v_callK, v_b1, v_mm, v_isi, v_lrange, v_dget, v_didx, w_assign, w_par, w_unpack, w_append, w_expr, w_ite, w_ret, w_cont, w_raise, w_aug, w_augIdx, evAnd, evOr, evO, evC, evT, look, put, puts, tgPut, wipeE, thaw, lk, lks, lkT, lost, lostT, newL, bindTo, ownL, sc_non, sc_bl, sc_int, sc_str, sc_tup, sc_lst, sc_scr, sc_mref, flat_lst, flat_int, flat_tup, flat_bl, flat_non, flat_mref, flat_scr, isL_lst, isL_tup, isL_int, isL_bl, isL_non, isL_scr, isL_mref, isL_str, opt_some, no_bind, tyD, truth, x_lt, x_le, x_gt, x_ge, x_eqI, x_neI, x_eqL, x_neL, x_eqT, x_neT, x_eqS, binD, negD, isD, idxD, q1_lenL, q1_lenT, q1_lenS, q1_sumL, q1_sumT, q1_abs, q1_listL, q1_listT, q1_tupleL, q1_tupleT, q1_intI, q1_intB, q1_all, q1_min, q1_max, items, fin, pure_bind, bind_assoc, optI, sliceD, List.set_cons_succ, List.set_cons_zero, List.getElem?_cons_succ, List.getElem?_cons_zero, List.getElem?_nil, Option.bind_some, Option.map_some, Option.map_none, List.length_map, List.length_cons, List.length_nil, List.map_cons, List.map_nil, List.cons_append, List.nil_append, List.append_nil, List.replicate_succ, List.replicate_zero, Nat.reduceAdd, Nat.reduceSub, Nat.reduceLeDiff, Nat.reduceLT, if_true, if_false, ite_true, ite_false, Bool.or_true, Bool.or_false, Bool.true_or, Bool.false_or, Bool.and_true, Bool.true_and, Bool.and_false, Bool.false_and, Bool.not_true, Bool.not_false, List.all_cons, List.all_nil, Bool.false_eq_true, reduceIte]
theorem e_sums {h a b k : Int} {r : List Int} (h1 : 2 ≤ h) (h2 : h ≤ 4) (g : Row h r) (a1 : 0 ≤ a) (a2 : a < h) (b1 : 0 ≤ b) (b2 : b < h) (ab : a ≠ b) (k0 : 0 ≤ k) (k1 : k ≤ 9) : callN tbl S (n + 5) 44 [.int h, .tup (iD r), .int a, .int b, .int k] = pure (.lst (iD (sumN k.toNat (r.map (sgn a b))))) := by
  rw [c_sums]
  simp only [fn_sums, runFn, startE, evSs, evEs, v_non, v_bl, v_int, v_str, v_var, v_glob, v_bin, v_neg, v_not, v_cmp, v_chain, v_isC, v_andL, v_orL, v_ite, v_tup, v_lst, v_idx, v_slice, v_rev, v_call, v_callD, v_callK, v_b1, v_mm, v_isi, v_lrange, v_dget, v_didx, w_assign, w_par, w_unpack, w_append, w_expr, w_ite, w_ret, w_cont, w_raise, w_aug, w_augIdx, evAnd, evOr, evO, evC, evT, look, put, puts, tgPut, wipeE, thaw, lk, lks, lkT, lost, lostT, newL, bindTo, ownL, sc_non, sc_bl, sc_int, sc_str, sc_tup, sc_lst, sc_scr, sc_mref, flat_lst, flat_int, flat_tup, flat_bl, flat_non, flat_mref, flat_scr, isL_lst, isL_tup, isL_int, isL_bl, isL_non, isL_scr, isL_mref, isL_str, opt_some, no_bind, tyD, truth, x_lt, x_le, x_gt, x_ge, x_eqI, x_neI, x_eqL, x_neL, x_eqT, x_neT, x_eqS, binD, negD, isD, idxD, q1_lenL, q1_lenT, q1_lenS, q1_sumL, q1_sumT, q1_abs, q1_listL, q1_listT, q1_tupleL, q1_tupleT, q1_intI, q1_intB, q1_all, q1_min, q1_max, items, fin, pure_bind, bind_assoc, optI, sliceD, List.set_cons_succ, List.set_cons_zero, List.getElem?_cons_succ, List.getElem?_cons_zero, List.getElem?_nil, Option.bind_some, Option.map_some, Option.map_none, List.length_map, List.length_cons, List.length_nil, List.map_cons, List.map_nil, List.cons_append, List.nil_append, List.append_nil, List.replicate_succ, List.replicate_zero, Nat.reduceAdd, Nat.reduceSub, Nat.reduceLeDiff, Nat.reduceLT, if_true, if_false, ite_true, ite_false, Bool.or_true, Bool.or_false, Bool.true_or, Bool.false_or, Bool.and_true, Bool.true_and, Bool.and_false, Bool.false_and, Bool.not_true, Bool.not_false, List.all_cons, List.all_nil, Bool.false_eq_true, reduceIte, e_need_two h1 h2 g a1 a2 b1 b2 ab, e_is_whole, decide_eq_true k0, decide_eq_true k1, e_sums_of (show r.length ≤ 1000 from Nat.le_trans g.2.1 (by decide)) k0 (show k ≤ 1000 by omega)]
theorem cut_to {xs : List D} {k : Nat} (h : k ≤ xs.length) : cutD xs none (some (k : Int)) = xs.take k := by
  unfold cutD
  rw [HT.sIx_none, show HT.sIx xs.length xs.length (some (k : Int)) = min k xs.length from HT.sIx_nat xs.length xs.length k, Nat.min_eq_left h]
  rfl
theorem take_iD (l : List Int) (k : Nat) : (iD l).take k = iD (l.take k) := by
  show (List.map D.int l).take k = List.map D.int (l.take k)
  rw [List.map_take]
theorem e_sums_so {l : List Int} {k : Int} (hr : l.length ≤ 1000) (k0 : 0 ≤ k) (k1 : k ≤ 1000) : callN tbl S (n + 1) 43 [.lst (iD l), .int k] = pure (.lst (iD (sumN k.toNat l))) := by
  rw [c_law_sums_so]
  obtain ⟨u, hn, hu⟩ : ∃ u : List Nat → Option (Bool × D), u [] = none ∧ ∀ ps x, u (ps ++ [x]) = some (false, .int (0 + (x : Nat))) := ⟨fun ps => ps.getLast?.map fun p => (false, .int (0 + (p : Nat))), rfl, by simp⟩
  have hf := forM_next (step := fun d ρ => M.opt (tgPut ρ (.one 3) d) >>= fun ρ1 => evSs S (callN tbl S n) (.cons (.assign 2 (.comp [4] (.one 4) (.rng1 (.b1 .len (.var 2))) .none (.b1 .sum (.slice (.var 2) .none (.some (.bin .add (.var 4) (.int 1))))))) .nil) ρ1) (fun k : Nat => D.int (0 + (k : Nat)))
    (fun ps => [some (false, .lst (iD l)), some (false, .int k), some (true, .lst (iD (sumN ps.length l))), u ps, none]) (xs := List.range k.toNat) fun ps x rs e => by
    have hl : (ps ++ [x]).length = ps.length + 1 := by simp
    rw [hu, hl, sumN]
    have hm : (sumN ps.length l).length ≤ 1000 := by rw [sumN_len]; exact hr
    generalize sumN ps.length l = m at hm
    have hc := evComp (S := S) (c := callN tbl S n) (vs := [4]) (tg := .one 4) (it := .rng1 (.b1 .len (.var 2))) (elt := .b1 .sum (.slice (.var 2) .none (.some (.bin .add (.var 4) (.int 1))))) (ρ := [some (false, .lst (iD l)), some (false, .int k), some (true, .lst (iD m)), some (false, .int (0 + (x : Nat))), none])
      (fun i : Nat => D.int (0 + (i : Nat))) (fun i => D.int (m.take (i + 1)).sum) (xs := List.range m.length) (by
        rw [e_rngP (h := (m.length : Int)) (by simp only [runFn, startE, evSs, evEs, v_non, v_bl, v_int, v_str, v_var, v_glob, v_bin, v_neg, v_not, v_cmp, v_chain, v_isC, v_andL, v_orL, v_ite, v_tup, v_lst, v_idx, v_slice, v_rev, v_call, v_callD, v_callK, v_b1, v_mm, v_isi, v_lrange, v_dget, v_didx, w_assign, w_par, w_unpack, w_append, w_expr, w_ite, w_ret, w_cont, w_raise, w_aug, w_augIdx, evAnd, evOr, evO, evC, evT, look, put, puts, tgPut, wipeE, thaw, lk, lks, lkT, lost, lostT, newL, bindTo, ownL, sc_non, sc_bl, sc_int, sc_str, sc_tup, sc_lst, sc_scr, sc_mref, flat_lst, flat_int, flat_tup, flat_bl, flat_non, flat_mref, flat_scr, isL_lst, isL_tup, isL_int, isL_bl, isL_non, isL_scr, isL_mref, isL_str, opt_some, no_bind, tyD, truth, x_lt, x_le, x_gt, x_ge, x_eqI, x_neI, x_eqL, x_neL, x_eqT, x_neT, x_eqS, binD, negD, isD, idxD, q1_lenL, q1_lenT, q1_lenS, q1_sumL, q1_sumT, q1_abs, q1_listL, q1_listT, q1_tupleL, q1_tupleT, q1_intI, q1_intB, q1_all, q1_min, q1_max, items, fin, pure_bind, bind_assoc, optI, sliceD, List.set_cons_succ, List.set_cons_zero, List.getElem?_cons_succ, List.getElem?_cons_zero, List.getElem?_nil, Option.bind_some, Option.map_some, Option.map_none, List.length_map, List.length_cons, List.length_nil, List.map_cons, List.map_nil, List.cons_append, List.nil_append, List.append_nil, List.replicate_succ, List.replicate_zero, Nat.reduceAdd, Nat.reduceSub, Nat.reduceLeDiff, Nat.reduceLT, if_true, if_false, ite_true, ite_false, Bool.or_true, Bool.or_false, Bool.true_or, Bool.false_or, Bool.and_true, Bool.true_and, Bool.and_false, Bool.false_and, Bool.not_true, Bool.not_false, List.all_cons, List.all_nil, Bool.false_eq_true, reduceIte]) (by omega) (by omega), Int.toNat_natCast]) (fun i hi => ⟨_, rfl, by
        have hi' : i < m.length := by simpa using hi
        simp only [runFn, startE, evSs, evEs, v_non, v_bl, v_int, v_str, v_var, v_glob, v_bin, v_neg, v_not, v_cmp, v_chain, v_isC, v_andL, v_orL, v_ite, v_tup, v_lst, v_idx, v_slice, v_rev, v_call, v_callD, v_callK, v_b1, v_mm, v_isi, v_lrange, v_dget, v_didx, w_assign, w_par, w_unpack, w_append, w_expr, w_ite, w_ret, w_cont, w_raise, w_aug, w_augIdx, evAnd, evOr, evO, evC, evT, look, put, puts, tgPut, wipeE, thaw, lk, lks, lkT, lost, lostT, newL, bindTo, ownL, sc_non, sc_bl, sc_int, sc_str, sc_tup, sc_lst, sc_scr, sc_mref, flat_lst, flat_int, flat_tup, flat_bl, flat_non, flat_mref, flat_scr, isL_lst, isL_tup, isL_int, isL_bl, isL_non, isL_scr, isL_mref, isL_str, opt_some, no_bind, tyD, truth, x_lt, x_le, x_gt, x_ge, x_eqI, x_neI, x_eqL, x_neL, x_eqT, x_neT, x_eqS, binD, negD, isD, idxD, q1_lenL, q1_lenT, q1_lenS, q1_sumL, q1_sumT, q1_abs, q1_listL, q1_listT, q1_tupleL, q1_tupleT, q1_intI, q1_intB, q1_all, q1_min, q1_max, items, fin, pure_bind, bind_assoc, optI, sliceD, List.set_cons_succ, List.set_cons_zero, List.getElem?_cons_succ, List.getElem?_cons_zero, List.getElem?_nil, Option.bind_some, Option.map_some, Option.map_none, List.length_map, List.length_cons, List.length_nil, List.map_cons, List.map_nil, List.cons_append, List.nil_append, List.append_nil, List.replicate_succ, List.replicate_zero, Nat.reduceAdd, Nat.reduceSub, Nat.reduceLeDiff, Nat.reduceLT, if_true, if_false, ite_true, ite_false, Bool.or_true, Bool.or_false, Bool.true_or, Bool.false_or, Bool.and_true, Bool.true_and, Bool.and_false, Bool.false_and, Bool.not_true, Bool.not_false, List.all_cons, List.all_nil, Bool.false_eq_true, reduceIte, put, wipeE, thaw]
        rw [show (0 : Int) + (i : Nat) + 1 = ((i + 1 : Nat) : Int) by omega, cut_to (by rw [List.length_map]; omega), take_iD, intsOf_iD]
        rfl⟩) (by rw [List.length_range]; omega)
    have hd : ((List.range m.length).map fun i => D.int (m.take (i + 1)).sum) = iD (psum 0 m) := by
      rw [← psum_range]
      show _ = List.map D.int _
      rw [List.map_map]
      rfl
    rw [hd] at hc
    simp only [runFn, startE, evSs, evEs, v_non, v_bl, v_int, v_str, v_var, v_glob, v_bin, v_neg, v_not, v_cmp, v_chain, v_isC, v_andL, v_orL, v_ite, v_tup, v_lst, v_idx, v_slice, v_rev, v_call, v_callD, v_callK, v_b1, v_mm, v_isi, v_lrange, v_dget, v_didx, w_assign, w_par, w_unpack, w_append, w_expr, w_ite, w_ret, w_cont, w_raise, w_aug, w_augIdx, evAnd, evOr, evO, evC, evT, look, put, puts, tgPut, wipeE, thaw, lk, lks, lkT, lost, lostT, newL, bindTo, ownL, sc_non, sc_bl, sc_int, sc_str, sc_tup, sc_lst, sc_scr, sc_mref, flat_lst, flat_int, flat_tup, flat_bl, flat_non, flat_mref, flat_scr, isL_lst, isL_tup, isL_int, isL_bl, isL_non, isL_scr, isL_mref, isL_str, opt_some, no_bind, tyD, truth, x_lt, x_le, x_gt, x_ge, x_eqI, x_neI, x_eqL, x_neL, x_eqT, x_neT, x_eqS, binD, negD, isD, idxD, q1_lenL, q1_lenT, q1_lenS, q1_sumL, q1_sumT, q1_abs, q1_listL, q1_listT, q1_tupleL, q1_tupleT, q1_intI, q1_intB, q1_all, q1_min, q1_max, items, fin, pure_bind, bind_assoc, optI, sliceD, List.set_cons_succ, List.set_cons_zero, List.getElem?_cons_succ, List.getElem?_cons_zero, List.getElem?_nil, Option.bind_some, Option.map_some, Option.map_none, List.length_map, List.length_cons, List.length_nil, List.map_cons, List.map_nil, List.cons_append, List.nil_append, List.append_nil, List.replicate_succ, List.replicate_zero, Nat.reduceAdd, Nat.reduceSub, Nat.reduceLeDiff, Nat.reduceLT, if_true, if_false, ite_true, ite_false, Bool.or_true, Bool.or_false, Bool.true_or, Bool.false_or, Bool.and_true, Bool.true_and, Bool.and_false, Bool.false_and, Bool.not_true, Bool.not_false, List.all_cons, List.all_nil, Bool.false_eq_true, reduceIte, hc, sc_ints]
  rw [hn] at hf
  have h0 : sumN ([] : List Nat).length l = l := rfl
  rw [h0, List.length_range] at hf
  simp only [fn_law_sums_so, runFn, startE, evSs, evEs, v_non, v_bl, v_int, v_str, v_var, v_glob, v_bin, v_neg, v_not, v_cmp, v_chain, v_isC, v_andL, v_orL, v_ite, v_tup, v_lst, v_idx, v_slice, v_rev, v_call, v_callD, v_callK, v_b1, v_mm, v_isi, v_lrange, v_dget, v_didx, w_assign, w_par, w_unpack, w_append, w_expr, w_ite, w_ret, w_cont, w_raise, w_aug, w_augIdx, evAnd, evOr, evO, evC, evT, look, put, puts, tgPut, wipeE, thaw, lk, lks, lkT, lost, lostT, newL, bindTo, ownL, sc_non, sc_bl, sc_int, sc_str, sc_tup, sc_lst, sc_scr, sc_mref, flat_lst, flat_int, flat_tup, flat_bl, flat_non, flat_mref, flat_scr, isL_lst, isL_tup, isL_int, isL_bl, isL_non, isL_scr, isL_mref, isL_str, opt_some, no_bind, tyD, truth, x_lt, x_le, x_gt, x_ge, x_eqI, x_neI, x_eqL, x_neL, x_eqT, x_neT, x_eqS, binD, negD, isD, idxD, q1_lenL, q1_lenT, q1_lenS, q1_sumL, q1_sumT, q1_abs, q1_listL, q1_listT, q1_tupleL, q1_tupleT, q1_intI, q1_intB, q1_all, q1_min, q1_max, items, fin, pure_bind, bind_assoc, optI, sliceD, List.set_cons_succ, List.set_cons_zero, List.getElem?_cons_succ, List.getElem?_cons_zero, List.getElem?_nil, Option.bind_some, Option.map_some, Option.map_none, List.length_map, List.length_cons, List.length_nil, List.map_cons, List.map_nil, List.cons_append, List.nil_append, List.append_nil, List.replicate_succ, List.replicate_zero, Nat.reduceAdd, Nat.reduceSub, Nat.reduceLeDiff, Nat.reduceLT, if_true, if_false, ite_true, ite_false, Bool.or_true, Bool.or_false, Bool.true_or, Bool.false_or, Bool.and_true, Bool.true_and, Bool.and_false, Bool.false_and, Bool.not_true, Bool.not_false, List.all_cons, List.all_nil, Bool.false_eq_true, reduceIte, sc_ints]
  rw [w_for (ds := (List.range k.toNat).map fun i => D.int (0 + (i : Nat))) (e_rngP (h := k) (by simp only [runFn, startE, evSs, evEs, v_non, v_bl, v_int, v_str, v_var, v_glob, v_bin, v_neg, v_not, v_cmp, v_chain, v_isC, v_andL, v_orL, v_ite, v_tup, v_lst, v_idx, v_slice, v_rev, v_call, v_callD, v_callK, v_b1, v_mm, v_isi, v_lrange, v_dget, v_didx, w_assign, w_par, w_unpack, w_append, w_expr, w_ite, w_ret, w_cont, w_raise, w_aug, w_augIdx, evAnd, evOr, evO, evC, evT, look, put, puts, tgPut, wipeE, thaw, lk, lks, lkT, lost, lostT, newL, bindTo, ownL, sc_non, sc_bl, sc_int, sc_str, sc_tup, sc_lst, sc_scr, sc_mref, flat_lst, flat_int, flat_tup, flat_bl, flat_non, flat_mref, flat_scr, isL_lst, isL_tup, isL_int, isL_bl, isL_non, isL_scr, isL_mref, isL_str, opt_some, no_bind, tyD, truth, x_lt, x_le, x_gt, x_ge, x_eqI, x_neI, x_eqL, x_neL, x_eqT, x_neT, x_eqS, binD, negD, isD, idxD, q1_lenL, q1_lenT, q1_lenS, q1_sumL, q1_sumT, q1_abs, q1_listL, q1_listT, q1_tupleL, q1_tupleT, q1_intI, q1_intB, q1_all, q1_min, q1_max, items, fin, pure_bind, bind_assoc, optI, sliceD, List.set_cons_succ, List.set_cons_zero, List.getElem?_cons_succ, List.getElem?_cons_zero, List.getElem?_nil, Option.bind_some, Option.map_some, Option.map_none, List.length_map, List.length_cons, List.length_nil, List.map_cons, List.map_nil, List.cons_append, List.nil_append, List.append_nil, List.replicate_succ, List.replicate_zero, Nat.reduceAdd, Nat.reduceSub, Nat.reduceLeDiff, Nat.reduceLT, if_true, if_false, ite_true, ite_false, Bool.or_true, Bool.or_false, Bool.true_or, Bool.false_or, Bool.and_true, Bool.true_and, Bool.and_false, Bool.false_and, Bool.not_true, Bool.not_false, List.all_cons, List.all_nil, Bool.false_eq_true, reduceIte]) k0 (by omega))]
  simp only [lostT, thaw, lkT, lk, newL, List.set_cons_succ, List.set_cons_zero, List.getElem?_cons_succ, List.getElem?_cons_zero, List.getElem?_nil, Option.bind_some, Option.map_some, Option.map_none, List.length_map, List.length_cons, List.length_nil, List.map_cons, List.map_nil, List.cons_append, List.nil_append, List.append_nil, List.replicate_succ, List.replicate_zero, Nat.reduceAdd, Nat.reduceSub, Nat.reduceLeDiff, Nat.reduceLT, if_true, if_false, ite_true, ite_false, Bool.or_true, Bool.or_false, Bool.true_or, Bool.false_or, Bool.and_true, Bool.true_and, Bool.and_false, Bool.false_and, Bool.not_true, Bool.not_false, List.all_cons, List.all_nil, Bool.false_eq_true, reduceIte]
  rw [hf]
  simp only [runFn, startE, evSs, evEs, v_non, v_bl, v_int, v_str, v_var, v_glob, v_bin, v_neg, v_not, v_cmp, v_chain, v_isC, v_andL, v_orL, v_ite, v_tup, v_lst, v_idx, v_slice, v_rev, v_call, v_callD, v_callK, v_b1, v_mm, v_isi, v_lrange, v_dget, v_didx, w_assign, w_par, w_unpack, w_append, w_expr, w_ite, w_ret, w_cont, w_raise, w_aug, w_augIdx, evAnd, evOr, evO, evC, evT, look, put, puts, tgPut, wipeE, thaw, lk, lks, lkT, lost, lostT, newL, bindTo, ownL, sc_non, sc_bl, sc_int, sc_str, sc_tup, sc_lst, sc_scr, sc_mref, flat_lst, flat_int, flat_tup, flat_bl, flat_non, flat_mref, flat_scr, isL_lst, isL_tup, isL_int, isL_bl, isL_non, isL_scr, isL_mref, isL_str, opt_some, no_bind, tyD, truth, x_lt, x_le, x_gt, x_ge, x_eqI, x_neI, x_eqL, x_neL, x_eqT, x_neT, x_eqS, binD, negD, isD, idxD, q1_lenL, q1_lenT, q1_lenS, q1_sumL, q1_sumT, q1_abs, q1_listL, q1_listT, q1_tupleL, q1_tupleT, q1_intI, q1_intB, q1_all, q1_min, q1_max, items, fin, pure_bind, bind_assoc, optI, sliceD, List.set_cons_succ, List.set_cons_zero, List.getElem?_cons_succ, List.getElem?_cons_zero, List.getElem?_nil, Option.bind_some, Option.map_some, Option.map_none, List.length_map, List.length_cons, List.length_nil, List.map_cons, List.map_nil, List.cons_append, List.nil_append, List.append_nil, List.replicate_succ, List.replicate_zero, Nat.reduceAdd, Nat.reduceSub, Nat.reduceLeDiff, Nat.reduceLT, if_true, if_false, ite_true, ite_false, Bool.or_true, Bool.or_false, Bool.true_or, Bool.false_or, Bool.and_true, Bool.true_and, Bool.and_false, Bool.false_and, Bool.not_true, Bool.not_false, List.all_cons, List.all_nil, Bool.false_eq_true, reduceIte]
/-- a loop that may stop -/
theorem forM_stop {α : Type} {step : D → Env → M (Fl × Env)} {d : D} (u : α → D) (ρ : List α → Env) (q : Nat → Bool) : ∀ {xs done : List α}, (∀ ps x rs, done ++ xs = ps ++ x :: rs → (q ps.length = true → step (u x) (ρ ps) = pure (.next, ρ (ps ++ [x]))) ∧ (q ps.length = false → ∃ ρ', step (u x) (ρ ps) = pure (.ret d, ρ'))) →
    ((∀ i, done.length ≤ i → i < done.length + xs.length → q i = true) → forM step (xs.map u) (ρ done) = pure (.next, ρ (done ++ xs))) ∧ ((∃ i, done.length ≤ i ∧ i < done.length + xs.length ∧ q i = false) → ∃ ρ', forM step (xs.map u) (ρ done) = pure (.ret d, ρ'))
  | [], done, _ => ⟨fun _ => by rw [List.append_nil]; rfl, fun ⟨i, h1, h2, _⟩ => by simp at h2; omega⟩
  | x :: xs, done, h => by
    obtain ⟨a, b⟩ := h done x xs rfl
    obtain ⟨ih1, ih2⟩ := forM_stop (xs := xs) (done := done ++ [x]) (d := d) u ρ q fun ps y rs e => h ps y rs (by rw [← e]; simp)
    rw [List.length_append, List.length_singleton] at ih1 ih2
    rw [List.length_cons]
    refine ⟨fun hq => ?_, fun hq => ?_⟩
    · rw [List.map_cons]
      unfold forM
      rw [a (hq _ (Nat.le_refl _) (by omega))]
      have := ih1 fun i h1 h2 => hq i (by omega) (by omega)
      rw [List.append_assoc] at this
      exact this
    · rw [List.map_cons]
      unfold forM
      cases e : q done.length with
      | false =>
        obtain ⟨ρ', hb⟩ := b e
        rw [hb]
        exact ⟨ρ', rfl⟩
      | true =>
        rw [a e]
        obtain ⟨i, h1, h2, h3⟩ := hq
        have hne : i ≠ done.length := fun z => by rw [z, e] at h3; cases h3
        exact ih2 ⟨i, by omega, by omega, h3⟩
/-- the end of the k-th sums -/
def endN (k : Nat) (l : List Int) : Int := (sumN k l).getD (l.length - 1) 0
theorem lastI {l : List Int} (h : 1 ≤ l.length) : L2.atI (iD l) (-1) = some (.int (l.getD (l.length - 1) 0)) := by
  unfold L2.atI
  have : L2.ixN (iD l).length (-1) = some (l.length - 1) := by
    unfold L2.ixN
    rw [if_neg (by decide), List.length_map, if_pos (by omega)]
    congr 1
    omega
  rw [this, Option.bind_some, List.getElem?_map, List.getD_eq_getElem?_getD, List.getElem?_eq_getElem (by omega)]
  rfl
def twoB (s : List Int) (d : Nat) : Bool := (List.range (d + 1)).all fun k => decide (endN (k + 1) s = 0)
theorem e_two_even {r : List Int} {a b dg : Int} (hr : r.length ≤ 1000) (r1 : 1 ≤ r.length) (d0 : 0 ≤ dg) (d1 : dg ≤ 900) : callN tbl S (n + 2) 31 [.tup (iD r), .int a, .int b, .int dg] = pure (.bl (twoB (r.map (sgn a b)) dg.toNat)) := by
  rw [c_two_even]
  obtain ⟨u, hn, hu⟩ : ∃ u : List Nat → Option (Bool × D), u [] = none ∧ ∀ ps x, u (ps ++ [x]) = some (false, .int (0 + (x : Nat))) := ⟨fun ps => ps.getLast?.map fun p => (false, .int (0 + (p : Nat))), rfl, by simp⟩
  generalize hs : r.map (sgn a b) = s
  have sl : s.length = r.length := by rw [← hs]; simp
  obtain ⟨hf1, hf2⟩ := forM_stop (d := .bl false) (step := fun d ρ => M.opt (tgPut ρ (.one 5) d) >>= fun ρ1 => evSs S (callN tbl S (n + 1)) (.cons (.assign 4 (.call 28 (.cons (.var 4) .nil))) (.cons (.ite (.cmp .ne (.idx (.var 4) (.neg (.int 1))) (.int 0)) (.cons (.ret (.bl false)) .nil) .nil) .nil)) ρ1) (fun k : Nat => D.int (0 + (k : Nat)))
    (fun ps => [some (false, .tup (iD r)), some (false, .int a), some (false, .int b), some (false, .int dg), some (false, .lst (iD (sumN ps.length s))), u ps]) (fun k => decide (endN (k + 1) s = 0)) (xs := List.range (dg + 1).toNat) (done := []) fun ps x rs e => by
    have hl : (ps ++ [x]).length = ps.length + 1 := by simp
    rw [hu, hl]
    have hm : (sumN ps.length s).length ≤ 1000 := by rw [sumN_len, sl]; exact hr
    have hm2 : 1 ≤ (psum 0 (sumN ps.length s)).length := by rw [psum_len, sumN_len, sl]; exact r1
    have he : endN (ps.length + 1) s = (psum 0 (sumN ps.length s)).getD ((psum 0 (sumN ps.length s)).length - 1) 0 := by
      unfold endN
      rw [sumN, psum_len, sumN_len]
    rw [he, sumN]
    generalize sumN ps.length s = m at hm hm2
    refine ⟨fun hq => ?_, fun hq => ?_⟩
    · have hq := of_decide_eq_true hq
      simp only [runFn, startE, evSs, evEs, v_non, v_bl, v_int, v_str, v_var, v_glob, v_bin, v_neg, v_not, v_cmp, v_chain, v_isC, v_andL, v_orL, v_ite, v_tup, v_lst, v_idx, v_slice, v_rev, v_call, v_callD, v_callK, v_b1, v_mm, v_isi, v_lrange, v_dget, v_didx, w_assign, w_par, w_unpack, w_append, w_expr, w_ite, w_ret, w_cont, w_raise, w_aug, w_augIdx, evAnd, evOr, evO, evC, evT, look, put, puts, tgPut, wipeE, thaw, lk, lks, lkT, lost, lostT, newL, bindTo, ownL, sc_non, sc_bl, sc_int, sc_str, sc_tup, sc_lst, sc_scr, sc_mref, flat_lst, flat_int, flat_tup, flat_bl, flat_non, flat_mref, flat_scr, isL_lst, isL_tup, isL_int, isL_bl, isL_non, isL_scr, isL_mref, isL_str, opt_some, no_bind, tyD, truth, x_lt, x_le, x_gt, x_ge, x_eqI, x_neI, x_eqL, x_neL, x_eqT, x_neT, x_eqS, binD, negD, isD, idxD, q1_lenL, q1_lenT, q1_lenS, q1_sumL, q1_sumT, q1_abs, q1_listL, q1_listT, q1_tupleL, q1_tupleT, q1_intI, q1_intB, q1_all, q1_min, q1_max, items, fin, pure_bind, bind_assoc, optI, sliceD, List.set_cons_succ, List.set_cons_zero, List.getElem?_cons_succ, List.getElem?_cons_zero, List.getElem?_nil, Option.bind_some, Option.map_some, Option.map_none, List.length_map, List.length_cons, List.length_nil, List.map_cons, List.map_nil, List.cons_append, List.nil_append, List.append_nil, List.replicate_succ, List.replicate_zero, Nat.reduceAdd, Nat.reduceSub, Nat.reduceLeDiff, Nat.reduceLT, if_true, if_false, ite_true, ite_false, Bool.or_true, Bool.or_false, Bool.true_or, Bool.false_or, Bool.and_true, Bool.true_and, Bool.and_false, Bool.false_and, Bool.not_true, Bool.not_false, List.all_cons, List.all_nil, Bool.false_eq_true, reduceIte, e_summed (show m.length ≤ 100000 by omega), sc_ints, lastI hm2, hq, decide_true]
    · have hq := of_decide_eq_false hq
      simp only [runFn, startE, evSs, evEs, v_non, v_bl, v_int, v_str, v_var, v_glob, v_bin, v_neg, v_not, v_cmp, v_chain, v_isC, v_andL, v_orL, v_ite, v_tup, v_lst, v_idx, v_slice, v_rev, v_call, v_callD, v_callK, v_b1, v_mm, v_isi, v_lrange, v_dget, v_didx, w_assign, w_par, w_unpack, w_append, w_expr, w_ite, w_ret, w_cont, w_raise, w_aug, w_augIdx, evAnd, evOr, evO, evC, evT, look, put, puts, tgPut, wipeE, thaw, lk, lks, lkT, lost, lostT, newL, bindTo, ownL, sc_non, sc_bl, sc_int, sc_str, sc_tup, sc_lst, sc_scr, sc_mref, flat_lst, flat_int, flat_tup, flat_bl, flat_non, flat_mref, flat_scr, isL_lst, isL_tup, isL_int, isL_bl, isL_non, isL_scr, isL_mref, isL_str, opt_some, no_bind, tyD, truth, x_lt, x_le, x_gt, x_ge, x_eqI, x_neI, x_eqL, x_neL, x_eqT, x_neT, x_eqS, binD, negD, isD, idxD, q1_lenL, q1_lenT, q1_lenS, q1_sumL, q1_sumT, q1_abs, q1_listL, q1_listT, q1_tupleL, q1_tupleT, q1_intI, q1_intB, q1_all, q1_min, q1_max, items, fin, pure_bind, bind_assoc, optI, sliceD, List.set_cons_succ, List.set_cons_zero, List.getElem?_cons_succ, List.getElem?_cons_zero, List.getElem?_nil, Option.bind_some, Option.map_some, Option.map_none, List.length_map, List.length_cons, List.length_nil, List.map_cons, List.map_nil, List.cons_append, List.nil_append, List.append_nil, List.replicate_succ, List.replicate_zero, Nat.reduceAdd, Nat.reduceSub, Nat.reduceLeDiff, Nat.reduceLT, if_true, if_false, ite_true, ite_false, Bool.or_true, Bool.or_false, Bool.true_or, Bool.false_or, Bool.and_true, Bool.true_and, Bool.and_false, Bool.false_and, Bool.not_true, Bool.not_false, List.all_cons, List.all_nil, Bool.false_eq_true, reduceIte, e_summed (show m.length ≤ 100000 by omega), sc_ints, lastI hm2, decide_eq_false hq]
      exact ⟨_, rfl⟩
  rw [hn] at hf1 hf2
  have h0 : sumN ([] : List Nat).length s = s := rfl
  rw [h0] at hf1 hf2
  simp only [fn_two_even, runFn, startE, evSs, evEs, v_non, v_bl, v_int, v_str, v_var, v_glob, v_bin, v_neg, v_not, v_cmp, v_chain, v_isC, v_andL, v_orL, v_ite, v_tup, v_lst, v_idx, v_slice, v_rev, v_call, v_callD, v_callK, v_b1, v_mm, v_isi, v_lrange, v_dget, v_didx, w_assign, w_par, w_unpack, w_append, w_expr, w_ite, w_ret, w_cont, w_raise, w_aug, w_augIdx, evAnd, evOr, evO, evC, evT, look, put, puts, tgPut, wipeE, thaw, lk, lks, lkT, lost, lostT, newL, bindTo, ownL, sc_non, sc_bl, sc_int, sc_str, sc_tup, sc_lst, sc_scr, sc_mref, flat_lst, flat_int, flat_tup, flat_bl, flat_non, flat_mref, flat_scr, isL_lst, isL_tup, isL_int, isL_bl, isL_non, isL_scr, isL_mref, isL_str, opt_some, no_bind, tyD, truth, x_lt, x_le, x_gt, x_ge, x_eqI, x_neI, x_eqL, x_neL, x_eqT, x_neT, x_eqS, binD, negD, isD, idxD, q1_lenL, q1_lenT, q1_lenS, q1_sumL, q1_sumT, q1_abs, q1_listL, q1_listT, q1_tupleL, q1_tupleT, q1_intI, q1_intB, q1_all, q1_min, q1_max, items, fin, pure_bind, bind_assoc, optI, sliceD, List.set_cons_succ, List.set_cons_zero, List.getElem?_cons_succ, List.getElem?_cons_zero, List.getElem?_nil, Option.bind_some, Option.map_some, Option.map_none, List.length_map, List.length_cons, List.length_nil, List.map_cons, List.map_nil, List.cons_append, List.nil_append, List.append_nil, List.replicate_succ, List.replicate_zero, Nat.reduceAdd, Nat.reduceSub, Nat.reduceLeDiff, Nat.reduceLT, if_true, if_false, ite_true, ite_false, Bool.or_true, Bool.or_false, Bool.true_or, Bool.false_or, Bool.and_true, Bool.true_and, Bool.and_false, Bool.false_and, Bool.not_true, Bool.not_false, List.all_cons, List.all_nil, Bool.false_eq_true, reduceIte, e_signs_of hr, hs]
  rw [w_for (ds := (List.range (dg + 1).toNat).map fun i => D.int (0 + (i : Nat))) (e_rngP (h := dg + 1) (by simp only [runFn, startE, evSs, evEs, v_non, v_bl, v_int, v_str, v_var, v_glob, v_bin, v_neg, v_not, v_cmp, v_chain, v_isC, v_andL, v_orL, v_ite, v_tup, v_lst, v_idx, v_slice, v_rev, v_call, v_callD, v_callK, v_b1, v_mm, v_isi, v_lrange, v_dget, v_didx, w_assign, w_par, w_unpack, w_append, w_expr, w_ite, w_ret, w_cont, w_raise, w_aug, w_augIdx, evAnd, evOr, evO, evC, evT, look, put, puts, tgPut, wipeE, thaw, lk, lks, lkT, lost, lostT, newL, bindTo, ownL, sc_non, sc_bl, sc_int, sc_str, sc_tup, sc_lst, sc_scr, sc_mref, flat_lst, flat_int, flat_tup, flat_bl, flat_non, flat_mref, flat_scr, isL_lst, isL_tup, isL_int, isL_bl, isL_non, isL_scr, isL_mref, isL_str, opt_some, no_bind, tyD, truth, x_lt, x_le, x_gt, x_ge, x_eqI, x_neI, x_eqL, x_neL, x_eqT, x_neT, x_eqS, binD, negD, isD, idxD, q1_lenL, q1_lenT, q1_lenS, q1_sumL, q1_sumT, q1_abs, q1_listL, q1_listT, q1_tupleL, q1_tupleT, q1_intI, q1_intB, q1_all, q1_min, q1_max, items, fin, pure_bind, bind_assoc, optI, sliceD, List.set_cons_succ, List.set_cons_zero, List.getElem?_cons_succ, List.getElem?_cons_zero, List.getElem?_nil, Option.bind_some, Option.map_some, Option.map_none, List.length_map, List.length_cons, List.length_nil, List.map_cons, List.map_nil, List.cons_append, List.nil_append, List.append_nil, List.replicate_succ, List.replicate_zero, Nat.reduceAdd, Nat.reduceSub, Nat.reduceLeDiff, Nat.reduceLT, if_true, if_false, ite_true, ite_false, Bool.or_true, Bool.or_false, Bool.true_or, Bool.false_or, Bool.and_true, Bool.true_and, Bool.and_false, Bool.false_and, Bool.not_true, Bool.not_false, List.all_cons, List.all_nil, Bool.false_eq_true, reduceIte]) (by omega) (by omega))]
  simp only [lostT, thaw, lkT, lk, newL, List.set_cons_succ, List.set_cons_zero, List.getElem?_cons_succ, List.getElem?_cons_zero, List.getElem?_nil, Option.bind_some, Option.map_some, Option.map_none, List.length_map, List.length_cons, List.length_nil, List.map_cons, List.map_nil, List.cons_append, List.nil_append, List.append_nil, List.replicate_succ, List.replicate_zero, Nat.reduceAdd, Nat.reduceSub, Nat.reduceLeDiff, Nat.reduceLT, if_true, if_false, ite_true, ite_false, Bool.or_true, Bool.or_false, Bool.true_or, Bool.false_or, Bool.and_true, Bool.true_and, Bool.and_false, Bool.false_and, Bool.not_true, Bool.not_false, List.all_cons, List.all_nil, Bool.false_eq_true, reduceIte]
  have hdn : (dg + 1).toNat = dg.toNat + 1 := by omega
  cases ht : twoB s dg.toNat with
  | true =>
    unfold twoB at ht
    rw [hf1 fun i _ hi => by
      rw [List.length_range, hdn] at hi
      exact List.all_eq_true.mp ht i (List.mem_range.mpr (by simpa using hi))]
    simp only [runFn, startE, evSs, evEs, v_non, v_bl, v_int, v_str, v_var, v_glob, v_bin, v_neg, v_not, v_cmp, v_chain, v_isC, v_andL, v_orL, v_ite, v_tup, v_lst, v_idx, v_slice, v_rev, v_call, v_callD, v_callK, v_b1, v_mm, v_isi, v_lrange, v_dget, v_didx, w_assign, w_par, w_unpack, w_append, w_expr, w_ite, w_ret, w_cont, w_raise, w_aug, w_augIdx, evAnd, evOr, evO, evC, evT, look, put, puts, tgPut, wipeE, thaw, lk, lks, lkT, lost, lostT, newL, bindTo, ownL, sc_non, sc_bl, sc_int, sc_str, sc_tup, sc_lst, sc_scr, sc_mref, flat_lst, flat_int, flat_tup, flat_bl, flat_non, flat_mref, flat_scr, isL_lst, isL_tup, isL_int, isL_bl, isL_non, isL_scr, isL_mref, isL_str, opt_some, no_bind, tyD, truth, x_lt, x_le, x_gt, x_ge, x_eqI, x_neI, x_eqL, x_neL, x_eqT, x_neT, x_eqS, binD, negD, isD, idxD, q1_lenL, q1_lenT, q1_lenS, q1_sumL, q1_sumT, q1_abs, q1_listL, q1_listT, q1_tupleL, q1_tupleT, q1_intI, q1_intB, q1_all, q1_min, q1_max, items, fin, pure_bind, bind_assoc, optI, sliceD, List.set_cons_succ, List.set_cons_zero, List.getElem?_cons_succ, List.getElem?_cons_zero, List.getElem?_nil, Option.bind_some, Option.map_some, Option.map_none, List.length_map, List.length_cons, List.length_nil, List.map_cons, List.map_nil, List.cons_append, List.nil_append, List.append_nil, List.replicate_succ, List.replicate_zero, Nat.reduceAdd, Nat.reduceSub, Nat.reduceLeDiff, Nat.reduceLT, if_true, if_false, ite_true, ite_false, Bool.or_true, Bool.or_false, Bool.true_or, Bool.false_or, Bool.and_true, Bool.true_and, Bool.and_false, Bool.false_and, Bool.not_true, Bool.not_false, List.all_cons, List.all_nil, Bool.false_eq_true, reduceIte]
  | false =>
    unfold twoB at ht
    obtain ⟨i, h1, h2⟩ := List.all_eq_false.mp ht
    obtain ⟨ρ', hρ⟩ := hf2 ⟨i, Nat.zero_le _, by rw [List.length_range, hdn]; simpa using h1, by simpa using h2⟩
    rw [hρ]
    simp only [runFn, startE, evSs, evEs, v_non, v_bl, v_int, v_str, v_var, v_glob, v_bin, v_neg, v_not, v_cmp, v_chain, v_isC, v_andL, v_orL, v_ite, v_tup, v_lst, v_idx, v_slice, v_rev, v_call, v_callD, v_callK, v_b1, v_mm, v_isi, v_lrange, v_dget, v_didx, w_assign, w_par, w_unpack, w_append, w_expr, w_ite, w_ret, w_cont, w_raise, w_aug, w_augIdx, evAnd, evOr, evO, evC, evT, look, put, puts, tgPut, wipeE, thaw, lk, lks, lkT, lost, lostT, newL, bindTo, ownL, sc_non, sc_bl, sc_int, sc_str, sc_tup, sc_lst, sc_scr, sc_mref, flat_lst, flat_int, flat_tup, flat_bl, flat_non, flat_mref, flat_scr, isL_lst, isL_tup, isL_int, isL_bl, isL_non, isL_scr, isL_mref, isL_str, opt_some, no_bind, tyD, truth, x_lt, x_le, x_gt, x_ge, x_eqI, x_neI, x_eqL, x_neL, x_eqT, x_neT, x_eqS, binD, negD, isD, idxD, q1_lenL, q1_lenT, q1_lenS, q1_sumL, q1_sumT, q1_abs, q1_listL, q1_listT, q1_tupleL, q1_tupleT, q1_intI, q1_intB, q1_all, q1_min, q1_max, items, fin, pure_bind, bind_assoc, optI, sliceD, List.set_cons_succ, List.set_cons_zero, List.getElem?_cons_succ, List.getElem?_cons_zero, List.getElem?_nil, Option.bind_some, Option.map_some, Option.map_none, List.length_map, List.length_cons, List.length_nil, List.map_cons, List.map_nil, List.cons_append, List.nil_append, List.append_nil, List.replicate_succ, List.replicate_zero, Nat.reduceAdd, Nat.reduceSub, Nat.reduceLeDiff, Nat.reduceLT, if_true, if_false, ite_true, ite_false, Bool.or_true, Bool.or_false, Bool.true_or, Bool.false_or, Bool.and_true, Bool.true_and, Bool.and_false, Bool.false_and, Bool.not_true, Bool.not_false, List.all_cons, List.all_nil, Bool.false_eq_true, reduceIte]
end
end Ev

set_option Elab.async false
set_option linter.all false
set_option maxRecDepth 100000
set_option maxHeartbeats 1000000
namespace Ev
theorem compM2_maps {α : Type} {f : D → M (List D)} (u : α → D) (g : α → List D) {xs : List α} (h : ∀ x ∈ xs, f (u x) = pure (g x)) : compM2 f (xs.map u) = pure (xs.flatMap g) := by
  induction xs with
  | nil => rfl
  | cons x xs ih =>
    rw [List.map_cons, List.flatMap_cons]
    unfold compM2
    rw [h x (by simp), ih fun y hy => h y (List.mem_cons_of_mem _ hy)]
    rfl
theorem evComp2 {S : List Int} {c : Nat → List D → M D} {ρ : Env} {vs vs1 : List Nat} {tg tg1 : Tg} {it it1 : IT} {elt : IE} {α β : Type} (u : α → D) (v : β → D) (ys : α → List β) (g : α → β → D) {xs : List α} (h1 : evT S c it ρ = pure (xs.map u))
    (h2 : ∀ x ∈ xs, ∃ ρ1, tgPut (thaw (wipeE ρ vs) (lkT it)) tg (u x) = some ρ1 ∧ evT S c it1 ρ1 = pure ((ys x).map v) ∧ ∀ y ∈ ys x, ∃ ρ2, tgPut (thaw (wipeE ρ1 vs1) (lkT it1)) tg1 (v y) = some ρ2 ∧ evE S c elt ρ2 = pure (g x y)) (h3 : (xs.flatMap fun x => (ys x).map (g x)).length ≤ 1000000) :
    evE S c (.comp2 vs vs1 tg it tg1 it1 elt) ρ = pure (.lst (xs.flatMap fun x => (ys x).map (g x))) := by
  rw [evE, h1, pure_bind, compM2_maps u (fun x => (ys x).map (g x)) fun x hx => ?_, pure_bind, if_pos h3]
  obtain ⟨ρ1, e1, e2, e3⟩ := h2 x hx
  rw [e1, opt_some, pure_bind, e2, pure_bind, compM_maps v (g x) fun y hy => ?_]
  obtain ⟨ρ2, f1, f2⟩ := e3 y hy
  rw [f1, opt_some, pure_bind, f2, pure_bind]
/-- the pairs of hands, the lesser first -/
def pairs (h : Int) : List (Int × Int) := (List.range h.toNat).flatMap fun i => (List.range (h - (0 + (i : Nat) + 1)).toNat).map fun k => (0 + ((i : Nat) : Int), 0 + ((i : Nat) : Int) + 1 + ((k : Nat) : Int))
def prD (p : Int × Int) : D := .tup [.int p.1, .int p.2]
theorem mem_pairs {h : Int} {p : Int × Int} : p ∈ pairs h ↔ 0 ≤ p.1 ∧ p.1 < p.2 ∧ p.2 < h := by
  unfold pairs
  rw [List.mem_flatMap]
  constructor
  · rintro ⟨i, hi, hp⟩
    obtain ⟨k, hk, rfl⟩ := List.mem_map.mp hp
    have := List.mem_range.mp hi
    have := List.mem_range.mp hk
    refine ⟨?_, ?_, ?_⟩ <;> simp only <;> omega
  · rintro ⟨h1, h2, h3⟩
    refine ⟨p.1.toNat, List.mem_range.mpr (by omega), List.mem_map.mpr ⟨(p.2 - p.1 - 1).toNat, List.mem_range.mpr (by omega), ?_⟩⟩
    obtain ⟨a, b⟩ := p
    simp only at *
    congr 1 <;> omega
theorem pairs_len {h : Int} (h2 : h ≤ 4) : (pairs h).length ≤ 16 := by
  unfold pairs
  rw [List.length_flatMap]
  have : ∀ l : List Nat, (∀ x ∈ l, x < 4) → ((l.map fun i => ((List.range (h - (0 + (i : Nat) + 1)).toNat).map fun k => (0 + ((i : Nat) : Int), 0 + ((i : Nat) : Int) + 1 + ((k : Nat) : Int))).length).sum) ≤ l.length * 4 := by
    intro l
    induction l with
    | nil => intro _; simp
    | cons x l ih =>
      intro hl
      have := ih fun y hy => hl y (List.mem_cons_of_mem _ hy)
      rw [List.map_cons, List.sum_cons, List.length_cons, List.length_map, List.length_range]
      omega
  have := this (List.range h.toNat) fun x hx => by have := List.mem_range.mp hx; omega
  rw [List.length_range] at this
  omega
section
variable {S : List Int} {n : Nat}
theorem e_rng2P {c : Nat → List D → M D} {ρ : Env} {i1 i2 : IE} {a b : Int} (e1 : evE S c i1 ρ = pure (.int a)) (e2 : evE S c i2 ρ = pure (.int b)) (a1 : -1000000 ≤ a) (a2 : a ≤ 1000000) (b1 : -1000000 ≤ b) (b2 : b ≤ 1000000) :
    evT S c (.rng2 i1 i2) ρ = pure ((List.range (b - a).toNat).map fun k => D.int (a + (k : Nat))) := by
  rw [evT, e1, pure_bind, e2, pure_bind]
  show M.opt (if small62 a && small62 b then some (rngD a b) else none) = _
  rw [opt_if (show (small62 a && small62 b) = true by unfold small62; rw [decide_eq_true (by omega), decide_eq_true (by omega)]; rfl)]
  rfl
theorem e_pairs_of {h : Int} (h0 : 0 ≤ h) (h2 : h ≤ 4) : callN tbl S (n + 1) 30 [.int h] = pure (.lst ((pairs h).map prD)) := by
  rw [c_pairs_of]
  have hm : (pairs h).map prD = (List.range h.toNat).flatMap fun i => (List.range (h - (0 + (i : Nat) + 1)).toNat).map fun k => prD (0 + ((i : Nat) : Int), 0 + ((i : Nat) : Int) + 1 + ((k : Nat) : Int)) := by
    unfold pairs
    rw [List.map_flatMap]
    congr 1
    funext i
    rw [List.map_map]
    rfl
  have hc := evComp2 (S := S) (c := callN tbl S n) (vs := [1, 2]) (vs1 := [2]) (tg := .one 1) (tg1 := .one 2) (it := .rng1 (.var 0)) (it1 := .rng2 (.bin .add (.var 1) (.int 1)) (.var 0)) (elt := .tup (.cons (.var 1) (.cons (.var 2) .nil))) (ρ := [some (false, .int h), none, none])
    (fun i : Nat => D.int (0 + (i : Nat))) (fun q : Int => D.int q) (fun i => (List.range (h - (0 + (i : Nat) + 1)).toNat).map fun k => 0 + ((i : Nat) : Int) + 1 + ((k : Nat) : Int)) (fun i q => prD (0 + ((i : Nat) : Int), q)) (xs := List.range h.toNat)
    (e_rngP (h := h) (by simp only [runFn, startE, evSs, evEs, v_non, v_bl, v_int, v_str, v_var, v_glob, v_bin, v_neg, v_not, v_cmp, v_chain, v_isC, v_andL, v_orL, v_ite, v_tup, v_lst, v_idx, v_slice, v_rev, v_call, v_callD, v_callK, v_b1, v_mm, v_isi, v_lrange, v_dget, v_didx, w_assign, w_par, w_unpack, w_append, w_expr, w_ite, w_ret, w_cont, w_raise, w_aug, w_augIdx, evAnd, evOr, evO, evC, evT, look, put, puts, tgPut, wipeE, thaw, lk, lks, lkT, lost, lostT, newL, bindTo, ownL, sc_non, sc_bl, sc_int, sc_str, sc_tup, sc_lst, sc_scr, sc_mref, flat_lst, flat_int, flat_tup, flat_bl, flat_non, flat_mref, flat_scr, isL_lst, isL_tup, isL_int, isL_bl, isL_non, isL_scr, isL_mref, isL_str, opt_some, no_bind, tyD, truth, x_lt, x_le, x_gt, x_ge, x_eqI, x_neI, x_eqL, x_neL, x_eqT, x_neT, x_eqS, binD, negD, isD, idxD, q1_lenL, q1_lenT, q1_lenS, q1_sumL, q1_sumT, q1_abs, q1_listL, q1_listT, q1_tupleL, q1_tupleT, q1_intI, q1_intB, q1_all, q1_min, q1_max, items, fin, pure_bind, bind_assoc, optI, sliceD, List.set_cons_succ, List.set_cons_zero, List.getElem?_cons_succ, List.getElem?_cons_zero, List.getElem?_nil, Option.bind_some, Option.map_some, Option.map_none, List.length_map, List.length_cons, List.length_nil, List.map_cons, List.map_nil, List.cons_append, List.nil_append, List.append_nil, List.replicate_succ, List.replicate_zero, Nat.reduceAdd, Nat.reduceSub, Nat.reduceLeDiff, Nat.reduceLT, if_true, if_false, ite_true, ite_false, Bool.or_true, Bool.or_false, Bool.true_or, Bool.false_or, Bool.and_true, Bool.true_and, Bool.and_false, Bool.false_and, Bool.not_true, Bool.not_false, List.all_cons, List.all_nil, Bool.false_eq_true, reduceIte]) h0 (by omega)) (fun i hi => ⟨_, rfl, by
      have := List.mem_range.mp hi
      rw [e_rng2P (a := 0 + ((i : Nat) : Int) + 1) (b := h) (by simp only [runFn, startE, evSs, evEs, v_non, v_bl, v_int, v_str, v_var, v_glob, v_bin, v_neg, v_not, v_cmp, v_chain, v_isC, v_andL, v_orL, v_ite, v_tup, v_lst, v_idx, v_slice, v_rev, v_call, v_callD, v_callK, v_b1, v_mm, v_isi, v_lrange, v_dget, v_didx, w_assign, w_par, w_unpack, w_append, w_expr, w_ite, w_ret, w_cont, w_raise, w_aug, w_augIdx, evAnd, evOr, evO, evC, evT, look, put, puts, tgPut, wipeE, thaw, lk, lks, lkT, lost, lostT, newL, bindTo, ownL, sc_non, sc_bl, sc_int, sc_str, sc_tup, sc_lst, sc_scr, sc_mref, flat_lst, flat_int, flat_tup, flat_bl, flat_non, flat_mref, flat_scr, isL_lst, isL_tup, isL_int, isL_bl, isL_non, isL_scr, isL_mref, isL_str, opt_some, no_bind, tyD, truth, x_lt, x_le, x_gt, x_ge, x_eqI, x_neI, x_eqL, x_neL, x_eqT, x_neT, x_eqS, binD, negD, isD, idxD, q1_lenL, q1_lenT, q1_lenS, q1_sumL, q1_sumT, q1_abs, q1_listL, q1_listT, q1_tupleL, q1_tupleT, q1_intI, q1_intB, q1_all, q1_min, q1_max, items, fin, pure_bind, bind_assoc, optI, sliceD, List.set_cons_succ, List.set_cons_zero, List.getElem?_cons_succ, List.getElem?_cons_zero, List.getElem?_nil, Option.bind_some, Option.map_some, Option.map_none, List.length_map, List.length_cons, List.length_nil, List.map_cons, List.map_nil, List.cons_append, List.nil_append, List.append_nil, List.replicate_succ, List.replicate_zero, Nat.reduceAdd, Nat.reduceSub, Nat.reduceLeDiff, Nat.reduceLT, if_true, if_false, ite_true, ite_false, Bool.or_true, Bool.or_false, Bool.true_or, Bool.false_or, Bool.and_true, Bool.true_and, Bool.and_false, Bool.false_and, Bool.not_true, Bool.not_false, List.all_cons, List.all_nil, Bool.false_eq_true, reduceIte, put, wipeE, thaw]) (by simp only [runFn, startE, evSs, evEs, v_non, v_bl, v_int, v_str, v_var, v_glob, v_bin, v_neg, v_not, v_cmp, v_chain, v_isC, v_andL, v_orL, v_ite, v_tup, v_lst, v_idx, v_slice, v_rev, v_call, v_callD, v_callK, v_b1, v_mm, v_isi, v_lrange, v_dget, v_didx, w_assign, w_par, w_unpack, w_append, w_expr, w_ite, w_ret, w_cont, w_raise, w_aug, w_augIdx, evAnd, evOr, evO, evC, evT, look, put, puts, tgPut, wipeE, thaw, lk, lks, lkT, lost, lostT, newL, bindTo, ownL, sc_non, sc_bl, sc_int, sc_str, sc_tup, sc_lst, sc_scr, sc_mref, flat_lst, flat_int, flat_tup, flat_bl, flat_non, flat_mref, flat_scr, isL_lst, isL_tup, isL_int, isL_bl, isL_non, isL_scr, isL_mref, isL_str, opt_some, no_bind, tyD, truth, x_lt, x_le, x_gt, x_ge, x_eqI, x_neI, x_eqL, x_neL, x_eqT, x_neT, x_eqS, binD, negD, isD, idxD, q1_lenL, q1_lenT, q1_lenS, q1_sumL, q1_sumT, q1_abs, q1_listL, q1_listT, q1_tupleL, q1_tupleT, q1_intI, q1_intB, q1_all, q1_min, q1_max, items, fin, pure_bind, bind_assoc, optI, sliceD, List.set_cons_succ, List.set_cons_zero, List.getElem?_cons_succ, List.getElem?_cons_zero, List.getElem?_nil, Option.bind_some, Option.map_some, Option.map_none, List.length_map, List.length_cons, List.length_nil, List.map_cons, List.map_nil, List.cons_append, List.nil_append, List.append_nil, List.replicate_succ, List.replicate_zero, Nat.reduceAdd, Nat.reduceSub, Nat.reduceLeDiff, Nat.reduceLT, if_true, if_false, ite_true, ite_false, Bool.or_true, Bool.or_false, Bool.true_or, Bool.false_or, Bool.and_true, Bool.true_and, Bool.and_false, Bool.false_and, Bool.not_true, Bool.not_false, List.all_cons, List.all_nil, Bool.false_eq_true, reduceIte, put, wipeE, thaw]) (by omega) (by omega) (by omega) (by omega), List.map_map]
      rfl, fun q hq => ⟨_, rfl, by simp only [runFn, startE, evSs, evEs, v_non, v_bl, v_int, v_str, v_var, v_glob, v_bin, v_neg, v_not, v_cmp, v_chain, v_isC, v_andL, v_orL, v_ite, v_tup, v_lst, v_idx, v_slice, v_rev, v_call, v_callD, v_callK, v_b1, v_mm, v_isi, v_lrange, v_dget, v_didx, w_assign, w_par, w_unpack, w_append, w_expr, w_ite, w_ret, w_cont, w_raise, w_aug, w_augIdx, evAnd, evOr, evO, evC, evT, look, put, puts, tgPut, wipeE, thaw, lk, lks, lkT, lost, lostT, newL, bindTo, ownL, sc_non, sc_bl, sc_int, sc_str, sc_tup, sc_lst, sc_scr, sc_mref, flat_lst, flat_int, flat_tup, flat_bl, flat_non, flat_mref, flat_scr, isL_lst, isL_tup, isL_int, isL_bl, isL_non, isL_scr, isL_mref, isL_str, opt_some, no_bind, tyD, truth, x_lt, x_le, x_gt, x_ge, x_eqI, x_neI, x_eqL, x_neL, x_eqT, x_neT, x_eqS, binD, negD, isD, idxD, q1_lenL, q1_lenT, q1_lenS, q1_sumL, q1_sumT, q1_abs, q1_listL, q1_listT, q1_tupleL, q1_tupleT, q1_intI, q1_intB, q1_all, q1_min, q1_max, items, fin, pure_bind, bind_assoc, optI, sliceD, List.set_cons_succ, List.set_cons_zero, List.getElem?_cons_succ, List.getElem?_cons_zero, List.getElem?_nil, Option.bind_some, Option.map_some, Option.map_none, List.length_map, List.length_cons, List.length_nil, List.map_cons, List.map_nil, List.cons_append, List.nil_append, List.append_nil, List.replicate_succ, List.replicate_zero, Nat.reduceAdd, Nat.reduceSub, Nat.reduceLeDiff, Nat.reduceLT, if_true, if_false, ite_true, ite_false, Bool.or_true, Bool.or_false, Bool.true_or, Bool.false_or, Bool.and_true, Bool.true_and, Bool.and_false, Bool.false_and, Bool.not_true, Bool.not_false, List.all_cons, List.all_nil, Bool.false_eq_true, reduceIte, put, wipeE, thaw]; rfl⟩⟩) (by
      have := pairs_len h2
      have e := congrArg List.length hm
      rw [List.length_map] at e
      simp only [List.map_map, Function.comp_def]
      rw [← e]
      omega)
  simp only [List.map_map, Function.comp_def] at hc
  rw [← hm] at hc
  simp only [fn_pairs_of, runFn, startE, evSs, evEs, v_non, v_bl, v_int, v_str, v_var, v_glob, v_bin, v_neg, v_not, v_cmp, v_chain, v_isC, v_andL, v_orL, v_ite, v_tup, v_lst, v_idx, v_slice, v_rev, v_call, v_callD, v_callK, v_b1, v_mm, v_isi, v_lrange, v_dget, v_didx, w_assign, w_par, w_unpack, w_append, w_expr, w_ite, w_ret, w_cont, w_raise, w_aug, w_augIdx, evAnd, evOr, evO, evC, evT, look, put, puts, tgPut, wipeE, thaw, lk, lks, lkT, lost, lostT, newL, bindTo, ownL, sc_non, sc_bl, sc_int, sc_str, sc_tup, sc_lst, sc_scr, sc_mref, flat_lst, flat_int, flat_tup, flat_bl, flat_non, flat_mref, flat_scr, isL_lst, isL_tup, isL_int, isL_bl, isL_non, isL_scr, isL_mref, isL_str, opt_some, no_bind, tyD, truth, x_lt, x_le, x_gt, x_ge, x_eqI, x_neI, x_eqL, x_neL, x_eqT, x_neT, x_eqS, binD, negD, isD, idxD, q1_lenL, q1_lenT, q1_lenS, q1_sumL, q1_sumT, q1_abs, q1_listL, q1_listT, q1_tupleL, q1_tupleT, q1_intI, q1_intB, q1_all, q1_min, q1_max, items, fin, pure_bind, bind_assoc, optI, sliceD, List.set_cons_succ, List.set_cons_zero, List.getElem?_cons_succ, List.getElem?_cons_zero, List.getElem?_nil, Option.bind_some, Option.map_some, Option.map_none, List.length_map, List.length_cons, List.length_nil, List.map_cons, List.map_nil, List.cons_append, List.nil_append, List.append_nil, List.replicate_succ, List.replicate_zero, Nat.reduceAdd, Nat.reduceSub, Nat.reduceLeDiff, Nat.reduceLT, if_true, if_false, ite_true, ite_false, Bool.or_true, Bool.or_false, Bool.true_or, Bool.false_or, Bool.and_true, Bool.true_and, Bool.and_false, Bool.false_and, Bool.not_true, Bool.not_false, List.all_cons, List.all_nil, Bool.false_eq_true, reduceIte, hc]
theorem blsOf_map {α : Type} (f : α → Bool) : ∀ l : List α, blsOf (l.map fun x => .bl (f x)) = some (l.map f)
  | [] => rfl
  | x :: l => by rw [List.map_cons, blsOf, blsOf_map f l]; rfl
def evenB (h : Int) (r : List Int) (d : Nat) : Bool := (pairs h).all fun p => twoB (r.map (sgn p.1 p.2)) d
theorem e_even_of {h dg : Int} {r : List Int} (h0 : 0 ≤ h) (h2 : h ≤ 4) (hr : r.length ≤ 1000) (r1 : 1 ≤ r.length) (d0 : 0 ≤ dg) (d1 : dg ≤ 900) : callN tbl S (n + 3) 32 [.int h, .tup (iD r), .int dg] = pure (.bl (evenB h r dg.toNat)) := by
  rw [c_even_of]
  have hc := evComp (S := S) (c := callN tbl S (n + 2)) (vs := [3, 4]) (tg := .many [3, 4]) (it := .seq (.call 30 (.cons (.var 0) .nil))) (elt := .call 31 (.cons (.var 1) (.cons (.var 3) (.cons (.var 4) (.cons (.var 2) .nil))))) (ρ := [some (false, .int h), some (false, .tup (iD r)), some (false, .int dg), none, none])
    prD (fun p => D.bl (twoB (r.map (sgn p.1 p.2)) dg.toNat)) (xs := pairs h) (by simp only [runFn, startE, evSs, evEs, v_non, v_bl, v_int, v_str, v_var, v_glob, v_bin, v_neg, v_not, v_cmp, v_chain, v_isC, v_andL, v_orL, v_ite, v_tup, v_lst, v_idx, v_slice, v_rev, v_call, v_callD, v_callK, v_b1, v_mm, v_isi, v_lrange, v_dget, v_didx, w_assign, w_par, w_unpack, w_append, w_expr, w_ite, w_ret, w_cont, w_raise, w_aug, w_augIdx, evAnd, evOr, evO, evC, evT, look, put, puts, tgPut, wipeE, thaw, lk, lks, lkT, lost, lostT, newL, bindTo, ownL, sc_non, sc_bl, sc_int, sc_str, sc_tup, sc_lst, sc_scr, sc_mref, flat_lst, flat_int, flat_tup, flat_bl, flat_non, flat_mref, flat_scr, isL_lst, isL_tup, isL_int, isL_bl, isL_non, isL_scr, isL_mref, isL_str, opt_some, no_bind, tyD, truth, x_lt, x_le, x_gt, x_ge, x_eqI, x_neI, x_eqL, x_neL, x_eqT, x_neT, x_eqS, binD, negD, isD, idxD, q1_lenL, q1_lenT, q1_lenS, q1_sumL, q1_sumT, q1_abs, q1_listL, q1_listT, q1_tupleL, q1_tupleT, q1_intI, q1_intB, q1_all, q1_min, q1_max, items, fin, pure_bind, bind_assoc, optI, sliceD, List.set_cons_succ, List.set_cons_zero, List.getElem?_cons_succ, List.getElem?_cons_zero, List.getElem?_nil, Option.bind_some, Option.map_some, Option.map_none, List.length_map, List.length_cons, List.length_nil, List.map_cons, List.map_nil, List.cons_append, List.nil_append, List.append_nil, List.replicate_succ, List.replicate_zero, Nat.reduceAdd, Nat.reduceSub, Nat.reduceLeDiff, Nat.reduceLT, if_true, if_false, ite_true, ite_false, Bool.or_true, Bool.or_false, Bool.true_or, Bool.false_or, Bool.and_true, Bool.true_and, Bool.and_false, Bool.false_and, Bool.not_true, Bool.not_false, List.all_cons, List.all_nil, Bool.false_eq_true, reduceIte, e_pairs_of h0 h2]) (fun p hp => ⟨_, rfl, by simp only [runFn, startE, evSs, evEs, v_non, v_bl, v_int, v_str, v_var, v_glob, v_bin, v_neg, v_not, v_cmp, v_chain, v_isC, v_andL, v_orL, v_ite, v_tup, v_lst, v_idx, v_slice, v_rev, v_call, v_callD, v_callK, v_b1, v_mm, v_isi, v_lrange, v_dget, v_didx, w_assign, w_par, w_unpack, w_append, w_expr, w_ite, w_ret, w_cont, w_raise, w_aug, w_augIdx, evAnd, evOr, evO, evC, evT, look, put, puts, tgPut, wipeE, thaw, lk, lks, lkT, lost, lostT, newL, bindTo, ownL, sc_non, sc_bl, sc_int, sc_str, sc_tup, sc_lst, sc_scr, sc_mref, flat_lst, flat_int, flat_tup, flat_bl, flat_non, flat_mref, flat_scr, isL_lst, isL_tup, isL_int, isL_bl, isL_non, isL_scr, isL_mref, isL_str, opt_some, no_bind, tyD, truth, x_lt, x_le, x_gt, x_ge, x_eqI, x_neI, x_eqL, x_neL, x_eqT, x_neT, x_eqS, binD, negD, isD, idxD, q1_lenL, q1_lenT, q1_lenS, q1_sumL, q1_sumT, q1_abs, q1_listL, q1_listT, q1_tupleL, q1_tupleT, q1_intI, q1_intB, q1_all, q1_min, q1_max, items, fin, pure_bind, bind_assoc, optI, sliceD, List.set_cons_succ, List.set_cons_zero, List.getElem?_cons_succ, List.getElem?_cons_zero, List.getElem?_nil, Option.bind_some, Option.map_some, Option.map_none, List.length_map, List.length_cons, List.length_nil, List.map_cons, List.map_nil, List.cons_append, List.nil_append, List.append_nil, List.replicate_succ, List.replicate_zero, Nat.reduceAdd, Nat.reduceSub, Nat.reduceLeDiff, Nat.reduceLT, if_true, if_false, ite_true, ite_false, Bool.or_true, Bool.or_false, Bool.true_or, Bool.false_or, Bool.and_true, Bool.true_and, Bool.and_false, Bool.false_and, Bool.not_true, Bool.not_false, List.all_cons, List.all_nil, Bool.false_eq_true, reduceIte, put, puts, wipeE, thaw, e_two_even hr r1 d0 d1]⟩) (by have := pairs_len h2; omega)
  simp only [fn_even_of, runFn, startE, evSs, evEs, v_non, v_bl, v_int, v_str, v_var, v_glob, v_bin, v_neg, v_not, v_cmp, v_chain, v_isC, v_andL, v_orL, v_ite, v_tup, v_lst, v_idx, v_slice, v_rev, v_call, v_callD, v_callK, v_b1, v_mm, v_isi, v_lrange, v_dget, v_didx, w_assign, w_par, w_unpack, w_append, w_expr, w_ite, w_ret, w_cont, w_raise, w_aug, w_augIdx, evAnd, evOr, evO, evC, evT, look, put, puts, tgPut, wipeE, thaw, lk, lks, lkT, lost, lostT, newL, bindTo, ownL, sc_non, sc_bl, sc_int, sc_str, sc_tup, sc_lst, sc_scr, sc_mref, flat_lst, flat_int, flat_tup, flat_bl, flat_non, flat_mref, flat_scr, isL_lst, isL_tup, isL_int, isL_bl, isL_non, isL_scr, isL_mref, isL_str, opt_some, no_bind, tyD, truth, x_lt, x_le, x_gt, x_ge, x_eqI, x_neI, x_eqL, x_neL, x_eqT, x_neT, x_eqS, binD, negD, isD, idxD, q1_lenL, q1_lenT, q1_lenS, q1_sumL, q1_sumT, q1_abs, q1_listL, q1_listT, q1_tupleL, q1_tupleT, q1_intI, q1_intB, q1_all, q1_min, q1_max, items, fin, pure_bind, bind_assoc, optI, sliceD, List.set_cons_succ, List.set_cons_zero, List.getElem?_cons_succ, List.getElem?_cons_zero, List.getElem?_nil, Option.bind_some, Option.map_some, Option.map_none, List.length_map, List.length_cons, List.length_nil, List.map_cons, List.map_nil, List.cons_append, List.nil_append, List.append_nil, List.replicate_succ, List.replicate_zero, Nat.reduceAdd, Nat.reduceSub, Nat.reduceLeDiff, Nat.reduceLT, if_true, if_false, ite_true, ite_false, Bool.or_true, Bool.or_false, Bool.true_or, Bool.false_or, Bool.and_true, Bool.true_and, Bool.and_false, Bool.false_and, Bool.not_true, Bool.not_false, List.all_cons, List.all_nil, Bool.false_eq_true, reduceIte, hc, blsOf_map]
  show (pure (D.bl _) : M D) = pure (D.bl _)
  rw [List.all_map]
  rfl
theorem e_is_even {h dg : Int} {r : List Int} (h1 : 2 ≤ h) (h2 : h ≤ 4) (g : Row h r) (d0 : 0 ≤ dg) (d1 : dg ≤ 9) : callN tbl S (n + 4) 41 [.int h, .tup (iD r), .int dg] = pure (.bl (evenB h r dg.toNat)) := by
  rw [c_is_even]
  have hr : r.length ≤ 1000 := Nat.le_trans g.2.1 (by decide)
  simp only [fn_is_even, runFn, startE, evSs, evEs, v_non, v_bl, v_int, v_str, v_var, v_glob, v_bin, v_neg, v_not, v_cmp, v_chain, v_isC, v_andL, v_orL, v_ite, v_tup, v_lst, v_idx, v_slice, v_rev, v_call, v_callD, v_callK, v_b1, v_mm, v_isi, v_lrange, v_dget, v_didx, w_assign, w_par, w_unpack, w_append, w_expr, w_ite, w_ret, w_cont, w_raise, w_aug, w_augIdx, evAnd, evOr, evO, evC, evT, look, put, puts, tgPut, wipeE, thaw, lk, lks, lkT, lost, lostT, newL, bindTo, ownL, sc_non, sc_bl, sc_int, sc_str, sc_tup, sc_lst, sc_scr, sc_mref, flat_lst, flat_int, flat_tup, flat_bl, flat_non, flat_mref, flat_scr, isL_lst, isL_tup, isL_int, isL_bl, isL_non, isL_scr, isL_mref, isL_str, opt_some, no_bind, tyD, truth, x_lt, x_le, x_gt, x_ge, x_eqI, x_neI, x_eqL, x_neL, x_eqT, x_neT, x_eqS, binD, negD, isD, idxD, q1_lenL, q1_lenT, q1_lenS, q1_sumL, q1_sumT, q1_abs, q1_listL, q1_listT, q1_tupleL, q1_tupleT, q1_intI, q1_intB, q1_all, q1_min, q1_max, items, fin, pure_bind, bind_assoc, optI, sliceD, List.set_cons_succ, List.set_cons_zero, List.getElem?_cons_succ, List.getElem?_cons_zero, List.getElem?_nil, Option.bind_some, Option.map_some, Option.map_none, List.length_map, List.length_cons, List.length_nil, List.map_cons, List.map_nil, List.cons_append, List.nil_append, List.append_nil, List.replicate_succ, List.replicate_zero, Nat.reduceAdd, Nat.reduceSub, Nat.reduceLeDiff, Nat.reduceLT, if_true, if_false, ite_true, ite_false, Bool.or_true, Bool.or_false, Bool.true_or, Bool.false_or, Bool.and_true, Bool.true_and, Bool.and_false, Bool.false_and, Bool.not_true, Bool.not_false, List.all_cons, List.all_nil, Bool.false_eq_true, reduceIte, e_need_row h1 h2 g, e_is_whole, decide_eq_true d0, decide_eq_true d1, e_even_of (show 0 ≤ h by omega) h2 hr g.1 d0 (show dg ≤ 900 by omega)]
/-- N is the first degree at which it fails -/
theorem e_evenness {h : Int} {r : List Int} {N : Nat} (h1 : 2 ≤ h) (h2 : h ≤ 4) (g : Row h r) (hN : N ≤ 800) (hf : evenB h r N = false) (ht : ∀ i < N, evenB h r i = true) {μ : Mu} : callN tbl S (n + 4) 39 [.int h, .tup (iD r)] μ = .ok (.int ((N : Int) - 1)) μ := by
  have hr : r.length ≤ 1000 := Nat.le_trans g.2.1 (by decide)
  rw [c_evenness]
  obtain ⟨ρ', μ', e1, hj1, hj2⟩ := whileR (S := S) (c := callN tbl S (n + 3)) (ss := .cons (.ret (.var 2)) .nil) (n := 1000) (m := N) (e := .call 32 (.cons (.var 0) (.cons (.var 1) (.cons (.bin .add (.var 2) (.int 1)) .nil)))) (body := .cons (.aug 2 (.int 1)) .nil) (ρ := [some (false, .int h), some (false, .tup (iD r)), some (false, .int (-1))]) (μ := μ)
    (fun m ρ ν => ν = μ ∧ m ≤ N ∧ ρ = [some (false, .int h), some (false, .tup (iD r)), some (false, .int ((N : Int) - 1 - m))]) ⟨rfl, Nat.le_refl _, by rw [show (N : Int) - 1 - N = -1 by omega]⟩ (by omega)
    (fun m ρ ν hj => by
      obtain ⟨rfl, hm, rfl⟩ := hj
      refine ⟨?_, [some (false, .int h), some (false, .tup (iD r)), some (false, .int ((N : Int) - 1 - m))], ν, ?_, rfl, by omega, rfl⟩
      · simp only [runFn, startE, evSs, evEs, v_non, v_bl, v_int, v_str, v_var, v_glob, v_bin, v_neg, v_not, v_cmp, v_chain, v_isC, v_andL, v_orL, v_ite, v_tup, v_lst, v_idx, v_slice, v_rev, v_call, v_callD, v_callK, v_b1, v_mm, v_isi, v_lrange, v_dget, v_didx, w_assign, w_par, w_unpack, w_append, w_expr, w_ite, w_ret, w_cont, w_raise, w_aug, w_augIdx, evAnd, evOr, evO, evC, evT, look, put, puts, tgPut, wipeE, thaw, lk, lks, lkT, lost, lostT, newL, bindTo, ownL, sc_non, sc_bl, sc_int, sc_str, sc_tup, sc_lst, sc_scr, sc_mref, flat_lst, flat_int, flat_tup, flat_bl, flat_non, flat_mref, flat_scr, isL_lst, isL_tup, isL_int, isL_bl, isL_non, isL_scr, isL_mref, isL_str, opt_some, no_bind, tyD, truth, x_lt, x_le, x_gt, x_ge, x_eqI, x_neI, x_eqL, x_neL, x_eqT, x_neT, x_eqS, binD, negD, isD, idxD, q1_lenL, q1_lenT, q1_lenS, q1_sumL, q1_sumT, q1_abs, q1_listL, q1_listT, q1_tupleL, q1_tupleT, q1_intI, q1_intB, q1_all, q1_min, q1_max, items, fin, pure_bind, bind_assoc, optI, sliceD, List.set_cons_succ, List.set_cons_zero, List.getElem?_cons_succ, List.getElem?_cons_zero, List.getElem?_nil, Option.bind_some, Option.map_some, Option.map_none, List.length_map, List.length_cons, List.length_nil, List.map_cons, List.map_nil, List.cons_append, List.nil_append, List.append_nil, List.replicate_succ, List.replicate_zero, Nat.reduceAdd, Nat.reduceSub, Nat.reduceLeDiff, Nat.reduceLT, if_true, if_false, ite_true, ite_false, Bool.or_true, Bool.or_false, Bool.true_or, Bool.false_or, Bool.and_true, Bool.true_and, Bool.and_false, Bool.false_and, Bool.not_true, Bool.not_false, List.all_cons, List.all_nil, Bool.false_eq_true, reduceIte]
        rw [e_even_of (by omega) h2 hr g.1 (by omega) (by omega), ht _ (by omega)]
        rfl
      · simp only [runFn, startE, evSs, evEs, v_non, v_bl, v_int, v_str, v_var, v_glob, v_bin, v_neg, v_not, v_cmp, v_chain, v_isC, v_andL, v_orL, v_ite, v_tup, v_lst, v_idx, v_slice, v_rev, v_call, v_callD, v_callK, v_b1, v_mm, v_isi, v_lrange, v_dget, v_didx, w_assign, w_par, w_unpack, w_append, w_expr, w_ite, w_ret, w_cont, w_raise, w_aug, w_augIdx, evAnd, evOr, evO, evC, evT, look, put, puts, tgPut, wipeE, thaw, lk, lks, lkT, lost, lostT, newL, bindTo, ownL, sc_non, sc_bl, sc_int, sc_str, sc_tup, sc_lst, sc_scr, sc_mref, flat_lst, flat_int, flat_tup, flat_bl, flat_non, flat_mref, flat_scr, isL_lst, isL_tup, isL_int, isL_bl, isL_non, isL_scr, isL_mref, isL_str, opt_some, no_bind, tyD, truth, x_lt, x_le, x_gt, x_ge, x_eqI, x_neI, x_eqL, x_neL, x_eqT, x_neT, x_eqS, binD, negD, isD, idxD, q1_lenL, q1_lenT, q1_lenS, q1_sumL, q1_sumT, q1_abs, q1_listL, q1_listT, q1_tupleL, q1_tupleT, q1_intI, q1_intB, q1_all, q1_min, q1_max, items, fin, pure_bind, bind_assoc, optI, sliceD, List.set_cons_succ, List.set_cons_zero, List.getElem?_cons_succ, List.getElem?_cons_zero, List.getElem?_nil, Option.bind_some, Option.map_some, Option.map_none, List.length_map, List.length_cons, List.length_nil, List.map_cons, List.map_nil, List.cons_append, List.nil_append, List.append_nil, List.replicate_succ, List.replicate_zero, Nat.reduceAdd, Nat.reduceSub, Nat.reduceLeDiff, Nat.reduceLT, if_true, if_false, ite_true, ite_false, Bool.or_true, Bool.or_false, Bool.true_or, Bool.false_or, Bool.and_true, Bool.true_and, Bool.and_false, Bool.false_and, Bool.not_true, Bool.not_false, List.all_cons, List.all_nil, Bool.false_eq_true, reduceIte]
        rw [show (N : Int) - 1 - ((m + 1 : Nat) : Int) + 1 = (N : Int) - 1 - m by omega]
        rfl)
    (fun ρ ν hj => by
      obtain ⟨rfl, _, rfl⟩ := hj
      simp only [runFn, startE, evSs, evEs, v_non, v_bl, v_int, v_str, v_var, v_glob, v_bin, v_neg, v_not, v_cmp, v_chain, v_isC, v_andL, v_orL, v_ite, v_tup, v_lst, v_idx, v_slice, v_rev, v_call, v_callD, v_callK, v_b1, v_mm, v_isi, v_lrange, v_dget, v_didx, w_assign, w_par, w_unpack, w_append, w_expr, w_ite, w_ret, w_cont, w_raise, w_aug, w_augIdx, evAnd, evOr, evO, evC, evT, look, put, puts, tgPut, wipeE, thaw, lk, lks, lkT, lost, lostT, newL, bindTo, ownL, sc_non, sc_bl, sc_int, sc_str, sc_tup, sc_lst, sc_scr, sc_mref, flat_lst, flat_int, flat_tup, flat_bl, flat_non, flat_mref, flat_scr, isL_lst, isL_tup, isL_int, isL_bl, isL_non, isL_scr, isL_mref, isL_str, opt_some, no_bind, tyD, truth, x_lt, x_le, x_gt, x_ge, x_eqI, x_neI, x_eqL, x_neL, x_eqT, x_neT, x_eqS, binD, negD, isD, idxD, q1_lenL, q1_lenT, q1_lenS, q1_sumL, q1_sumT, q1_abs, q1_listL, q1_listT, q1_tupleL, q1_tupleT, q1_intI, q1_intB, q1_all, q1_min, q1_max, items, fin, pure_bind, bind_assoc, optI, sliceD, List.set_cons_succ, List.set_cons_zero, List.getElem?_cons_succ, List.getElem?_cons_zero, List.getElem?_nil, Option.bind_some, Option.map_some, Option.map_none, List.length_map, List.length_cons, List.length_nil, List.map_cons, List.map_nil, List.cons_append, List.nil_append, List.append_nil, List.replicate_succ, List.replicate_zero, Nat.reduceAdd, Nat.reduceSub, Nat.reduceLeDiff, Nat.reduceLT, if_true, if_false, ite_true, ite_false, Bool.or_true, Bool.or_false, Bool.true_or, Bool.false_or, Bool.and_true, Bool.true_and, Bool.and_false, Bool.false_and, Bool.not_true, Bool.not_false, List.all_cons, List.all_nil, Bool.false_eq_true, reduceIte]
      rw [e_even_of (by omega) h2 hr g.1 (by omega) (by omega), show ((N : Int) - 1 - (0 : Nat) + 1).toNat = N by omega, hf]
      rfl)
  obtain ⟨_, hj2⟩ := hj2
  subst hj1 hj2
  refine runR (ρ1 := [some (false, .int h), some (false, .tup (iD r)), some (false, .int ((N : Int) - 1 - (0 : Nat)))]) rfl ?_
  rw [show startE fn_evenness.slots [D.int h, .tup (iD r)] = [some (false, .int h), some (false, .tup (iD r)), none] from rfl]
  unfold fn_evenness
  refine (exprR (d := .non) (by simp only [runFn, startE, evSs, evEs, v_non, v_bl, v_int, v_str, v_var, v_glob, v_bin, v_neg, v_not, v_cmp, v_chain, v_isC, v_andL, v_orL, v_ite, v_tup, v_lst, v_idx, v_slice, v_rev, v_call, v_callD, v_callK, v_b1, v_mm, v_isi, v_lrange, v_dget, v_didx, w_assign, w_par, w_unpack, w_append, w_expr, w_ite, w_ret, w_cont, w_raise, w_aug, w_augIdx, evAnd, evOr, evO, evC, evT, look, put, puts, tgPut, wipeE, thaw, lk, lks, lkT, lost, lostT, newL, bindTo, ownL, sc_non, sc_bl, sc_int, sc_str, sc_tup, sc_lst, sc_scr, sc_mref, flat_lst, flat_int, flat_tup, flat_bl, flat_non, flat_mref, flat_scr, isL_lst, isL_tup, isL_int, isL_bl, isL_non, isL_scr, isL_mref, isL_str, opt_some, no_bind, tyD, truth, x_lt, x_le, x_gt, x_ge, x_eqI, x_neI, x_eqL, x_neL, x_eqT, x_neT, x_eqS, binD, negD, isD, idxD, q1_lenL, q1_lenT, q1_lenS, q1_sumL, q1_sumT, q1_abs, q1_listL, q1_listT, q1_tupleL, q1_tupleT, q1_intI, q1_intB, q1_all, q1_min, q1_max, items, fin, pure_bind, bind_assoc, optI, sliceD, List.set_cons_succ, List.set_cons_zero, List.getElem?_cons_succ, List.getElem?_cons_zero, List.getElem?_nil, Option.bind_some, Option.map_some, Option.map_none, List.length_map, List.length_cons, List.length_nil, List.map_cons, List.map_nil, List.cons_append, List.nil_append, List.append_nil, List.replicate_succ, List.replicate_zero, Nat.reduceAdd, Nat.reduceSub, Nat.reduceLeDiff, Nat.reduceLT, if_true, if_false, ite_true, ite_false, Bool.or_true, Bool.or_false, Bool.true_or, Bool.false_or, Bool.and_true, Bool.true_and, Bool.and_false, Bool.false_and, Bool.not_true, Bool.not_false, List.all_cons, List.all_nil, Bool.false_eq_true, reduceIte, e_need_row h1 h2 g]; rfl)).trans ?_
  refine (setR (d := .int (-1)) (by simp only [runFn, startE, evSs, evEs, v_non, v_bl, v_int, v_str, v_var, v_glob, v_bin, v_neg, v_not, v_cmp, v_chain, v_isC, v_andL, v_orL, v_ite, v_tup, v_lst, v_idx, v_slice, v_rev, v_call, v_callD, v_callK, v_b1, v_mm, v_isi, v_lrange, v_dget, v_didx, w_assign, w_par, w_unpack, w_append, w_expr, w_ite, w_ret, w_cont, w_raise, w_aug, w_augIdx, evAnd, evOr, evO, evC, evT, look, put, puts, tgPut, wipeE, thaw, lk, lks, lkT, lost, lostT, newL, bindTo, ownL, sc_non, sc_bl, sc_int, sc_str, sc_tup, sc_lst, sc_scr, sc_mref, flat_lst, flat_int, flat_tup, flat_bl, flat_non, flat_mref, flat_scr, isL_lst, isL_tup, isL_int, isL_bl, isL_non, isL_scr, isL_mref, isL_str, opt_some, no_bind, tyD, truth, x_lt, x_le, x_gt, x_ge, x_eqI, x_neI, x_eqL, x_neL, x_eqT, x_neT, x_eqS, binD, negD, isD, idxD, q1_lenL, q1_lenT, q1_lenS, q1_sumL, q1_sumT, q1_abs, q1_listL, q1_listT, q1_tupleL, q1_tupleT, q1_intI, q1_intB, q1_all, q1_min, q1_max, items, fin, pure_bind, bind_assoc, optI, sliceD, List.set_cons_succ, List.set_cons_zero, List.getElem?_cons_succ, List.getElem?_cons_zero, List.getElem?_nil, Option.bind_some, Option.map_some, Option.map_none, List.length_map, List.length_cons, List.length_nil, List.map_cons, List.map_nil, List.cons_append, List.nil_append, List.append_nil, List.replicate_succ, List.replicate_zero, Nat.reduceAdd, Nat.reduceSub, Nat.reduceLeDiff, Nat.reduceLT, if_true, if_false, ite_true, ite_false, Bool.or_true, Bool.or_false, Bool.true_or, Bool.false_or, Bool.and_true, Bool.true_and, Bool.and_false, Bool.false_and, Bool.not_true, Bool.not_false, List.all_cons, List.all_nil, Bool.false_eq_true, reduceIte]; rfl)).trans ?_
  simp only [bindTo, sc_ints, lost, lostT, thaw, lkT, lk, lks, newL, sc_non, sc_bl, sc_int, sc_str, sc_tup, sc_lst, sc_scr, sc_mref, flat_lst, flat_int, flat_tup, flat_bl, flat_non, flat_mref, flat_scr, isL_lst, isL_tup, isL_int, isL_bl, isL_non, isL_scr, isL_mref, isL_str, List.set_cons_succ, List.set_cons_zero, List.getElem?_cons_succ, List.getElem?_cons_zero, List.getElem?_nil, Option.bind_some, Option.map_some, Option.map_none, List.length_map, List.length_cons, List.length_nil, List.map_cons, List.map_nil, List.cons_append, List.nil_append, List.append_nil, List.replicate_succ, List.replicate_zero, Nat.reduceAdd, Nat.reduceSub, Nat.reduceLeDiff, Nat.reduceLT, if_true, if_false, ite_true, ite_false, Bool.or_true, Bool.or_false, Bool.true_or, Bool.false_or, Bool.and_true, Bool.true_and, Bool.and_false, Bool.false_and, Bool.not_true, Bool.not_false, List.all_cons, List.all_nil, Bool.false_eq_true, reduceIte]
  refine e1.trans (retR ?_)
  simp only [runFn, startE, evSs, evEs, v_non, v_bl, v_int, v_str, v_var, v_glob, v_bin, v_neg, v_not, v_cmp, v_chain, v_isC, v_andL, v_orL, v_ite, v_tup, v_lst, v_idx, v_slice, v_rev, v_call, v_callD, v_callK, v_b1, v_mm, v_isi, v_lrange, v_dget, v_didx, w_assign, w_par, w_unpack, w_append, w_expr, w_ite, w_ret, w_cont, w_raise, w_aug, w_augIdx, evAnd, evOr, evO, evC, evT, look, put, puts, tgPut, wipeE, thaw, lk, lks, lkT, lost, lostT, newL, bindTo, ownL, sc_non, sc_bl, sc_int, sc_str, sc_tup, sc_lst, sc_scr, sc_mref, flat_lst, flat_int, flat_tup, flat_bl, flat_non, flat_mref, flat_scr, isL_lst, isL_tup, isL_int, isL_bl, isL_non, isL_scr, isL_mref, isL_str, opt_some, no_bind, tyD, truth, x_lt, x_le, x_gt, x_ge, x_eqI, x_neI, x_eqL, x_neL, x_eqT, x_neT, x_eqS, binD, negD, isD, idxD, q1_lenL, q1_lenT, q1_lenS, q1_sumL, q1_sumT, q1_abs, q1_listL, q1_listT, q1_tupleL, q1_tupleT, q1_intI, q1_intB, q1_all, q1_min, q1_max, items, fin, pure_bind, bind_assoc, optI, sliceD, List.set_cons_succ, List.set_cons_zero, List.getElem?_cons_succ, List.getElem?_cons_zero, List.getElem?_nil, Option.bind_some, Option.map_some, Option.map_none, List.length_map, List.length_cons, List.length_nil, List.map_cons, List.map_nil, List.cons_append, List.nil_append, List.append_nil, List.replicate_succ, List.replicate_zero, Nat.reduceAdd, Nat.reduceSub, Nat.reduceLeDiff, Nat.reduceLT, if_true, if_false, ite_true, ite_false, Bool.or_true, Bool.or_false, Bool.true_or, Bool.false_or, Bool.and_true, Bool.true_and, Bool.and_false, Bool.false_and, Bool.not_true, Bool.not_false, List.all_cons, List.all_nil, Bool.false_eq_true, reduceIte]
  rw [show (N : Int) - 1 - ((0 : Nat) : Int) = (N : Int) - 1 by omega]
  rfl
end
end Ev

set_option Elab.async false
set_option linter.all false
set_option maxRecDepth 100000
set_option maxHeartbeats 2000000
namespace Ev
/-! ### differences of functions -/
def dl (f : Nat → Int) : Nat → Int := fun x => f (x + 1) - f x
def dlN : Nat → (Nat → Int) → (Nat → Int)
  | 0, f => f
  | n + 1, f => dl (dlN n f)
theorem dif_fun (f : Nat → Int) (n : Nat) : dif ((List.range n).map f) = (List.range (n - 1)).map (dl f) := by
  refine List.ext_getElem (by rw [dif_len]; simp) fun i h1 h2 => ?_
  rw [dif_len, List.length_map, List.length_range] at h1
  have := dif_get ((List.range n).map f) i (by rw [List.length_map, List.length_range]; omega)
  rw [List.getElem?_eq_getElem (by rw [dif_len, List.length_map, List.length_range]; exact h1)] at this
  rw [Option.some.inj this, List.getElem_map, List.getElem_range]
  have g : ∀ j, j < n → ((List.range n).map f).getD j 0 = f j := fun j hj => by
    rw [List.getD_eq_getElem?_getD, List.getElem?_eq_getElem (by rw [List.length_map, List.length_range]; exact hj), List.getElem_map, List.getElem_range]
    rfl
  rw [g _ (by omega), g _ (by omega)]
  rfl
theorem difN_fun (f : Nat → Int) (n : Nat) : ∀ m, difN m ((List.range n).map f) = (List.range (n - m)).map (dlN m f)
  | 0 => rfl
  | m + 1 => by
    rw [difN, difN_fun f n m, dif_fun, dlN, Nat.sub_sub]
theorem dlN_succ (f : Nat → Int) : ∀ m, dlN (m + 1) f = dlN m (dl f)
  | 0 => rfl
  | m + 1 => by rw [dlN, dlN_succ f m, dlN]
theorem dlN_add (f g : Nat → Int) : ∀ m, dlN m (fun x => f x + g x) = fun x => dlN m f x + dlN m g x
  | 0 => rfl
  | m + 1 => by
    funext x
    rw [dlN, dlN_add f g m, dlN, dlN]
    show (dlN m f (x + 1) + dlN m g (x + 1)) - (dlN m f x + dlN m g x) = (dlN m f (x + 1) - dlN m f x) + (dlN m g (x + 1) - dlN m g x)
    omega
theorem dlN_mul (c : Int) (f : Nat → Int) : ∀ m, dlN m (fun x => c * f x) = fun x => c * dlN m f x
  | 0 => rfl
  | m + 1 => by
    funext x
    rw [dlN, dlN_mul c f m, dlN]
    unfold dl
    rw [Int.mul_sub]
/-- the m-th differences vanish -/
def Van (m : Nat) (f : Nat → Int) : Prop := dlN m f = fun _ => 0
theorem van_up {m : Nat} {f : Nat → Int} (h : Van m f) : Van (m + 1) f := by
  unfold Van
  rw [dlN, show dlN m f = fun _ => 0 from h]
  rfl
theorem van_le {m k : Nat} {f : Nat → Int} (h : Van m f) (hk : m ≤ k) : Van k f := by
  induction hk with
  | refl => exact h
  | step _ ih => exact van_up ih
theorem van_dl {m : Nat} {f : Nat → Int} (h : Van (m + 1) f) : Van m (dl f) := by
  unfold Van
  rw [← dlN_succ]
  exact h
theorem van_of {m : Nat} {f : Nat → Int} (h : Van m (dl f)) : Van (m + 1) f := by
  unfold Van
  rw [dlN_succ]
  exact h
theorem van_add {m : Nat} {f g : Nat → Int} (h : Van m f) (k : Van m g) : Van m fun x => f x + g x := by
  unfold Van
  rw [dlN_add, show dlN m f = fun _ => 0 from h, show dlN m g = fun _ => 0 from k]
  rfl
theorem van_mul {m : Nat} {f : Nat → Int} (c : Int) (h : Van m f) : Van m fun x => c * f x := by
  unfold Van
  rw [dlN_mul, show dlN m f = fun _ => 0 from h]
  funext x
  exact Int.mul_zero c
theorem van_next {m : Nat} {f : Nat → Int} (h : Van m f) : Van m fun x => f (x + 1) := by
  have : ∀ m, dlN m (fun x => f (x + 1)) = fun x => dlN m f (x + 1) := by
    intro m
    induction m with
    | zero => rfl
    | succ m ih => rw [dlN, ih, dlN]; rfl
  unfold Van
  rw [this, show dlN m f = fun _ => 0 from h]
theorem van_x : ∀ {m : Nat} {f : Nat → Int}, Van m f → Van (m + 1) fun x => (x : Int) * f x
  | 0, f, h => by
    have h : f = fun _ => 0 := h
    subst h
    refine van_up (m := 0) ?_
    show (fun x : Nat => (x : Int) * 0) = fun _ => 0
    funext x
    exact Int.mul_zero _
  | m + 1, f, h => by
    refine van_of ?_
    have e : dl (fun x : Nat => (x : Int) * f x) = fun x : Nat => (x : Int) * dl f x + f (x + 1) := by
      funext x
      show ((x + 1 : Nat) : Int) * f (x + 1) - (x : Int) * f x = (x : Int) * (f (x + 1) - f x) + f (x + 1)
      rw [Int.mul_sub, show ((x + 1 : Nat) : Int) = (x : Int) + 1 by omega, Int.add_mul, Int.one_mul]
      omega
    rw [e]
    exact van_add (van_x (van_dl h)) (van_next h)
theorem van_pow : ∀ k : Nat, Van (k + 1) fun x => (x : Int) ^ k
  | 0 => by
    have : (fun x : Nat => (x : Int) ^ 0) = fun _ => 1 := by funext x; exact Int.pow_zero _
    rw [this]
    rfl
  | k + 1 => by
    have : (fun x : Nat => (x : Int) ^ (k + 1)) = fun x : Nat => (x : Int) * (x : Int) ^ k := by
      funext x
      rw [Int.pow_succ, Int.mul_comm]
    rw [this]
    exact van_x (van_pow k)
def poly (qs : List (Int × Nat)) (x : Nat) : Int := (qs.map fun q => q.1 * (x : Int) ^ q.2).sum
theorem van_poly {m : Nat} : ∀ {qs : List (Int × Nat)}, (∀ q ∈ qs, q.2 < m) → Van m (poly qs)
  | [], _ => by
    have : poly [] = fun _ => 0 := rfl
    rw [this]
    exact van_le (m := 0) rfl (Nat.zero_le _)
  | q :: qs, h => by
    have : poly (q :: qs) = fun x : Nat => q.1 * (x : Int) ^ q.2 + poly qs x := rfl
    rw [this]
    exact van_add (van_mul q.1 (van_le (van_pow q.2) (h q (by simp)))) (van_poly fun x hx => h x (List.mem_cons_of_mem _ hx))
theorem zeros_van {m n : Nat} {f : Nat → Int} (h : Van m f) : zeros (difN m ((List.range n).map f)) = true := by
  rw [difN_fun, show dlN m f = fun _ => 0 from h]
  unfold zeros
  rw [List.all_map]
  simp
def spot (j : Nat) (x : Nat) : Int := if x = j then 1 else 0
theorem spot_table : ∀ n < 21, ∀ d < 5, ∀ j < n, d + 1 < n → zeros (difN (d + 1) ((List.range n).map (spot j))) = false := by decide +kernel
theorem zeros_bent {m n j : Nat} {c : Int} {f : Nat → Int} (h : Van m f) (hc : c ≠ 0) (hz : zeros (difN m ((List.range n).map (spot j))) = false) : zeros (difN m ((List.range n).map fun x => f x + c * spot j x)) = false := by
  rw [difN_fun, dlN_add, dlN_mul, show dlN m f = fun _ => 0 from h]
  rw [difN_fun] at hz
  unfold zeros at hz ⊢
  rw [List.all_map] at hz ⊢
  rw [← hz]
  congr 1
  funext x
  show decide ((0 : Int) + c * dlN m (spot j) x = 0) = decide (dlN m (spot j) x = 0)
  rw [Int.zero_add]
  by_cases e : dlN m (spot j) x = 0
  · rw [e, Int.mul_zero]
  · rw [decide_eq_false e, decide_eq_false (fun z => (Int.mul_eq_zero.mp z).elim hc e)]
theorem bent_eq {n j : Nat} {c : Int} {f : Nat → Int} (hj : j < n) : ((List.range n).map f).set j (((List.range n).map f).getD j 0 + c) = (List.range n).map fun x => f x + c * spot j x := by
  have g : ((List.range n).map f).getD j 0 = f j := by
    rw [List.getD_eq_getElem?_getD, List.getElem?_eq_getElem (by rw [List.length_map, List.length_range]; exact hj), List.getElem_map, List.getElem_range]
    rfl
  rw [g]
  refine List.ext_getElem (by simp) fun i h1 h2 => ?_
  rw [List.getElem_set, List.getElem_map, List.getElem_map, List.getElem_range]
  unfold spot
  by_cases e : j = i
  · rw [if_pos e, if_pos e.symm, e, Int.mul_one]
  · rw [if_neg e, if_neg (Ne.symm e), Int.mul_zero, Int.add_zero]
section
variable {S : List Int} {n : Nat}
def pw (a : Int) (p : List Nat) : Int := a ^ p.length
theorem e_power {a k : Int} (a0 : 0 ≤ a) (a1 : a ≤ 1000) (k0 : 0 ≤ k) (k1 : k ≤ 1000) : callN tbl S (n + 1) 22 [.int a, .int k] = pure (.int (a ^ k.toNat)) := by
  rw [c_law_power]
  obtain ⟨u, hn, hu⟩ : ∃ u : List Nat → Option (Bool × D), u [] = none ∧ ∀ ps x, u (ps ++ [x]) = some (false, .int (0 + (x : Nat))) := ⟨fun ps => ps.getLast?.map fun p => (false, .int (0 + (p : Nat))), rfl, by simp⟩
  have hf := forM_next (step := fun d ρ => M.opt (tgPut ρ (.one 3) d) >>= fun ρ1 => evSs S (callN tbl S n) (.cons (.assign 2 (.bin .mul (.var 2) (.var 0))) .nil) ρ1) (fun k : Nat => D.int (0 + (k : Nat)))
    (fun ps => [some (false, .int a), some (false, .int k), some (false, .int (pw a ps)), u ps]) (xs := List.range k.toNat) fun ps x rs e => by
    have ht : pw a (ps ++ [x]) = pw a ps * a := by unfold pw; rw [List.length_append]; exact Int.pow_succ _ _
    rw [hu, ht]
    generalize pw a ps = q
    simp only [runFn, startE, evSs, evEs, v_non, v_bl, v_int, v_str, v_var, v_glob, v_bin, v_neg, v_not, v_cmp, v_chain, v_isC, v_andL, v_orL, v_ite, v_tup, v_lst, v_idx, v_slice, v_rev, v_call, v_callD, v_callK, v_b1, v_mm, v_isi, v_lrange, v_dget, v_didx, w_assign, w_par, w_unpack, w_append, w_expr, w_ite, w_ret, w_cont, w_raise, w_aug, w_augIdx, evAnd, evOr, evO, evC, evT, look, put, puts, tgPut, wipeE, thaw, lk, lks, lkT, lost, lostT, newL, bindTo, ownL, sc_non, sc_bl, sc_int, sc_str, sc_tup, sc_lst, sc_scr, sc_mref, flat_lst, flat_int, flat_tup, flat_bl, flat_non, flat_mref, flat_scr, isL_lst, isL_tup, isL_int, isL_bl, isL_non, isL_scr, isL_mref, isL_str, opt_some, no_bind, tyD, truth, x_lt, x_le, x_gt, x_ge, x_eqI, x_neI, x_eqL, x_neL, x_eqT, x_neT, x_eqS, binD, negD, isD, idxD, q1_lenL, q1_lenT, q1_lenS, q1_sumL, q1_sumT, q1_abs, q1_listL, q1_listT, q1_tupleL, q1_tupleT, q1_intI, q1_intB, q1_all, q1_min, q1_max, items, fin, pure_bind, bind_assoc, optI, sliceD, List.set_cons_succ, List.set_cons_zero, List.getElem?_cons_succ, List.getElem?_cons_zero, List.getElem?_nil, Option.bind_some, Option.map_some, Option.map_none, List.length_map, List.length_cons, List.length_nil, List.map_cons, List.map_nil, List.cons_append, List.nil_append, List.append_nil, List.replicate_succ, List.replicate_zero, Nat.reduceAdd, Nat.reduceSub, Nat.reduceLeDiff, Nat.reduceLT, if_true, if_false, ite_true, ite_false, Bool.or_true, Bool.or_false, Bool.true_or, Bool.false_or, Bool.and_true, Bool.true_and, Bool.and_false, Bool.false_and, Bool.not_true, Bool.not_false, List.all_cons, List.all_nil, Bool.false_eq_true, reduceIte]
    rw [opt_if (.inr (by omega))]
    simp only [runFn, startE, evSs, evEs, v_non, v_bl, v_int, v_str, v_var, v_glob, v_bin, v_neg, v_not, v_cmp, v_chain, v_isC, v_andL, v_orL, v_ite, v_tup, v_lst, v_idx, v_slice, v_rev, v_call, v_callD, v_callK, v_b1, v_mm, v_isi, v_lrange, v_dget, v_didx, w_assign, w_par, w_unpack, w_append, w_expr, w_ite, w_ret, w_cont, w_raise, w_aug, w_augIdx, evAnd, evOr, evO, evC, evT, look, put, puts, tgPut, wipeE, thaw, lk, lks, lkT, lost, lostT, newL, bindTo, ownL, sc_non, sc_bl, sc_int, sc_str, sc_tup, sc_lst, sc_scr, sc_mref, flat_lst, flat_int, flat_tup, flat_bl, flat_non, flat_mref, flat_scr, isL_lst, isL_tup, isL_int, isL_bl, isL_non, isL_scr, isL_mref, isL_str, opt_some, no_bind, tyD, truth, x_lt, x_le, x_gt, x_ge, x_eqI, x_neI, x_eqL, x_neL, x_eqT, x_neT, x_eqS, binD, negD, isD, idxD, q1_lenL, q1_lenT, q1_lenS, q1_sumL, q1_sumT, q1_abs, q1_listL, q1_listT, q1_tupleL, q1_tupleT, q1_intI, q1_intB, q1_all, q1_min, q1_max, items, fin, pure_bind, bind_assoc, optI, sliceD, List.set_cons_succ, List.set_cons_zero, List.getElem?_cons_succ, List.getElem?_cons_zero, List.getElem?_nil, Option.bind_some, Option.map_some, Option.map_none, List.length_map, List.length_cons, List.length_nil, List.map_cons, List.map_nil, List.cons_append, List.nil_append, List.append_nil, List.replicate_succ, List.replicate_zero, Nat.reduceAdd, Nat.reduceSub, Nat.reduceLeDiff, Nat.reduceLT, if_true, if_false, ite_true, ite_false, Bool.or_true, Bool.or_false, Bool.true_or, Bool.false_or, Bool.and_true, Bool.true_and, Bool.and_false, Bool.false_and, Bool.not_true, Bool.not_false, List.all_cons, List.all_nil, Bool.false_eq_true, reduceIte]
  rw [hn] at hf
  have h0 : pw a [] = 1 := Int.pow_zero _
  have h9 : pw a (List.range k.toNat) = a ^ k.toNat := by unfold pw; rw [List.length_range]
  rw [h0, h9] at hf
  simp only [fn_law_power, runFn, startE, evSs, evEs, v_non, v_bl, v_int, v_str, v_var, v_glob, v_bin, v_neg, v_not, v_cmp, v_chain, v_isC, v_andL, v_orL, v_ite, v_tup, v_lst, v_idx, v_slice, v_rev, v_call, v_callD, v_callK, v_b1, v_mm, v_isi, v_lrange, v_dget, v_didx, w_assign, w_par, w_unpack, w_append, w_expr, w_ite, w_ret, w_cont, w_raise, w_aug, w_augIdx, evAnd, evOr, evO, evC, evT, look, put, puts, tgPut, wipeE, thaw, lk, lks, lkT, lost, lostT, newL, bindTo, ownL, sc_non, sc_bl, sc_int, sc_str, sc_tup, sc_lst, sc_scr, sc_mref, flat_lst, flat_int, flat_tup, flat_bl, flat_non, flat_mref, flat_scr, isL_lst, isL_tup, isL_int, isL_bl, isL_non, isL_scr, isL_mref, isL_str, opt_some, no_bind, tyD, truth, x_lt, x_le, x_gt, x_ge, x_eqI, x_neI, x_eqL, x_neL, x_eqT, x_neT, x_eqS, binD, negD, isD, idxD, q1_lenL, q1_lenT, q1_lenS, q1_sumL, q1_sumT, q1_abs, q1_listL, q1_listT, q1_tupleL, q1_tupleT, q1_intI, q1_intB, q1_all, q1_min, q1_max, items, fin, pure_bind, bind_assoc, optI, sliceD, List.set_cons_succ, List.set_cons_zero, List.getElem?_cons_succ, List.getElem?_cons_zero, List.getElem?_nil, Option.bind_some, Option.map_some, Option.map_none, List.length_map, List.length_cons, List.length_nil, List.map_cons, List.map_nil, List.cons_append, List.nil_append, List.append_nil, List.replicate_succ, List.replicate_zero, Nat.reduceAdd, Nat.reduceSub, Nat.reduceLeDiff, Nat.reduceLT, if_true, if_false, ite_true, ite_false, Bool.or_true, Bool.or_false, Bool.true_or, Bool.false_or, Bool.and_true, Bool.true_and, Bool.and_false, Bool.false_and, Bool.not_true, Bool.not_false, List.all_cons, List.all_nil, Bool.false_eq_true, reduceIte]
  rw [w_for (ds := (List.range k.toNat).map fun i => D.int (0 + (i : Nat))) (e_rngP (h := k) (by simp only [runFn, startE, evSs, evEs, v_non, v_bl, v_int, v_str, v_var, v_glob, v_bin, v_neg, v_not, v_cmp, v_chain, v_isC, v_andL, v_orL, v_ite, v_tup, v_lst, v_idx, v_slice, v_rev, v_call, v_callD, v_callK, v_b1, v_mm, v_isi, v_lrange, v_dget, v_didx, w_assign, w_par, w_unpack, w_append, w_expr, w_ite, w_ret, w_cont, w_raise, w_aug, w_augIdx, evAnd, evOr, evO, evC, evT, look, put, puts, tgPut, wipeE, thaw, lk, lks, lkT, lost, lostT, newL, bindTo, ownL, sc_non, sc_bl, sc_int, sc_str, sc_tup, sc_lst, sc_scr, sc_mref, flat_lst, flat_int, flat_tup, flat_bl, flat_non, flat_mref, flat_scr, isL_lst, isL_tup, isL_int, isL_bl, isL_non, isL_scr, isL_mref, isL_str, opt_some, no_bind, tyD, truth, x_lt, x_le, x_gt, x_ge, x_eqI, x_neI, x_eqL, x_neL, x_eqT, x_neT, x_eqS, binD, negD, isD, idxD, q1_lenL, q1_lenT, q1_lenS, q1_sumL, q1_sumT, q1_abs, q1_listL, q1_listT, q1_tupleL, q1_tupleT, q1_intI, q1_intB, q1_all, q1_min, q1_max, items, fin, pure_bind, bind_assoc, optI, sliceD, List.set_cons_succ, List.set_cons_zero, List.getElem?_cons_succ, List.getElem?_cons_zero, List.getElem?_nil, Option.bind_some, Option.map_some, Option.map_none, List.length_map, List.length_cons, List.length_nil, List.map_cons, List.map_nil, List.cons_append, List.nil_append, List.append_nil, List.replicate_succ, List.replicate_zero, Nat.reduceAdd, Nat.reduceSub, Nat.reduceLeDiff, Nat.reduceLT, if_true, if_false, ite_true, ite_false, Bool.or_true, Bool.or_false, Bool.true_or, Bool.false_or, Bool.and_true, Bool.true_and, Bool.and_false, Bool.false_and, Bool.not_true, Bool.not_false, List.all_cons, List.all_nil, Bool.false_eq_true, reduceIte]) k0 (by omega))]
  simp only [lostT, thaw, lkT, lk, newL, List.set_cons_succ, List.set_cons_zero, List.getElem?_cons_succ, List.getElem?_cons_zero, List.getElem?_nil, Option.bind_some, Option.map_some, Option.map_none, List.length_map, List.length_cons, List.length_nil, List.map_cons, List.map_nil, List.cons_append, List.nil_append, List.append_nil, List.replicate_succ, List.replicate_zero, Nat.reduceAdd, Nat.reduceSub, Nat.reduceLeDiff, Nat.reduceLT, if_true, if_false, ite_true, ite_false, Bool.or_true, Bool.or_false, Bool.true_or, Bool.false_or, Bool.and_true, Bool.true_and, Bool.and_false, Bool.false_and, Bool.not_true, Bool.not_false, List.all_cons, List.all_nil, Bool.false_eq_true, reduceIte]
  rw [hf]
  simp only [runFn, startE, evSs, evEs, v_non, v_bl, v_int, v_str, v_var, v_glob, v_bin, v_neg, v_not, v_cmp, v_chain, v_isC, v_andL, v_orL, v_ite, v_tup, v_lst, v_idx, v_slice, v_rev, v_call, v_callD, v_callK, v_b1, v_mm, v_isi, v_lrange, v_dget, v_didx, w_assign, w_par, w_unpack, w_append, w_expr, w_ite, w_ret, w_cont, w_raise, w_aug, w_augIdx, evAnd, evOr, evO, evC, evT, look, put, puts, tgPut, wipeE, thaw, lk, lks, lkT, lost, lostT, newL, bindTo, ownL, sc_non, sc_bl, sc_int, sc_str, sc_tup, sc_lst, sc_scr, sc_mref, flat_lst, flat_int, flat_tup, flat_bl, flat_non, flat_mref, flat_scr, isL_lst, isL_tup, isL_int, isL_bl, isL_non, isL_scr, isL_mref, isL_str, opt_some, no_bind, tyD, truth, x_lt, x_le, x_gt, x_ge, x_eqI, x_neI, x_eqL, x_neL, x_eqT, x_neT, x_eqS, binD, negD, isD, idxD, q1_lenL, q1_lenT, q1_lenS, q1_sumL, q1_sumT, q1_abs, q1_listL, q1_listT, q1_tupleL, q1_tupleT, q1_intI, q1_intB, q1_all, q1_min, q1_max, items, fin, pure_bind, bind_assoc, optI, sliceD, List.set_cons_succ, List.set_cons_zero, List.getElem?_cons_succ, List.getElem?_cons_zero, List.getElem?_nil, Option.bind_some, Option.map_some, Option.map_none, List.length_map, List.length_cons, List.length_nil, List.map_cons, List.map_nil, List.cons_append, List.nil_append, List.append_nil, List.replicate_succ, List.replicate_zero, Nat.reduceAdd, Nat.reduceSub, Nat.reduceLeDiff, Nat.reduceLT, if_true, if_false, ite_true, ite_false, Bool.or_true, Bool.or_false, Bool.true_or, Bool.false_or, Bool.and_true, Bool.true_and, Bool.and_false, Bool.false_and, Bool.not_true, Bool.not_false, List.all_cons, List.all_nil, Bool.false_eq_true, reduceIte]
theorem x_eqB {a b : Bool} : cmpD S .eq (.bl a) (.bl b) = some (.bl (a == b)) := rfl
theorem e_same_truth {a b : Bool} : callN tbl S (n + 1) 25 [.bl a, .bl b] = pure (.bl (a == b)) := by
  rw [c_law_same_truth]
  simp only [fn_law_same_truth, runFn, startE, evSs, evEs, v_non, v_bl, v_int, v_str, v_var, v_glob, v_bin, v_neg, v_not, v_cmp, v_chain, v_isC, v_andL, v_orL, v_ite, v_tup, v_lst, v_idx, v_slice, v_rev, v_call, v_callD, v_callK, v_b1, v_mm, v_isi, v_lrange, v_dget, v_didx, w_assign, w_par, w_unpack, w_append, w_expr, w_ite, w_ret, w_cont, w_raise, w_aug, w_augIdx, evAnd, evOr, evO, evC, evT, look, put, puts, tgPut, wipeE, thaw, lk, lks, lkT, lost, lostT, newL, bindTo, ownL, sc_non, sc_bl, sc_int, sc_str, sc_tup, sc_lst, sc_scr, sc_mref, flat_lst, flat_int, flat_tup, flat_bl, flat_non, flat_mref, flat_scr, isL_lst, isL_tup, isL_int, isL_bl, isL_non, isL_scr, isL_mref, isL_str, opt_some, no_bind, tyD, truth, x_lt, x_le, x_gt, x_ge, x_eqI, x_neI, x_eqL, x_neL, x_eqT, x_neT, x_eqS, binD, negD, isD, idxD, q1_lenL, q1_lenT, q1_lenS, q1_sumL, q1_sumT, q1_abs, q1_listL, q1_listT, q1_tupleL, q1_tupleT, q1_intI, q1_intB, q1_all, q1_min, q1_max, items, fin, pure_bind, bind_assoc, optI, sliceD, List.set_cons_succ, List.set_cons_zero, List.getElem?_cons_succ, List.getElem?_cons_zero, List.getElem?_nil, Option.bind_some, Option.map_some, Option.map_none, List.length_map, List.length_cons, List.length_nil, List.map_cons, List.map_nil, List.cons_append, List.nil_append, List.append_nil, List.replicate_succ, List.replicate_zero, Nat.reduceAdd, Nat.reduceSub, Nat.reduceLeDiff, Nat.reduceLT, if_true, if_false, ite_true, ite_false, Bool.or_true, Bool.or_false, Bool.true_or, Bool.false_or, Bool.and_true, Bool.true_and, Bool.and_false, Bool.false_and, Bool.not_true, Bool.not_false, List.all_cons, List.all_nil, Bool.false_eq_true, reduceIte, x_eqB]
theorem mapIdx_iD (p : List Int) : ((iD p).mapIdx fun k d => D.tup [.int (k : Nat), d]) = p.zipIdx.map fun q => D.tup [.int (q.2 : Nat), .int q.1] := by
  refine List.ext_getElem (by simp) fun i h1 h2 => ?_
  simp
theorem e_smooth_worths (hS : S.length ≤ 63) {L : Nat} {pl dg : Int} (p0 : 0 ≤ pl) (p1 : pl ≤ 1000) (d0 : 0 ≤ dg) (d1 : dg ≤ 8) (hL : L ≤ 900000) :
    ∃ qs : List (Int × Nat), (∀ q ∈ qs, q.2 < dg.toNat + 1) ∧ callN tbl S (n + 4) 27 [.scr, .mref 0, .int pl, .int dg] (tw L) = .ok (.tup (iD ((List.range pl.toNat).map (poly qs)))) (tw (L + (dg.toNat + 1))) := by
  generalize hp : (List.range (dg.toNat + 1)).map (fun i => dv S (L + i + 1) 19 - 9) = p
  have hpl : p.length = dg.toNat + 1 := by rw [← hp]; simp
  have hpb : ∀ x ∈ p, -9 ≤ x ∧ x ≤ 9 := fun x hx => by
    rw [← hp] at hx
    obtain ⟨i, _, e⟩ := List.mem_map.mp hx
    have := (dv_ok hS (L + i + 1) (r := 19) (by decide)).1
    omega
  have hq : ∀ q ∈ p.zipIdx, q.1 ∈ p ∧ q.2 < dg.toNat + 1 := fun q hq => by
    obtain ⟨x, i⟩ := q
    have := List.mem_zipIdx hq
    refine ⟨?_, by simp at this; omega⟩
    have h2 := this.2.2
    rw [h2]
    exact List.getElem_mem _
  refine ⟨p.zipIdx, fun q h => (hq q h).2, ?_⟩
  rw [c_law_smooth_worths]
  have e0 : startE fn_law_smooth_worths.slots [D.scr, .mref 0, .int pl, .int dg] = [some (false, .scr), some (false, .mref 0), some (false, .int pl), some (false, .int dg), none, none, none, none, none] := rfl
  obtain ⟨u, hn, hu⟩ : ∃ u : List Nat → Option (Bool × D), u [] = none ∧ ∀ ps x, u (ps ++ [x]) = some (false, .int (0 + (x : Nat))) := ⟨fun ps => ps.getLast?.map fun p => (false, .int (0 + (p : Nat))), rfl, by simp⟩
  refine runR (ρ1 := [some (false, .scr), some (false, .mref 0), some (false, .int pl), some (false, .int dg), some (true, .lst (iD p)), none, some (true, .lst (iD ((List.range pl.toNat).map (poly p.zipIdx)))), u (List.range pl.toNat), none]) rfl ?_
  rw [e0]
  unfold fn_law_smooth_worths
  have hc := evCompR (S := S) (c := callN tbl S (n + 3)) (vs := [5]) (tg := .one 5) (it := .rng1 (.bin .add (.var 3) (.int 1))) (elt := .bin .sub (.call 12 (.cons (.var 0) (.cons (.var 1) (.cons (.int 19) .nil)))) (.int 9)) (ρ := [some (false, .scr), some (false, .mref 0), some (false, .int pl), some (false, .int dg), none, none, none, none, none]) (μ := tw L)
      (ds := rngD 0 (dg + 1)) (fun i => .int (dv S (L + i + 1) 19 - 9)) (fun i => tw (L + i)) (e_rng (h := dg + 1) (by simp only [runFn, startE, evSs, evEs, v_non, v_bl, v_int, v_str, v_var, v_glob, v_bin, v_neg, v_not, v_cmp, v_chain, v_isC, v_andL, v_orL, v_ite, v_tup, v_lst, v_idx, v_slice, v_rev, v_call, v_callD, v_callK, v_b1, v_mm, v_isi, v_lrange, v_dget, v_didx, w_assign, w_par, w_unpack, w_append, w_expr, w_ite, w_ret, w_cont, w_raise, w_aug, w_augIdx, evAnd, evOr, evO, evC, evT, look, put, puts, tgPut, wipeE, thaw, lk, lks, lkT, lost, lostT, newL, bindTo, ownL, sc_non, sc_bl, sc_int, sc_str, sc_tup, sc_lst, sc_scr, sc_mref, flat_lst, flat_int, flat_tup, flat_bl, flat_non, flat_mref, flat_scr, isL_lst, isL_tup, isL_int, isL_bl, isL_non, isL_scr, isL_mref, isL_str, opt_some, no_bind, tyD, truth, x_lt, x_le, x_gt, x_ge, x_eqI, x_neI, x_eqL, x_neL, x_eqT, x_neT, x_eqS, binD, negD, isD, idxD, q1_lenL, q1_lenT, q1_lenS, q1_sumL, q1_sumT, q1_abs, q1_listL, q1_listT, q1_tupleL, q1_tupleT, q1_intI, q1_intB, q1_all, q1_min, q1_max, items, fin, pure_bind, bind_assoc, optI, sliceD, List.set_cons_succ, List.set_cons_zero, List.getElem?_cons_succ, List.getElem?_cons_zero, List.getElem?_nil, Option.bind_some, Option.map_some, Option.map_none, List.length_map, List.length_cons, List.length_nil, List.map_cons, List.map_nil, List.cons_append, List.nil_append, List.append_nil, List.replicate_succ, List.replicate_zero, Nat.reduceAdd, Nat.reduceSub, Nat.reduceLeDiff, Nat.reduceLT, if_true, if_false, ite_true, ite_false, Bool.or_true, Bool.or_false, Bool.true_or, Bool.false_or, Bool.and_true, Bool.true_and, Bool.and_false, Bool.false_and, Bool.not_true, Bool.not_false, List.all_cons, List.all_nil, Bool.false_eq_true, reduceIte]) (by omega) (by omega)) (fun i dd hi => ⟨_, rfl, by
        have := (rng_get hi).2
        simp only [runFn, startE, evSs, evEs, v_non, v_bl, v_int, v_str, v_var, v_glob, v_bin, v_neg, v_not, v_cmp, v_chain, v_isC, v_andL, v_orL, v_ite, v_tup, v_lst, v_idx, v_slice, v_rev, v_call, v_callD, v_callK, v_b1, v_mm, v_isi, v_lrange, v_dget, v_didx, w_assign, w_par, w_unpack, w_append, w_expr, w_ite, w_ret, w_cont, w_raise, w_aug, w_augIdx, evAnd, evOr, evO, evC, evT, look, put, puts, tgPut, wipeE, thaw, lk, lks, lkT, lost, lostT, newL, bindTo, ownL, sc_non, sc_bl, sc_int, sc_str, sc_tup, sc_lst, sc_scr, sc_mref, flat_lst, flat_int, flat_tup, flat_bl, flat_non, flat_mref, flat_scr, isL_lst, isL_tup, isL_int, isL_bl, isL_non, isL_scr, isL_mref, isL_str, opt_some, no_bind, tyD, truth, x_lt, x_le, x_gt, x_ge, x_eqI, x_neI, x_eqL, x_neL, x_eqT, x_neT, x_eqS, binD, negD, isD, idxD, q1_lenL, q1_lenT, q1_lenS, q1_sumL, q1_sumT, q1_abs, q1_listL, q1_listT, q1_tupleL, q1_tupleT, q1_intI, q1_intB, q1_all, q1_min, q1_max, items, fin, pure_bind, bind_assoc, optI, sliceD, List.set_cons_succ, List.set_cons_zero, List.getElem?_cons_succ, List.getElem?_cons_zero, List.getElem?_nil, Option.bind_some, Option.map_some, Option.map_none, List.length_map, List.length_cons, List.length_nil, List.map_cons, List.map_nil, List.cons_append, List.nil_append, List.append_nil, List.replicate_succ, List.replicate_zero, Nat.reduceAdd, Nat.reduceSub, Nat.reduceLeDiff, Nat.reduceLT, if_true, if_false, ite_true, ite_false, Bool.or_true, Bool.or_false, Bool.true_or, Bool.false_or, Bool.and_true, Bool.true_and, Bool.and_false, Bool.false_and, Bool.not_true, Bool.not_false, List.all_cons, List.all_nil, Bool.false_eq_true, reduceIte, put, wipeE, thaw]
        rw [run_bind (e_draw hS (by decide) (by omega))]
        rfl⟩) (by rw [rng_map, List.length_map, List.length_range]; omega)
  have hlr : (rngD 0 (dg + 1)).length = dg.toNat + 1 := by rw [rng_map, List.length_map, List.length_range]; omega
  have hpd : ((List.range (dg.toNat + 1)).map fun i => D.int (dv S (L + i + 1) 19 - 9)) = iD p := by
    rw [← hp]
    show _ = List.map D.int _
    rw [List.map_map]
    rfl
  rw [hlr, hpd] at hc
  refine (setR hc).trans ?_
  simp only [bindTo, sc_ints, lost, lostT, thaw, lkT, lk, lks, newL, sc_non, sc_bl, sc_int, sc_str, sc_tup, sc_lst, sc_scr, sc_mref, flat_lst, flat_int, flat_tup, flat_bl, flat_non, flat_mref, flat_scr, isL_lst, isL_tup, isL_int, isL_bl, isL_non, isL_scr, isL_mref, isL_str, List.set_cons_succ, List.set_cons_zero, List.getElem?_cons_succ, List.getElem?_cons_zero, List.getElem?_nil, Option.bind_some, Option.map_some, Option.map_none, List.length_map, List.length_cons, List.length_nil, List.map_cons, List.map_nil, List.cons_append, List.nil_append, List.append_nil, List.replicate_succ, List.replicate_zero, Nat.reduceAdd, Nat.reduceSub, Nat.reduceLeDiff, Nat.reduceLT, if_true, if_false, ite_true, ite_false, Bool.or_true, Bool.or_false, Bool.true_or, Bool.false_or, Bool.and_true, Bool.true_and, Bool.and_false, Bool.false_and, Bool.not_true, Bool.not_false, List.all_cons, List.all_nil, Bool.false_eq_true, reduceIte]
  refine (setR (d := .lst []) (μ1 := tw (L + (dg.toNat + 1))) (by simp only [runFn, startE, evSs, evEs, v_non, v_bl, v_int, v_str, v_var, v_glob, v_bin, v_neg, v_not, v_cmp, v_chain, v_isC, v_andL, v_orL, v_ite, v_tup, v_lst, v_idx, v_slice, v_rev, v_call, v_callD, v_callK, v_b1, v_mm, v_isi, v_lrange, v_dget, v_didx, w_assign, w_par, w_unpack, w_append, w_expr, w_ite, w_ret, w_cont, w_raise, w_aug, w_augIdx, evAnd, evOr, evO, evC, evT, look, put, puts, tgPut, wipeE, thaw, lk, lks, lkT, lost, lostT, newL, bindTo, ownL, sc_non, sc_bl, sc_int, sc_str, sc_tup, sc_lst, sc_scr, sc_mref, flat_lst, flat_int, flat_tup, flat_bl, flat_non, flat_mref, flat_scr, isL_lst, isL_tup, isL_int, isL_bl, isL_non, isL_scr, isL_mref, isL_str, opt_some, no_bind, tyD, truth, x_lt, x_le, x_gt, x_ge, x_eqI, x_neI, x_eqL, x_neL, x_eqT, x_neT, x_eqS, binD, negD, isD, idxD, q1_lenL, q1_lenT, q1_lenS, q1_sumL, q1_sumT, q1_abs, q1_listL, q1_listT, q1_tupleL, q1_tupleT, q1_intI, q1_intB, q1_all, q1_min, q1_max, items, fin, pure_bind, bind_assoc, optI, sliceD, List.set_cons_succ, List.set_cons_zero, List.getElem?_cons_succ, List.getElem?_cons_zero, List.getElem?_nil, Option.bind_some, Option.map_some, Option.map_none, List.length_map, List.length_cons, List.length_nil, List.map_cons, List.map_nil, List.cons_append, List.nil_append, List.append_nil, List.replicate_succ, List.replicate_zero, Nat.reduceAdd, Nat.reduceSub, Nat.reduceLeDiff, Nat.reduceLT, if_true, if_false, ite_true, ite_false, Bool.or_true, Bool.or_false, Bool.true_or, Bool.false_or, Bool.and_true, Bool.true_and, Bool.and_false, Bool.false_and, Bool.not_true, Bool.not_false, List.all_cons, List.all_nil, Bool.false_eq_true, reduceIte, Nat.zero_le]; rfl)).trans ?_
  simp only [bindTo, sc_ints, lost, lostT, thaw, lkT, lk, lks, newL, sc_non, sc_bl, sc_int, sc_str, sc_tup, sc_lst, sc_scr, sc_mref, flat_lst, flat_int, flat_tup, flat_bl, flat_non, flat_mref, flat_scr, isL_lst, isL_tup, isL_int, isL_bl, isL_non, isL_scr, isL_mref, isL_str, List.set_cons_succ, List.set_cons_zero, List.getElem?_cons_succ, List.getElem?_cons_zero, List.getElem?_nil, Option.bind_some, Option.map_some, Option.map_none, List.length_map, List.length_cons, List.length_nil, List.map_cons, List.map_nil, List.cons_append, List.nil_append, List.append_nil, List.replicate_succ, List.replicate_zero, Nat.reduceAdd, Nat.reduceSub, Nat.reduceLeDiff, Nat.reduceLT, if_true, if_false, ite_true, ite_false, Bool.or_true, Bool.or_false, Bool.true_or, Bool.false_or, Bool.and_true, Bool.true_and, Bool.and_false, Bool.false_and, Bool.not_true, Bool.not_false, List.all_cons, List.all_nil, Bool.false_eq_true, reduceIte]
  have hf := forM_next (step := fun d ρ => M.opt (tgPut ρ (.one 7) d) >>= fun ρ1 => evSs S (callN tbl S (n + 3)) (.cons (.append 6 (.b1 .sum (.comp [5, 8] (.many [5, 8]) (.enum (.var 4)) .none (.bin .mul (.var 8) (.call 22 (.cons (.var 7) (.cons (.var 5) .nil))))))) .nil) ρ1) (fun k : Nat => D.int (0 + (k : Nat)))
    (fun ps => [some (false, .scr), some (false, .mref 0), some (false, .int pl), some (false, .int dg), some (true, .lst (iD p)), none, some (true, .lst (iD (ps.map (poly p.zipIdx)))), u ps, none]) (xs := List.range pl.toNat) fun ps x rs e => by
    have hx : x ∈ List.range pl.toNat := by rw [e]; simp
    have hx1 : x < pl.toNat := by simpa using hx
    have hps : ps.length < 1000000 := by
      have := congrArg List.length e
      simp at this
      omega
    rw [hu]
    have hc := evComp (S := S) (c := callN tbl S (n + 3)) (vs := [5, 8]) (tg := .many [5, 8]) (it := .enum (.var 4)) (elt := .bin .mul (.var 8) (.call 22 (.cons (.var 7) (.cons (.var 5) .nil)))) (ρ := [some (false, .scr), some (false, .mref 0), some (false, .int pl), some (false, .int dg), some (true, .lst (iD p)), none, some (true, .lst (iD (ps.map (poly p.zipIdx)))), some (false, .int (0 + (x : Nat))), none])
      (fun q : Int × Nat => D.tup [.int (q.2 : Nat), .int q.1]) (fun q => D.int (q.1 * (x : Int) ^ q.2)) (xs := p.zipIdx) (by simp only [runFn, startE, evSs, evEs, v_non, v_bl, v_int, v_str, v_var, v_glob, v_bin, v_neg, v_not, v_cmp, v_chain, v_isC, v_andL, v_orL, v_ite, v_tup, v_lst, v_idx, v_slice, v_rev, v_call, v_callD, v_callK, v_b1, v_mm, v_isi, v_lrange, v_dget, v_didx, w_assign, w_par, w_unpack, w_append, w_expr, w_ite, w_ret, w_cont, w_raise, w_aug, w_augIdx, evAnd, evOr, evO, evC, evT, look, put, puts, tgPut, wipeE, thaw, lk, lks, lkT, lost, lostT, newL, bindTo, ownL, sc_non, sc_bl, sc_int, sc_str, sc_tup, sc_lst, sc_scr, sc_mref, flat_lst, flat_int, flat_tup, flat_bl, flat_non, flat_mref, flat_scr, isL_lst, isL_tup, isL_int, isL_bl, isL_non, isL_scr, isL_mref, isL_str, opt_some, no_bind, tyD, truth, x_lt, x_le, x_gt, x_ge, x_eqI, x_neI, x_eqL, x_neL, x_eqT, x_neT, x_eqS, binD, negD, isD, idxD, q1_lenL, q1_lenT, q1_lenS, q1_sumL, q1_sumT, q1_abs, q1_listL, q1_listT, q1_tupleL, q1_tupleT, q1_intI, q1_intB, q1_all, q1_min, q1_max, items, fin, pure_bind, bind_assoc, optI, sliceD, List.set_cons_succ, List.set_cons_zero, List.getElem?_cons_succ, List.getElem?_cons_zero, List.getElem?_nil, Option.bind_some, Option.map_some, Option.map_none, List.length_map, List.length_cons, List.length_nil, List.map_cons, List.map_nil, List.cons_append, List.nil_append, List.append_nil, List.replicate_succ, List.replicate_zero, Nat.reduceAdd, Nat.reduceSub, Nat.reduceLeDiff, Nat.reduceLT, if_true, if_false, ite_true, ite_false, Bool.or_true, Bool.or_false, Bool.true_or, Bool.false_or, Bool.and_true, Bool.true_and, Bool.and_false, Bool.false_and, Bool.not_true, Bool.not_false, List.all_cons, List.all_nil, Bool.false_eq_true, reduceIte]; rw [mapIdx_iD]) (fun q hqq => ⟨_, rfl, by
        obtain ⟨m1, m2⟩ := hq q hqq
        have m3 := hpb _ m1
        simp only [runFn, startE, evSs, evEs, v_non, v_bl, v_int, v_str, v_var, v_glob, v_bin, v_neg, v_not, v_cmp, v_chain, v_isC, v_andL, v_orL, v_ite, v_tup, v_lst, v_idx, v_slice, v_rev, v_call, v_callD, v_callK, v_b1, v_mm, v_isi, v_lrange, v_dget, v_didx, w_assign, w_par, w_unpack, w_append, w_expr, w_ite, w_ret, w_cont, w_raise, w_aug, w_augIdx, evAnd, evOr, evO, evC, evT, look, put, puts, tgPut, wipeE, thaw, lk, lks, lkT, lost, lostT, newL, bindTo, ownL, sc_non, sc_bl, sc_int, sc_str, sc_tup, sc_lst, sc_scr, sc_mref, flat_lst, flat_int, flat_tup, flat_bl, flat_non, flat_mref, flat_scr, isL_lst, isL_tup, isL_int, isL_bl, isL_non, isL_scr, isL_mref, isL_str, opt_some, no_bind, tyD, truth, x_lt, x_le, x_gt, x_ge, x_eqI, x_neI, x_eqL, x_neL, x_eqT, x_neT, x_eqS, binD, negD, isD, idxD, q1_lenL, q1_lenT, q1_lenS, q1_sumL, q1_sumT, q1_abs, q1_listL, q1_listT, q1_tupleL, q1_tupleT, q1_intI, q1_intB, q1_all, q1_min, q1_max, items, fin, pure_bind, bind_assoc, optI, sliceD, List.set_cons_succ, List.set_cons_zero, List.getElem?_cons_succ, List.getElem?_cons_zero, List.getElem?_nil, Option.bind_some, Option.map_some, Option.map_none, List.length_map, List.length_cons, List.length_nil, List.map_cons, List.map_nil, List.cons_append, List.nil_append, List.append_nil, List.replicate_succ, List.replicate_zero, Nat.reduceAdd, Nat.reduceSub, Nat.reduceLeDiff, Nat.reduceLT, if_true, if_false, ite_true, ite_false, Bool.or_true, Bool.or_false, Bool.true_or, Bool.false_or, Bool.and_true, Bool.true_and, Bool.and_false, Bool.false_and, Bool.not_true, Bool.not_false, List.all_cons, List.all_nil, Bool.false_eq_true, reduceIte, put, puts, wipeE, thaw]
        rw [e_power (by omega) (by omega) (by omega) (by omega)]
        simp only [runFn, startE, evSs, evEs, v_non, v_bl, v_int, v_str, v_var, v_glob, v_bin, v_neg, v_not, v_cmp, v_chain, v_isC, v_andL, v_orL, v_ite, v_tup, v_lst, v_idx, v_slice, v_rev, v_call, v_callD, v_callK, v_b1, v_mm, v_isi, v_lrange, v_dget, v_didx, w_assign, w_par, w_unpack, w_append, w_expr, w_ite, w_ret, w_cont, w_raise, w_aug, w_augIdx, evAnd, evOr, evO, evC, evT, look, put, puts, tgPut, wipeE, thaw, lk, lks, lkT, lost, lostT, newL, bindTo, ownL, sc_non, sc_bl, sc_int, sc_str, sc_tup, sc_lst, sc_scr, sc_mref, flat_lst, flat_int, flat_tup, flat_bl, flat_non, flat_mref, flat_scr, isL_lst, isL_tup, isL_int, isL_bl, isL_non, isL_scr, isL_mref, isL_str, opt_some, no_bind, tyD, truth, x_lt, x_le, x_gt, x_ge, x_eqI, x_neI, x_eqL, x_neL, x_eqT, x_neT, x_eqS, binD, negD, isD, idxD, q1_lenL, q1_lenT, q1_lenS, q1_sumL, q1_sumT, q1_abs, q1_listL, q1_listT, q1_tupleL, q1_tupleT, q1_intI, q1_intB, q1_all, q1_min, q1_max, items, fin, pure_bind, bind_assoc, optI, sliceD, List.set_cons_succ, List.set_cons_zero, List.getElem?_cons_succ, List.getElem?_cons_zero, List.getElem?_nil, Option.bind_some, Option.map_some, Option.map_none, List.length_map, List.length_cons, List.length_nil, List.map_cons, List.map_nil, List.cons_append, List.nil_append, List.append_nil, List.replicate_succ, List.replicate_zero, Nat.reduceAdd, Nat.reduceSub, Nat.reduceLeDiff, Nat.reduceLT, if_true, if_false, ite_true, ite_false, Bool.or_true, Bool.or_false, Bool.true_or, Bool.false_or, Bool.and_true, Bool.true_and, Bool.and_false, Bool.false_and, Bool.not_true, Bool.not_false, List.all_cons, List.all_nil, Bool.false_eq_true, reduceIte]
        rw [opt_if (.inl (by omega)), Int.zero_add, Int.toNat_natCast]⟩) (by simp; omega)
    have hs : (p.zipIdx.map fun q => D.int (q.1 * (x : Int) ^ q.2)) = iD (p.zipIdx.map fun q => q.1 * (x : Int) ^ q.2) := by
      show _ = List.map D.int _
      rw [List.map_map]
      rfl
    rw [hs] at hc
    have hm : iD ((ps ++ [x]).map (poly p.zipIdx)) = iD (ps.map (poly p.zipIdx)) ++ [.int (poly p.zipIdx x)] := by
      show List.map D.int _ = List.map D.int _ ++ _
      rw [List.map_append, List.map_append]
      rfl
    rw [hm]
    simp only [runFn, startE, evSs, evEs, v_non, v_bl, v_int, v_str, v_var, v_glob, v_bin, v_neg, v_not, v_cmp, v_chain, v_isC, v_andL, v_orL, v_ite, v_tup, v_lst, v_idx, v_slice, v_rev, v_call, v_callD, v_callK, v_b1, v_mm, v_isi, v_lrange, v_dget, v_didx, w_assign, w_par, w_unpack, w_append, w_expr, w_ite, w_ret, w_cont, w_raise, w_aug, w_augIdx, evAnd, evOr, evO, evC, evT, look, put, puts, tgPut, wipeE, thaw, lk, lks, lkT, lost, lostT, newL, bindTo, ownL, sc_non, sc_bl, sc_int, sc_str, sc_tup, sc_lst, sc_scr, sc_mref, flat_lst, flat_int, flat_tup, flat_bl, flat_non, flat_mref, flat_scr, isL_lst, isL_tup, isL_int, isL_bl, isL_non, isL_scr, isL_mref, isL_str, opt_some, no_bind, tyD, truth, x_lt, x_le, x_gt, x_ge, x_eqI, x_neI, x_eqL, x_neL, x_eqT, x_neT, x_eqS, binD, negD, isD, idxD, q1_lenL, q1_lenT, q1_lenS, q1_sumL, q1_sumT, q1_abs, q1_listL, q1_listT, q1_tupleL, q1_tupleT, q1_intI, q1_intB, q1_all, q1_min, q1_max, items, fin, pure_bind, bind_assoc, optI, sliceD, List.set_cons_succ, List.set_cons_zero, List.getElem?_cons_succ, List.getElem?_cons_zero, List.getElem?_nil, Option.bind_some, Option.map_some, Option.map_none, List.length_map, List.length_cons, List.length_nil, List.map_cons, List.map_nil, List.cons_append, List.nil_append, List.append_nil, List.replicate_succ, List.replicate_zero, Nat.reduceAdd, Nat.reduceSub, Nat.reduceLeDiff, Nat.reduceLT, if_true, if_false, ite_true, ite_false, Bool.or_true, Bool.or_false, Bool.true_or, Bool.false_or, Bool.and_true, Bool.true_and, Bool.and_false, Bool.false_and, Bool.not_true, Bool.not_false, List.all_cons, List.all_nil, Bool.false_eq_true, reduceIte, hc, intsOf_iD, appTo]
    rw [if_pos (by simpa using hps)]
    simp only [runFn, startE, evSs, evEs, v_non, v_bl, v_int, v_str, v_var, v_glob, v_bin, v_neg, v_not, v_cmp, v_chain, v_isC, v_andL, v_orL, v_ite, v_tup, v_lst, v_idx, v_slice, v_rev, v_call, v_callD, v_callK, v_b1, v_mm, v_isi, v_lrange, v_dget, v_didx, w_assign, w_par, w_unpack, w_append, w_expr, w_ite, w_ret, w_cont, w_raise, w_aug, w_augIdx, evAnd, evOr, evO, evC, evT, look, put, puts, tgPut, wipeE, thaw, lk, lks, lkT, lost, lostT, newL, bindTo, ownL, sc_non, sc_bl, sc_int, sc_str, sc_tup, sc_lst, sc_scr, sc_mref, flat_lst, flat_int, flat_tup, flat_bl, flat_non, flat_mref, flat_scr, isL_lst, isL_tup, isL_int, isL_bl, isL_non, isL_scr, isL_mref, isL_str, opt_some, no_bind, tyD, truth, x_lt, x_le, x_gt, x_ge, x_eqI, x_neI, x_eqL, x_neL, x_eqT, x_neT, x_eqS, binD, negD, isD, idxD, q1_lenL, q1_lenT, q1_lenS, q1_sumL, q1_sumT, q1_abs, q1_listL, q1_listT, q1_tupleL, q1_tupleT, q1_intI, q1_intB, q1_all, q1_min, q1_max, items, fin, pure_bind, bind_assoc, optI, sliceD, List.set_cons_succ, List.set_cons_zero, List.getElem?_cons_succ, List.getElem?_cons_zero, List.getElem?_nil, Option.bind_some, Option.map_some, Option.map_none, List.length_map, List.length_cons, List.length_nil, List.map_cons, List.map_nil, List.cons_append, List.nil_append, List.append_nil, List.replicate_succ, List.replicate_zero, Nat.reduceAdd, Nat.reduceSub, Nat.reduceLeDiff, Nat.reduceLT, if_true, if_false, ite_true, ite_false, Bool.or_true, Bool.or_false, Bool.true_or, Bool.false_or, Bool.and_true, Bool.true_and, Bool.and_false, Bool.false_and, Bool.not_true, Bool.not_false, List.all_cons, List.all_nil, Bool.false_eq_true, reduceIte]
    rfl
  rw [hn] at hf
  have hfl : evS S (callN tbl S (n + 3)) (.for_ (.one 7) (.rng1 (.var 2)) (.cons (.append 6 (.b1 .sum (.comp [5, 8] (.many [5, 8]) (.enum (.var 4)) .none (.bin .mul (.var 8) (.call 22 (.cons (.var 7) (.cons (.var 5) .nil))))))) .nil)) [some (false, .scr), some (false, .mref 0), some (false, .int pl), some (false, .int dg), some (true, .lst (iD p)), none, some (true, .lst []), none, none] =
      pure (.next, [some (false, .scr), some (false, .mref 0), some (false, .int pl), some (false, .int dg), some (true, .lst (iD p)), none, some (true, .lst (iD ((List.range pl.toNat).map (poly p.zipIdx)))), u (List.range pl.toNat), none]) := by
    rw [w_for (ds := (List.range pl.toNat).map fun i => D.int (0 + (i : Nat))) (e_rngP (h := pl) (by simp only [runFn, startE, evSs, evEs, v_non, v_bl, v_int, v_str, v_var, v_glob, v_bin, v_neg, v_not, v_cmp, v_chain, v_isC, v_andL, v_orL, v_ite, v_tup, v_lst, v_idx, v_slice, v_rev, v_call, v_callD, v_callK, v_b1, v_mm, v_isi, v_lrange, v_dget, v_didx, w_assign, w_par, w_unpack, w_append, w_expr, w_ite, w_ret, w_cont, w_raise, w_aug, w_augIdx, evAnd, evOr, evO, evC, evT, look, put, puts, tgPut, wipeE, thaw, lk, lks, lkT, lost, lostT, newL, bindTo, ownL, sc_non, sc_bl, sc_int, sc_str, sc_tup, sc_lst, sc_scr, sc_mref, flat_lst, flat_int, flat_tup, flat_bl, flat_non, flat_mref, flat_scr, isL_lst, isL_tup, isL_int, isL_bl, isL_non, isL_scr, isL_mref, isL_str, opt_some, no_bind, tyD, truth, x_lt, x_le, x_gt, x_ge, x_eqI, x_neI, x_eqL, x_neL, x_eqT, x_neT, x_eqS, binD, negD, isD, idxD, q1_lenL, q1_lenT, q1_lenS, q1_sumL, q1_sumT, q1_abs, q1_listL, q1_listT, q1_tupleL, q1_tupleT, q1_intI, q1_intB, q1_all, q1_min, q1_max, items, fin, pure_bind, bind_assoc, optI, sliceD, List.set_cons_succ, List.set_cons_zero, List.getElem?_cons_succ, List.getElem?_cons_zero, List.getElem?_nil, Option.bind_some, Option.map_some, Option.map_none, List.length_map, List.length_cons, List.length_nil, List.map_cons, List.map_nil, List.cons_append, List.nil_append, List.append_nil, List.replicate_succ, List.replicate_zero, Nat.reduceAdd, Nat.reduceSub, Nat.reduceLeDiff, Nat.reduceLT, if_true, if_false, ite_true, ite_false, Bool.or_true, Bool.or_false, Bool.true_or, Bool.false_or, Bool.and_true, Bool.true_and, Bool.and_false, Bool.false_and, Bool.not_true, Bool.not_false, List.all_cons, List.all_nil, Bool.false_eq_true, reduceIte]) p0 (by omega))]
    simp only [lostT, thaw, lkT, lk, newL, List.set_cons_succ, List.set_cons_zero, List.getElem?_cons_succ, List.getElem?_cons_zero, List.getElem?_nil, Option.bind_some, Option.map_some, Option.map_none, List.length_map, List.length_cons, List.length_nil, List.map_cons, List.map_nil, List.cons_append, List.nil_append, List.append_nil, List.replicate_succ, List.replicate_zero, Nat.reduceAdd, Nat.reduceSub, Nat.reduceLeDiff, Nat.reduceLT, if_true, if_false, ite_true, ite_false, Bool.or_true, Bool.or_false, Bool.true_or, Bool.false_or, Bool.and_true, Bool.true_and, Bool.and_false, Bool.false_and, Bool.not_true, Bool.not_false, List.all_cons, List.all_nil, Bool.false_eq_true, reduceIte]
    exact hf
  refine (seqR (by rw [hfl]; rfl)).trans ?_
  refine retR (by simp only [runFn, startE, evSs, evEs, v_non, v_bl, v_int, v_str, v_var, v_glob, v_bin, v_neg, v_not, v_cmp, v_chain, v_isC, v_andL, v_orL, v_ite, v_tup, v_lst, v_idx, v_slice, v_rev, v_call, v_callD, v_callK, v_b1, v_mm, v_isi, v_lrange, v_dget, v_didx, w_assign, w_par, w_unpack, w_append, w_expr, w_ite, w_ret, w_cont, w_raise, w_aug, w_augIdx, evAnd, evOr, evO, evC, evT, look, put, puts, tgPut, wipeE, thaw, lk, lks, lkT, lost, lostT, newL, bindTo, ownL, sc_non, sc_bl, sc_int, sc_str, sc_tup, sc_lst, sc_scr, sc_mref, flat_lst, flat_int, flat_tup, flat_bl, flat_non, flat_mref, flat_scr, isL_lst, isL_tup, isL_int, isL_bl, isL_non, isL_scr, isL_mref, isL_str, opt_some, no_bind, tyD, truth, x_lt, x_le, x_gt, x_ge, x_eqI, x_neI, x_eqL, x_neL, x_eqT, x_neT, x_eqS, binD, negD, isD, idxD, q1_lenL, q1_lenT, q1_lenS, q1_sumL, q1_sumT, q1_abs, q1_listL, q1_listT, q1_tupleL, q1_tupleT, q1_intI, q1_intB, q1_all, q1_min, q1_max, items, fin, pure_bind, bind_assoc, optI, sliceD, List.set_cons_succ, List.set_cons_zero, List.getElem?_cons_succ, List.getElem?_cons_zero, List.getElem?_nil, Option.bind_some, Option.map_some, Option.map_none, List.length_map, List.length_cons, List.length_nil, List.map_cons, List.map_nil, List.cons_append, List.nil_append, List.append_nil, List.replicate_succ, List.replicate_zero, Nat.reduceAdd, Nat.reduceSub, Nat.reduceLeDiff, Nat.reduceLT, if_true, if_false, ite_true, ite_false, Bool.or_true, Bool.or_false, Bool.true_or, Bool.false_or, Bool.and_true, Bool.true_and, Bool.and_false, Bool.false_and, Bool.not_true, Bool.not_false, List.all_cons, List.all_nil, Bool.false_eq_true, reduceIte]; rfl)
theorem zeros_filter (l : List Int) : decide (l.filter (fun x => !decide (x = 0)) = []) = zeros l := by
  unfold zeros
  induction l with
  | nil => rfl
  | cons x l ih =>
    rw [List.filter_cons, List.all_cons]
    by_cases e : x = 0
    · simp only [e, decide_true, Bool.not_true, Bool.true_and]
      exact ih
    · simp [e]
theorem x_eqL0 {a : List Int} : cmpD S .eq (.lst (iD a)) (.lst []) = some (.bl (decide (a = []))) := x_eqL (b := [])
theorem map_id_iD (l : List Int) : (l.map fun x => D.int x) = iD l := rfl
end
end Ev

set_option Elab.async false
set_option linter.all false
set_option maxRecDepth 100000
set_option maxHeartbeats 1000000
namespace Ev
/-! ### moments -/
def places (r : List Int) (a : Int) : List Nat := (List.range r.length).filter fun x => decide (r.getD x 0 = a)
def momK (r : List Int) (a : Int) (k : Nat) : Int := ((places r a).map fun x => ((x : Nat) : Int) ^ k).sum
def mom (r : List Int) (a : Int) (d : Nat) : List Int := (List.range (d + 1)).map (momK r a)
section
variable {S : List Int} {n : Nat}
theorem e_same_number {a b : Int} : callN tbl S (n + 1) 38 [.int a, .int b] = pure (.bl (decide (a = b))) := by
  rw [c_law_same_number]
  simp only [fn_law_same_number, runFn, startE, evSs, evEs, v_non, v_bl, v_int, v_str, v_var, v_glob, v_bin, v_neg, v_not, v_cmp, v_chain, v_isC, v_andL, v_orL, v_ite, v_tup, v_lst, v_idx, v_slice, v_rev, v_call, v_callD, v_callK, v_b1, v_mm, v_isi, v_lrange, v_dget, v_didx, w_assign, w_par, w_unpack, w_append, w_expr, w_ite, w_ret, w_cont, w_raise, w_aug, w_augIdx, evAnd, evOr, evO, evC, evT, look, put, puts, tgPut, wipeE, thaw, lk, lks, lkT, lost, lostT, newL, bindTo, ownL, sc_non, sc_bl, sc_int, sc_str, sc_tup, sc_lst, sc_scr, sc_mref, flat_lst, flat_int, flat_tup, flat_bl, flat_non, flat_mref, flat_scr, isL_lst, isL_tup, isL_int, isL_bl, isL_non, isL_scr, isL_mref, isL_str, opt_some, no_bind, tyD, truth, x_lt, x_le, x_gt, x_ge, x_eqI, x_neI, x_eqL, x_neL, x_eqT, x_neT, x_eqS, binD, negD, isD, idxD, q1_lenL, q1_lenT, q1_lenS, q1_sumL, q1_sumT, q1_abs, q1_listL, q1_listT, q1_tupleL, q1_tupleT, q1_intI, q1_intB, q1_all, q1_min, q1_max, items, fin, pure_bind, bind_assoc, optI, sliceD, List.set_cons_succ, List.set_cons_zero, List.getElem?_cons_succ, List.getElem?_cons_zero, List.getElem?_nil, Option.bind_some, Option.map_some, Option.map_none, List.length_map, List.length_cons, List.length_nil, List.map_cons, List.map_nil, List.cons_append, List.nil_append, List.append_nil, List.replicate_succ, List.replicate_zero, Nat.reduceAdd, Nat.reduceSub, Nat.reduceLeDiff, Nat.reduceLT, if_true, if_false, ite_true, ite_false, Bool.or_true, Bool.or_false, Bool.true_or, Bool.false_or, Bool.and_true, Bool.true_and, Bool.and_false, Bool.false_and, Bool.not_true, Bool.not_false, List.all_cons, List.all_nil, Bool.false_eq_true, reduceIte]
theorem e_moments_so {h dg : Int} {r : List Int} (h0 : 0 ≤ h) (h1 : h ≤ 1000) (hr : r.length ≤ 1000) (d0 : 0 ≤ dg) (d1 : dg ≤ 900) : callN tbl S (n + 2) 37 [.int h, .tup (iD r), .int dg] = pure (.lst ((List.range h.toNat).map fun i => .lst (iD (mom r (0 + (i : Nat)) dg.toNat)))) := by
  rw [c_law_moments_so]
  obtain ⟨u, hn, hu⟩ : ∃ u : List Nat → Option (Bool × D), u [] = none ∧ ∀ ps x, u (ps ++ [x]) = some (false, .int (0 + (x : Nat))) := ⟨fun ps => ps.getLast?.map fun p => (false, .int (0 + (p : Nat))), rfl, by simp⟩
  obtain ⟨v, vn, vu⟩ : ∃ v : List Nat → Option (Bool × D), v [] = none ∧ ∀ ps x, v (ps ++ [x]) = some (true, .lst ((places r (0 + (x : Nat))).map fun i => D.int (0 + (i : Nat)))) := ⟨fun ps => ps.getLast?.map fun p => (true, .lst ((places r (0 + (p : Nat))).map fun i => D.int (0 + (i : Nat)))), rfl, by simp⟩
  have hf := forM_next (step := fun d ρ => M.opt (tgPut ρ (.one 4) d) >>= fun ρ1 => evSs S (callN tbl S (n + 1)) (.cons (.assign 5 (.comp [6] (.one 6) (.rng1 (.b1 .len (.var 1))) (.some (.cmp .eq (.idx (.var 1) (.var 6)) (.var 4))) (.var 6))) (.cons (.append 3 (.comp [7] (.one 7) (.rng1 (.bin .add (.var 2) (.int 1))) .none (.b1 .sum (.comp [6] (.one 6) (.seq (.var 5)) .none (.call 22 (.cons (.var 6) (.cons (.var 7) .nil))))))) .nil)) ρ1) (fun k : Nat => D.int (0 + (k : Nat)))
    (fun ps => [some (false, .int h), some (false, .tup (iD r)), some (false, .int dg), some (true, .lst (ps.map fun i => .lst (iD (mom r (0 + (i : Nat)) dg.toNat)))), u ps, v ps, none, none]) (xs := List.range h.toNat) fun ps x rs e => by
    have hps : ps.length < 1000000 := by
      have := congrArg List.length e
      simp at this
      omega
    rw [hu, vu]
    have hm : ((ps ++ [x]).map fun i => D.lst (iD (mom r (0 + (i : Nat)) dg.toNat))) = (ps.map fun i => D.lst (iD (mom r (0 + (i : Nat)) dg.toNat))) ++ [.lst (iD (mom r (0 + (x : Nat)) dg.toNat))] := by simp
    rw [hm]
    have hz : (ps.map fun i => D.lst (iD (mom r (0 + (i : Nat)) dg.toNat))).length < 1000000 := by rw [List.length_map]; exact hps
    generalize (ps.map fun i => D.lst (iD (mom r (0 + (i : Nat)) dg.toNat))) = md at hz
    generalize v ps = v0
    have hc1 := evCompF (S := S) (c := callN tbl S (n + 1)) (vs := [6]) (tg := .one 6) (it := .rng1 (.b1 .len (.var 1))) (cd := .cmp .eq (.idx (.var 1) (.var 6)) (.var 4)) (elt := .var 6) (ρ := [some (false, .int h), some (false, .tup (iD r)), some (false, .int dg), some (true, .lst md), some (false, .int (0 + (x : Nat))), v0, none, none])
      (fun i : Nat => D.int (0 + (i : Nat))) (fun i : Nat => D.int (0 + (i : Nat))) (fun i => decide (r.getD i 0 = 0 + (x : Nat))) (xs := List.range r.length) (by rw [e_rngP (h := (r.length : Int)) (by simp only [runFn, startE, evSs, evEs, v_non, v_bl, v_int, v_str, v_var, v_glob, v_bin, v_neg, v_not, v_cmp, v_chain, v_isC, v_andL, v_orL, v_ite, v_tup, v_lst, v_idx, v_slice, v_rev, v_call, v_callD, v_callK, v_b1, v_mm, v_isi, v_lrange, v_dget, v_didx, w_assign, w_par, w_unpack, w_append, w_expr, w_ite, w_ret, w_cont, w_raise, w_aug, w_augIdx, evAnd, evOr, evO, evC, evT, look, put, puts, tgPut, wipeE, thaw, lk, lks, lkT, lost, lostT, newL, bindTo, ownL, sc_non, sc_bl, sc_int, sc_str, sc_tup, sc_lst, sc_scr, sc_mref, flat_lst, flat_int, flat_tup, flat_bl, flat_non, flat_mref, flat_scr, isL_lst, isL_tup, isL_int, isL_bl, isL_non, isL_scr, isL_mref, isL_str, opt_some, no_bind, tyD, truth, x_lt, x_le, x_gt, x_ge, x_eqI, x_neI, x_eqL, x_neL, x_eqT, x_neT, x_eqS, binD, negD, isD, idxD, q1_lenL, q1_lenT, q1_lenS, q1_sumL, q1_sumT, q1_abs, q1_listL, q1_listT, q1_tupleL, q1_tupleT, q1_intI, q1_intB, q1_all, q1_min, q1_max, items, fin, pure_bind, bind_assoc, optI, sliceD, List.set_cons_succ, List.set_cons_zero, List.getElem?_cons_succ, List.getElem?_cons_zero, List.getElem?_nil, Option.bind_some, Option.map_some, Option.map_none, List.length_map, List.length_cons, List.length_nil, List.map_cons, List.map_nil, List.cons_append, List.nil_append, List.append_nil, List.replicate_succ, List.replicate_zero, Nat.reduceAdd, Nat.reduceSub, Nat.reduceLeDiff, Nat.reduceLT, if_true, if_false, ite_true, ite_false, Bool.or_true, Bool.or_false, Bool.true_or, Bool.false_or, Bool.and_true, Bool.true_and, Bool.and_false, Bool.false_and, Bool.not_true, Bool.not_false, List.all_cons, List.all_nil, Bool.false_eq_true, reduceIte]) (by omega) (by omega), Int.toNat_natCast]) (fun i hi => ⟨_, rfl, by
        have := List.mem_range.mp hi
        simp only [runFn, startE, evSs, evEs, v_non, v_bl, v_int, v_str, v_var, v_glob, v_bin, v_neg, v_not, v_cmp, v_chain, v_isC, v_andL, v_orL, v_ite, v_tup, v_lst, v_idx, v_slice, v_rev, v_call, v_callD, v_callK, v_b1, v_mm, v_isi, v_lrange, v_dget, v_didx, w_assign, w_par, w_unpack, w_append, w_expr, w_ite, w_ret, w_cont, w_raise, w_aug, w_augIdx, evAnd, evOr, evO, evC, evT, look, put, puts, tgPut, wipeE, thaw, lk, lks, lkT, lost, lostT, newL, bindTo, ownL, sc_non, sc_bl, sc_int, sc_str, sc_tup, sc_lst, sc_scr, sc_mref, flat_lst, flat_int, flat_tup, flat_bl, flat_non, flat_mref, flat_scr, isL_lst, isL_tup, isL_int, isL_bl, isL_non, isL_scr, isL_mref, isL_str, opt_some, no_bind, tyD, truth, x_lt, x_le, x_gt, x_ge, x_eqI, x_neI, x_eqL, x_neL, x_eqT, x_neT, x_eqS, binD, negD, isD, idxD, q1_lenL, q1_lenT, q1_lenS, q1_sumL, q1_sumT, q1_abs, q1_listL, q1_listT, q1_tupleL, q1_tupleT, q1_intI, q1_intB, q1_all, q1_min, q1_max, items, fin, pure_bind, bind_assoc, optI, sliceD, List.set_cons_succ, List.set_cons_zero, List.getElem?_cons_succ, List.getElem?_cons_zero, List.getElem?_nil, Option.bind_some, Option.map_some, Option.map_none, List.length_map, List.length_cons, List.length_nil, List.map_cons, List.map_nil, List.cons_append, List.nil_append, List.append_nil, List.replicate_succ, List.replicate_zero, Nat.reduceAdd, Nat.reduceSub, Nat.reduceLeDiff, Nat.reduceLT, if_true, if_false, ite_true, ite_false, Bool.or_true, Bool.or_false, Bool.true_or, Bool.false_or, Bool.and_true, Bool.true_and, Bool.and_false, Bool.false_and, Bool.not_true, Bool.not_false, List.all_cons, List.all_nil, Bool.false_eq_true, reduceIte, put, wipeE, thaw, getI (l := r) (a := 0 + (i : Nat)) (by omega) (by omega), show ((0 : Int) + (i : Nat)).toNat = i by omega], fun _ => by simp only [runFn, startE, evSs, evEs, v_non, v_bl, v_int, v_str, v_var, v_glob, v_bin, v_neg, v_not, v_cmp, v_chain, v_isC, v_andL, v_orL, v_ite, v_tup, v_lst, v_idx, v_slice, v_rev, v_call, v_callD, v_callK, v_b1, v_mm, v_isi, v_lrange, v_dget, v_didx, w_assign, w_par, w_unpack, w_append, w_expr, w_ite, w_ret, w_cont, w_raise, w_aug, w_augIdx, evAnd, evOr, evO, evC, evT, look, put, puts, tgPut, wipeE, thaw, lk, lks, lkT, lost, lostT, newL, bindTo, ownL, sc_non, sc_bl, sc_int, sc_str, sc_tup, sc_lst, sc_scr, sc_mref, flat_lst, flat_int, flat_tup, flat_bl, flat_non, flat_mref, flat_scr, isL_lst, isL_tup, isL_int, isL_bl, isL_non, isL_scr, isL_mref, isL_str, opt_some, no_bind, tyD, truth, x_lt, x_le, x_gt, x_ge, x_eqI, x_neI, x_eqL, x_neL, x_eqT, x_neT, x_eqS, binD, negD, isD, idxD, q1_lenL, q1_lenT, q1_lenS, q1_sumL, q1_sumT, q1_abs, q1_listL, q1_listT, q1_tupleL, q1_tupleT, q1_intI, q1_intB, q1_all, q1_min, q1_max, items, fin, pure_bind, bind_assoc, optI, sliceD, List.set_cons_succ, List.set_cons_zero, List.getElem?_cons_succ, List.getElem?_cons_zero, List.getElem?_nil, Option.bind_some, Option.map_some, Option.map_none, List.length_map, List.length_cons, List.length_nil, List.map_cons, List.map_nil, List.cons_append, List.nil_append, List.append_nil, List.replicate_succ, List.replicate_zero, Nat.reduceAdd, Nat.reduceSub, Nat.reduceLeDiff, Nat.reduceLT, if_true, if_false, ite_true, ite_false, Bool.or_true, Bool.or_false, Bool.true_or, Bool.false_or, Bool.and_true, Bool.true_and, Bool.and_false, Bool.false_and, Bool.not_true, Bool.not_false, List.all_cons, List.all_nil, Bool.false_eq_true, reduceIte, put, wipeE, thaw]⟩) (by rw [List.length_range]; omega)
    have hpl : ((List.range r.length).filter fun i => decide (r.getD i 0 = 0 + (x : Nat))) = places r (0 + (x : Nat)) := rfl
    rw [hpl] at hc1
    have hsc : ((places r (0 + (x : Nat))).map fun i => D.int (0 + (i : Nat))).all D.sc = true := sc_map _ _
    have hple : (places r (0 + (x : Nat))).length ≤ r.length := by
      unfold places
      exact Nat.le_trans (List.length_filter_le ..) (by rw [List.length_range]; exact Nat.le_refl _)
    have hpm : ∀ y ∈ places r (0 + (x : Nat)), y < r.length := fun y hy => List.mem_range.mp (List.mem_filter.mp hy).1
    unfold mom
    generalize hpp : places r (0 + (x : Nat)) = pp at hc1 hsc hple hpm
    have hc2 := evComp (S := S) (c := callN tbl S (n + 1)) (vs := [7]) (tg := .one 7) (it := .rng1 (.bin .add (.var 2) (.int 1))) (elt := .b1 .sum (.comp [6] (.one 6) (.seq (.var 5)) .none (.call 22 (.cons (.var 6) (.cons (.var 7) .nil))))) (ρ := [some (false, .int h), some (false, .tup (iD r)), some (false, .int dg), some (true, .lst md), some (false, .int (0 + (x : Nat))), some (true, .lst (pp.map fun i => D.int (0 + (i : Nat)))), none, none])
      (fun k : Nat => D.int (0 + (k : Nat))) (fun k => D.int (momK r (0 + (x : Nat)) k)) (xs := List.range (dg.toNat + 1)) (by rw [e_rngP (h := dg + 1) (by simp only [runFn, startE, evSs, evEs, v_non, v_bl, v_int, v_str, v_var, v_glob, v_bin, v_neg, v_not, v_cmp, v_chain, v_isC, v_andL, v_orL, v_ite, v_tup, v_lst, v_idx, v_slice, v_rev, v_call, v_callD, v_callK, v_b1, v_mm, v_isi, v_lrange, v_dget, v_didx, w_assign, w_par, w_unpack, w_append, w_expr, w_ite, w_ret, w_cont, w_raise, w_aug, w_augIdx, evAnd, evOr, evO, evC, evT, look, put, puts, tgPut, wipeE, thaw, lk, lks, lkT, lost, lostT, newL, bindTo, ownL, sc_non, sc_bl, sc_int, sc_str, sc_tup, sc_lst, sc_scr, sc_mref, flat_lst, flat_int, flat_tup, flat_bl, flat_non, flat_mref, flat_scr, isL_lst, isL_tup, isL_int, isL_bl, isL_non, isL_scr, isL_mref, isL_str, opt_some, no_bind, tyD, truth, x_lt, x_le, x_gt, x_ge, x_eqI, x_neI, x_eqL, x_neL, x_eqT, x_neT, x_eqS, binD, negD, isD, idxD, q1_lenL, q1_lenT, q1_lenS, q1_sumL, q1_sumT, q1_abs, q1_listL, q1_listT, q1_tupleL, q1_tupleT, q1_intI, q1_intB, q1_all, q1_min, q1_max, items, fin, pure_bind, bind_assoc, optI, sliceD, List.set_cons_succ, List.set_cons_zero, List.getElem?_cons_succ, List.getElem?_cons_zero, List.getElem?_nil, Option.bind_some, Option.map_some, Option.map_none, List.length_map, List.length_cons, List.length_nil, List.map_cons, List.map_nil, List.cons_append, List.nil_append, List.append_nil, List.replicate_succ, List.replicate_zero, Nat.reduceAdd, Nat.reduceSub, Nat.reduceLeDiff, Nat.reduceLT, if_true, if_false, ite_true, ite_false, Bool.or_true, Bool.or_false, Bool.true_or, Bool.false_or, Bool.and_true, Bool.true_and, Bool.and_false, Bool.false_and, Bool.not_true, Bool.not_false, List.all_cons, List.all_nil, Bool.false_eq_true, reduceIte]) (by omega) (by omega), show (dg + 1).toNat = dg.toNat + 1 by omega]) (fun k hk => ⟨_, rfl, by
        have hk := List.mem_range.mp hk
        have hc3 := evComp (S := S) (c := callN tbl S (n + 1)) (vs := [6]) (tg := .one 6) (it := .seq (.var 5)) (elt := .call 22 (.cons (.var 6) (.cons (.var 7) .nil))) (ρ := [some (false, .int h), some (false, .tup (iD r)), some (false, .int dg), some (true, .lst md), some (false, .int (0 + (x : Nat))), some (true, .lst (pp.map fun i => D.int (0 + (i : Nat)))), none, some (false, .int (0 + (k : Nat)))])
          (fun i : Nat => D.int (0 + (i : Nat))) (fun i => D.int ((i : Int) ^ k)) (xs := pp) (by simp only [runFn, startE, evSs, evEs, v_non, v_bl, v_int, v_str, v_var, v_glob, v_bin, v_neg, v_not, v_cmp, v_chain, v_isC, v_andL, v_orL, v_ite, v_tup, v_lst, v_idx, v_slice, v_rev, v_call, v_callD, v_callK, v_b1, v_mm, v_isi, v_lrange, v_dget, v_didx, w_assign, w_par, w_unpack, w_append, w_expr, w_ite, w_ret, w_cont, w_raise, w_aug, w_augIdx, evAnd, evOr, evO, evC, evT, look, put, puts, tgPut, wipeE, thaw, lk, lks, lkT, lost, lostT, newL, bindTo, ownL, sc_non, sc_bl, sc_int, sc_str, sc_tup, sc_lst, sc_scr, sc_mref, flat_lst, flat_int, flat_tup, flat_bl, flat_non, flat_mref, flat_scr, isL_lst, isL_tup, isL_int, isL_bl, isL_non, isL_scr, isL_mref, isL_str, opt_some, no_bind, tyD, truth, x_lt, x_le, x_gt, x_ge, x_eqI, x_neI, x_eqL, x_neL, x_eqT, x_neT, x_eqS, binD, negD, isD, idxD, q1_lenL, q1_lenT, q1_lenS, q1_sumL, q1_sumT, q1_abs, q1_listL, q1_listT, q1_tupleL, q1_tupleT, q1_intI, q1_intB, q1_all, q1_min, q1_max, items, fin, pure_bind, bind_assoc, optI, sliceD, List.set_cons_succ, List.set_cons_zero, List.getElem?_cons_succ, List.getElem?_cons_zero, List.getElem?_nil, Option.bind_some, Option.map_some, Option.map_none, List.length_map, List.length_cons, List.length_nil, List.map_cons, List.map_nil, List.cons_append, List.nil_append, List.append_nil, List.replicate_succ, List.replicate_zero, Nat.reduceAdd, Nat.reduceSub, Nat.reduceLeDiff, Nat.reduceLT, if_true, if_false, ite_true, ite_false, Bool.or_true, Bool.or_false, Bool.true_or, Bool.false_or, Bool.and_true, Bool.true_and, Bool.and_false, Bool.false_and, Bool.not_true, Bool.not_false, List.all_cons, List.all_nil, Bool.false_eq_true, reduceIte]) (fun y hy => ⟨_, rfl, by
            have := hpm y hy
            simp only [runFn, startE, evSs, evEs, v_non, v_bl, v_int, v_str, v_var, v_glob, v_bin, v_neg, v_not, v_cmp, v_chain, v_isC, v_andL, v_orL, v_ite, v_tup, v_lst, v_idx, v_slice, v_rev, v_call, v_callD, v_callK, v_b1, v_mm, v_isi, v_lrange, v_dget, v_didx, w_assign, w_par, w_unpack, w_append, w_expr, w_ite, w_ret, w_cont, w_raise, w_aug, w_augIdx, evAnd, evOr, evO, evC, evT, look, put, puts, tgPut, wipeE, thaw, lk, lks, lkT, lost, lostT, newL, bindTo, ownL, sc_non, sc_bl, sc_int, sc_str, sc_tup, sc_lst, sc_scr, sc_mref, flat_lst, flat_int, flat_tup, flat_bl, flat_non, flat_mref, flat_scr, isL_lst, isL_tup, isL_int, isL_bl, isL_non, isL_scr, isL_mref, isL_str, opt_some, no_bind, tyD, truth, x_lt, x_le, x_gt, x_ge, x_eqI, x_neI, x_eqL, x_neL, x_eqT, x_neT, x_eqS, binD, negD, isD, idxD, q1_lenL, q1_lenT, q1_lenS, q1_sumL, q1_sumT, q1_abs, q1_listL, q1_listT, q1_tupleL, q1_tupleT, q1_intI, q1_intB, q1_all, q1_min, q1_max, items, fin, pure_bind, bind_assoc, optI, sliceD, List.set_cons_succ, List.set_cons_zero, List.getElem?_cons_succ, List.getElem?_cons_zero, List.getElem?_nil, Option.bind_some, Option.map_some, Option.map_none, List.length_map, List.length_cons, List.length_nil, List.map_cons, List.map_nil, List.cons_append, List.nil_append, List.append_nil, List.replicate_succ, List.replicate_zero, Nat.reduceAdd, Nat.reduceSub, Nat.reduceLeDiff, Nat.reduceLT, if_true, if_false, ite_true, ite_false, Bool.or_true, Bool.or_false, Bool.true_or, Bool.false_or, Bool.and_true, Bool.true_and, Bool.and_false, Bool.false_and, Bool.not_true, Bool.not_false, List.all_cons, List.all_nil, Bool.false_eq_true, reduceIte, put, wipeE, thaw]
            rw [e_power (by omega) (by omega) (by omega) (by omega), show ((0 : Int) + (k : Nat)).toNat = k by omega, Int.zero_add]⟩) (by omega)
        simp only [bindTo, sc_ints, lost, lostT, thaw, lkT, lk, lks, newL, sc_non, sc_bl, sc_int, sc_str, sc_tup, sc_lst, sc_scr, sc_mref, flat_lst, flat_int, flat_tup, flat_bl, flat_non, flat_mref, flat_scr, isL_lst, isL_tup, isL_int, isL_bl, isL_non, isL_scr, isL_mref, isL_str, List.set_cons_succ, List.set_cons_zero, List.getElem?_cons_succ, List.getElem?_cons_zero, List.getElem?_nil, Option.bind_some, Option.map_some, Option.map_none, List.length_map, List.length_cons, List.length_nil, List.map_cons, List.map_nil, List.cons_append, List.nil_append, List.append_nil, List.replicate_succ, List.replicate_zero, Nat.reduceAdd, Nat.reduceSub, Nat.reduceLeDiff, Nat.reduceLT, if_true, if_false, ite_true, ite_false, Bool.or_true, Bool.or_false, Bool.true_or, Bool.false_or, Bool.and_true, Bool.true_and, Bool.and_false, Bool.false_and, Bool.not_true, Bool.not_false, List.all_cons, List.all_nil, Bool.false_eq_true, reduceIte, wipeE, put, tgPut]
        rw [v_b1, hc3, pure_bind, q1_sumL]
        have : (pp.map fun i : Nat => D.int ((i : Int) ^ k)) = iD (pp.map fun i : Nat => (i : Int) ^ k) := by
          show _ = List.map D.int _
          rw [List.map_map]
          rfl
        rw [this, intsOf_iD]
        unfold momK
        rw [hpp]
        rfl⟩) (by rw [List.length_range]; omega)
    have hd : ((List.range (dg.toNat + 1)).map fun k => D.int (momK r (0 + (x : Nat)) k)) = iD ((List.range (dg.toNat + 1)).map (momK r (0 + (x : Nat)))) := by
      show _ = List.map D.int _
      rw [List.map_map]
      rfl
    rw [hd] at hc2
    simp only [evSs, w_assign, w_append, hc1, hc2, put, tgPut, opt_some, pure_bind, bind_assoc, bindTo, sc_ints, lost, lostT, thaw, lkT, lk, lks, newL, sc_non, sc_bl, sc_int, sc_str, sc_tup, sc_lst, sc_scr, sc_mref, flat_lst, flat_int, flat_tup, flat_bl, flat_non, flat_mref, flat_scr, isL_lst, isL_tup, isL_int, isL_bl, isL_non, isL_scr, isL_mref, isL_str, List.set_cons_succ, List.set_cons_zero, List.getElem?_cons_succ, List.getElem?_cons_zero, List.getElem?_nil, Option.bind_some, Option.map_some, Option.map_none, List.length_map, List.length_cons, List.length_nil, List.map_cons, List.map_nil, List.cons_append, List.nil_append, List.append_nil, List.replicate_succ, List.replicate_zero, Nat.reduceAdd, Nat.reduceSub, Nat.reduceLeDiff, Nat.reduceLT, if_true, if_false, ite_true, ite_false, Bool.or_true, Bool.or_false, Bool.true_or, Bool.false_or, Bool.and_true, Bool.true_and, Bool.and_false, Bool.false_and, Bool.not_true, Bool.not_false, List.all_cons, List.all_nil, Bool.false_eq_true, reduceIte, hsc, appTo]
    rw [if_pos ⟨by simp, hz⟩]
    rfl
  rw [hn, vn] at hf
  simp only [fn_law_moments_so, runFn, startE, evSs, evEs, v_non, v_bl, v_int, v_str, v_var, v_glob, v_bin, v_neg, v_not, v_cmp, v_chain, v_isC, v_andL, v_orL, v_ite, v_tup, v_lst, v_idx, v_slice, v_rev, v_call, v_callD, v_callK, v_b1, v_mm, v_isi, v_lrange, v_dget, v_didx, w_assign, w_par, w_unpack, w_append, w_expr, w_ite, w_ret, w_cont, w_raise, w_aug, w_augIdx, evAnd, evOr, evO, evC, evT, look, put, puts, tgPut, wipeE, thaw, lk, lks, lkT, lost, lostT, newL, bindTo, ownL, sc_non, sc_bl, sc_int, sc_str, sc_tup, sc_lst, sc_scr, sc_mref, flat_lst, flat_int, flat_tup, flat_bl, flat_non, flat_mref, flat_scr, isL_lst, isL_tup, isL_int, isL_bl, isL_non, isL_scr, isL_mref, isL_str, opt_some, no_bind, tyD, truth, x_lt, x_le, x_gt, x_ge, x_eqI, x_neI, x_eqL, x_neL, x_eqT, x_neT, x_eqS, binD, negD, isD, idxD, q1_lenL, q1_lenT, q1_lenS, q1_sumL, q1_sumT, q1_abs, q1_listL, q1_listT, q1_tupleL, q1_tupleT, q1_intI, q1_intB, q1_all, q1_min, q1_max, items, fin, pure_bind, bind_assoc, optI, sliceD, List.set_cons_succ, List.set_cons_zero, List.getElem?_cons_succ, List.getElem?_cons_zero, List.getElem?_nil, Option.bind_some, Option.map_some, Option.map_none, List.length_map, List.length_cons, List.length_nil, List.map_cons, List.map_nil, List.cons_append, List.nil_append, List.append_nil, List.replicate_succ, List.replicate_zero, Nat.reduceAdd, Nat.reduceSub, Nat.reduceLeDiff, Nat.reduceLT, if_true, if_false, ite_true, ite_false, Bool.or_true, Bool.or_false, Bool.true_or, Bool.false_or, Bool.and_true, Bool.true_and, Bool.and_false, Bool.false_and, Bool.not_true, Bool.not_false, List.all_cons, List.all_nil, Bool.false_eq_true, reduceIte, Nat.zero_le]
  rw [w_for (ds := (List.range h.toNat).map fun i => D.int (0 + (i : Nat))) (e_rngP (h := h) (by simp only [runFn, startE, evSs, evEs, v_non, v_bl, v_int, v_str, v_var, v_glob, v_bin, v_neg, v_not, v_cmp, v_chain, v_isC, v_andL, v_orL, v_ite, v_tup, v_lst, v_idx, v_slice, v_rev, v_call, v_callD, v_callK, v_b1, v_mm, v_isi, v_lrange, v_dget, v_didx, w_assign, w_par, w_unpack, w_append, w_expr, w_ite, w_ret, w_cont, w_raise, w_aug, w_augIdx, evAnd, evOr, evO, evC, evT, look, put, puts, tgPut, wipeE, thaw, lk, lks, lkT, lost, lostT, newL, bindTo, ownL, sc_non, sc_bl, sc_int, sc_str, sc_tup, sc_lst, sc_scr, sc_mref, flat_lst, flat_int, flat_tup, flat_bl, flat_non, flat_mref, flat_scr, isL_lst, isL_tup, isL_int, isL_bl, isL_non, isL_scr, isL_mref, isL_str, opt_some, no_bind, tyD, truth, x_lt, x_le, x_gt, x_ge, x_eqI, x_neI, x_eqL, x_neL, x_eqT, x_neT, x_eqS, binD, negD, isD, idxD, q1_lenL, q1_lenT, q1_lenS, q1_sumL, q1_sumT, q1_abs, q1_listL, q1_listT, q1_tupleL, q1_tupleT, q1_intI, q1_intB, q1_all, q1_min, q1_max, items, fin, pure_bind, bind_assoc, optI, sliceD, List.set_cons_succ, List.set_cons_zero, List.getElem?_cons_succ, List.getElem?_cons_zero, List.getElem?_nil, Option.bind_some, Option.map_some, Option.map_none, List.length_map, List.length_cons, List.length_nil, List.map_cons, List.map_nil, List.cons_append, List.nil_append, List.append_nil, List.replicate_succ, List.replicate_zero, Nat.reduceAdd, Nat.reduceSub, Nat.reduceLeDiff, Nat.reduceLT, if_true, if_false, ite_true, ite_false, Bool.or_true, Bool.or_false, Bool.true_or, Bool.false_or, Bool.and_true, Bool.true_and, Bool.and_false, Bool.false_and, Bool.not_true, Bool.not_false, List.all_cons, List.all_nil, Bool.false_eq_true, reduceIte]) h0 (by omega))]
  simp only [lostT, thaw, lkT, lk, newL, List.set_cons_succ, List.set_cons_zero, List.getElem?_cons_succ, List.getElem?_cons_zero, List.getElem?_nil, Option.bind_some, Option.map_some, Option.map_none, List.length_map, List.length_cons, List.length_nil, List.map_cons, List.map_nil, List.cons_append, List.nil_append, List.append_nil, List.replicate_succ, List.replicate_zero, Nat.reduceAdd, Nat.reduceSub, Nat.reduceLeDiff, Nat.reduceLT, if_true, if_false, ite_true, ite_false, Bool.or_true, Bool.or_false, Bool.true_or, Bool.false_or, Bool.and_true, Bool.true_and, Bool.and_false, Bool.false_and, Bool.not_true, Bool.not_false, List.all_cons, List.all_nil, Bool.false_eq_true, reduceIte]
  rw [List.map_nil] at hf
  rw [hf]
  simp only [runFn, startE, evSs, evEs, v_non, v_bl, v_int, v_str, v_var, v_glob, v_bin, v_neg, v_not, v_cmp, v_chain, v_isC, v_andL, v_orL, v_ite, v_tup, v_lst, v_idx, v_slice, v_rev, v_call, v_callD, v_callK, v_b1, v_mm, v_isi, v_lrange, v_dget, v_didx, w_assign, w_par, w_unpack, w_append, w_expr, w_ite, w_ret, w_cont, w_raise, w_aug, w_augIdx, evAnd, evOr, evO, evC, evT, look, put, puts, tgPut, wipeE, thaw, lk, lks, lkT, lost, lostT, newL, bindTo, ownL, sc_non, sc_bl, sc_int, sc_str, sc_tup, sc_lst, sc_scr, sc_mref, flat_lst, flat_int, flat_tup, flat_bl, flat_non, flat_mref, flat_scr, isL_lst, isL_tup, isL_int, isL_bl, isL_non, isL_scr, isL_mref, isL_str, opt_some, no_bind, tyD, truth, x_lt, x_le, x_gt, x_ge, x_eqI, x_neI, x_eqL, x_neL, x_eqT, x_neT, x_eqS, binD, negD, isD, idxD, q1_lenL, q1_lenT, q1_lenS, q1_sumL, q1_sumT, q1_abs, q1_listL, q1_listT, q1_tupleL, q1_tupleT, q1_intI, q1_intB, q1_all, q1_min, q1_max, items, fin, pure_bind, bind_assoc, optI, sliceD, List.set_cons_succ, List.set_cons_zero, List.getElem?_cons_succ, List.getElem?_cons_zero, List.getElem?_nil, Option.bind_some, Option.map_some, Option.map_none, List.length_map, List.length_cons, List.length_nil, List.map_cons, List.map_nil, List.cons_append, List.nil_append, List.append_nil, List.replicate_succ, List.replicate_zero, Nat.reduceAdd, Nat.reduceSub, Nat.reduceLeDiff, Nat.reduceLT, if_true, if_false, ite_true, ite_false, Bool.or_true, Bool.or_false, Bool.true_or, Bool.false_or, Bool.and_true, Bool.true_and, Bool.and_false, Bool.false_and, Bool.not_true, Bool.not_false, List.all_cons, List.all_nil, Bool.false_eq_true, reduceIte]
def sameB (h : Int) (r : List Int) (d : Nat) : Bool := (List.range h.toNat).all fun i => decide (mom r (0 + (i : Nat)) d = mom r 0 d)
theorem sh_lists {α : Type} (f : α → List Int) : ∀ l : List α, (l.map fun i => D.lst (iD (f i))).all (sh 7) = true
  | [] => rfl
  | x :: l => by
    rw [List.map_cons, List.all_cons, sh_lists f l, show sh 7 (.lst (iD (f x))) = true from sh_iD 6 (f x)]
    rfl
theorem x_eqLL {α : Type} {f : α → List Int} {l : List α} : cmpD S .eq (.lst (l.map fun i => .lst (iD (f i)))) (.lst []) = some (.bl l.isEmpty) := by
  show (if sh 8 (.lst (l.map fun i => .lst (iD (f i)))) && sh 8 (.lst []) then some (D.bl (deq (.lst (l.map fun i => .lst (iD (f i)))) (.lst []))) else none) = _
  rw [show sh 8 (.lst (l.map fun i => .lst (iD (f i)))) = true from sh_lists f l]
  cases l <;> rfl
theorem e_even_so {h dg : Int} {r : List Int} (h0 : 1 ≤ h) (h1 : h ≤ 1000) (hr : r.length ≤ 1000) (d0 : 0 ≤ dg) (d1 : dg ≤ 900) : callN tbl S (n + 3) 40 [.int h, .tup (iD r), .int dg] = pure (.bl (sameB h r dg.toNat)) := by
  rw [c_law_even_so]
  have hix : L2.atI ((List.range h.toNat).map fun i => D.lst (iD (mom r (0 + (i : Nat)) dg.toNat))) 0 = some (.lst (iD (mom r 0 dg.toNat))) := by
    unfold L2.atI
    rw [List.length_map, List.length_range, ixN_ok (by decide) (by omega), Option.bind_some, List.getElem?_map]
    rw [show (0 : Int).toNat = 0 from rfl, List.getElem?_eq_getElem (by rw [List.length_range]; omega), List.getElem_range]
    rfl
  have hc := evCompF (S := S) (c := callN tbl S (n + 2)) (vs := [4]) (tg := .one 4) (it := .seq (.var 3)) (cd := .cmp .ne (.var 4) (.idx (.var 3) (.int 0))) (elt := .var 4) (ρ := [some (false, .int h), some (false, .tup (iD r)), some (false, .int dg), some (false, .lst ((List.range h.toNat).map fun i => D.lst (iD (mom r (0 + (i : Nat)) dg.toNat)))), none])
    (fun i : Nat => D.lst (iD (mom r (0 + (i : Nat)) dg.toNat))) (fun i : Nat => D.lst (iD (mom r (0 + (i : Nat)) dg.toNat))) (fun i => !decide (mom r (0 + (i : Nat)) dg.toNat = mom r 0 dg.toNat)) (xs := List.range h.toNat) (by simp only [runFn, startE, evSs, evEs, v_non, v_bl, v_int, v_str, v_var, v_glob, v_bin, v_neg, v_not, v_cmp, v_chain, v_isC, v_andL, v_orL, v_ite, v_tup, v_lst, v_idx, v_slice, v_rev, v_call, v_callD, v_callK, v_b1, v_mm, v_isi, v_lrange, v_dget, v_didx, w_assign, w_par, w_unpack, w_append, w_expr, w_ite, w_ret, w_cont, w_raise, w_aug, w_augIdx, evAnd, evOr, evO, evC, evT, look, put, puts, tgPut, wipeE, thaw, lk, lks, lkT, lost, lostT, newL, bindTo, ownL, sc_non, sc_bl, sc_int, sc_str, sc_tup, sc_lst, sc_scr, sc_mref, flat_lst, flat_int, flat_tup, flat_bl, flat_non, flat_mref, flat_scr, isL_lst, isL_tup, isL_int, isL_bl, isL_non, isL_scr, isL_mref, isL_str, opt_some, no_bind, tyD, truth, x_lt, x_le, x_gt, x_ge, x_eqI, x_neI, x_eqL, x_neL, x_eqT, x_neT, x_eqS, binD, negD, isD, idxD, q1_lenL, q1_lenT, q1_lenS, q1_sumL, q1_sumT, q1_abs, q1_listL, q1_listT, q1_tupleL, q1_tupleT, q1_intI, q1_intB, q1_all, q1_min, q1_max, items, fin, pure_bind, bind_assoc, optI, sliceD, List.set_cons_succ, List.set_cons_zero, List.getElem?_cons_succ, List.getElem?_cons_zero, List.getElem?_nil, Option.bind_some, Option.map_some, Option.map_none, List.length_map, List.length_cons, List.length_nil, List.map_cons, List.map_nil, List.cons_append, List.nil_append, List.append_nil, List.replicate_succ, List.replicate_zero, Nat.reduceAdd, Nat.reduceSub, Nat.reduceLeDiff, Nat.reduceLT, if_true, if_false, ite_true, ite_false, Bool.or_true, Bool.or_false, Bool.true_or, Bool.false_or, Bool.and_true, Bool.true_and, Bool.and_false, Bool.false_and, Bool.not_true, Bool.not_false, List.all_cons, List.all_nil, Bool.false_eq_true, reduceIte]) (fun i hi => ⟨_, rfl, by simp only [runFn, startE, evSs, evEs, v_non, v_bl, v_int, v_str, v_var, v_glob, v_bin, v_neg, v_not, v_cmp, v_chain, v_isC, v_andL, v_orL, v_ite, v_tup, v_lst, v_idx, v_slice, v_rev, v_call, v_callD, v_callK, v_b1, v_mm, v_isi, v_lrange, v_dget, v_didx, w_assign, w_par, w_unpack, w_append, w_expr, w_ite, w_ret, w_cont, w_raise, w_aug, w_augIdx, evAnd, evOr, evO, evC, evT, look, put, puts, tgPut, wipeE, thaw, lk, lks, lkT, lost, lostT, newL, bindTo, ownL, sc_non, sc_bl, sc_int, sc_str, sc_tup, sc_lst, sc_scr, sc_mref, flat_lst, flat_int, flat_tup, flat_bl, flat_non, flat_mref, flat_scr, isL_lst, isL_tup, isL_int, isL_bl, isL_non, isL_scr, isL_mref, isL_str, opt_some, no_bind, tyD, truth, x_lt, x_le, x_gt, x_ge, x_eqI, x_neI, x_eqL, x_neL, x_eqT, x_neT, x_eqS, binD, negD, isD, idxD, q1_lenL, q1_lenT, q1_lenS, q1_sumL, q1_sumT, q1_abs, q1_listL, q1_listT, q1_tupleL, q1_tupleT, q1_intI, q1_intB, q1_all, q1_min, q1_max, items, fin, pure_bind, bind_assoc, optI, sliceD, List.set_cons_succ, List.set_cons_zero, List.getElem?_cons_succ, List.getElem?_cons_zero, List.getElem?_nil, Option.bind_some, Option.map_some, Option.map_none, List.length_map, List.length_cons, List.length_nil, List.map_cons, List.map_nil, List.cons_append, List.nil_append, List.append_nil, List.replicate_succ, List.replicate_zero, Nat.reduceAdd, Nat.reduceSub, Nat.reduceLeDiff, Nat.reduceLT, if_true, if_false, ite_true, ite_false, Bool.or_true, Bool.or_false, Bool.true_or, Bool.false_or, Bool.and_true, Bool.true_and, Bool.and_false, Bool.false_and, Bool.not_true, Bool.not_false, List.all_cons, List.all_nil, Bool.false_eq_true, reduceIte, put, wipeE, thaw, hix], fun _ => by simp only [runFn, startE, evSs, evEs, v_non, v_bl, v_int, v_str, v_var, v_glob, v_bin, v_neg, v_not, v_cmp, v_chain, v_isC, v_andL, v_orL, v_ite, v_tup, v_lst, v_idx, v_slice, v_rev, v_call, v_callD, v_callK, v_b1, v_mm, v_isi, v_lrange, v_dget, v_didx, w_assign, w_par, w_unpack, w_append, w_expr, w_ite, w_ret, w_cont, w_raise, w_aug, w_augIdx, evAnd, evOr, evO, evC, evT, look, put, puts, tgPut, wipeE, thaw, lk, lks, lkT, lost, lostT, newL, bindTo, ownL, sc_non, sc_bl, sc_int, sc_str, sc_tup, sc_lst, sc_scr, sc_mref, flat_lst, flat_int, flat_tup, flat_bl, flat_non, flat_mref, flat_scr, isL_lst, isL_tup, isL_int, isL_bl, isL_non, isL_scr, isL_mref, isL_str, opt_some, no_bind, tyD, truth, x_lt, x_le, x_gt, x_ge, x_eqI, x_neI, x_eqL, x_neL, x_eqT, x_neT, x_eqS, binD, negD, isD, idxD, q1_lenL, q1_lenT, q1_lenS, q1_sumL, q1_sumT, q1_abs, q1_listL, q1_listT, q1_tupleL, q1_tupleT, q1_intI, q1_intB, q1_all, q1_min, q1_max, items, fin, pure_bind, bind_assoc, optI, sliceD, List.set_cons_succ, List.set_cons_zero, List.getElem?_cons_succ, List.getElem?_cons_zero, List.getElem?_nil, Option.bind_some, Option.map_some, Option.map_none, List.length_map, List.length_cons, List.length_nil, List.map_cons, List.map_nil, List.cons_append, List.nil_append, List.append_nil, List.replicate_succ, List.replicate_zero, Nat.reduceAdd, Nat.reduceSub, Nat.reduceLeDiff, Nat.reduceLT, if_true, if_false, ite_true, ite_false, Bool.or_true, Bool.or_false, Bool.true_or, Bool.false_or, Bool.and_true, Bool.true_and, Bool.and_false, Bool.false_and, Bool.not_true, Bool.not_false, List.all_cons, List.all_nil, Bool.false_eq_true, reduceIte, put, wipeE, thaw]⟩) (by rw [List.length_range]; omega)
  simp only [fn_law_even_so, runFn, startE, evSs, evEs, v_non, v_bl, v_int, v_str, v_var, v_glob, v_bin, v_neg, v_not, v_cmp, v_chain, v_isC, v_andL, v_orL, v_ite, v_tup, v_lst, v_idx, v_slice, v_rev, v_call, v_callD, v_callK, v_b1, v_mm, v_isi, v_lrange, v_dget, v_didx, w_assign, w_par, w_unpack, w_append, w_expr, w_ite, w_ret, w_cont, w_raise, w_aug, w_augIdx, evAnd, evOr, evO, evC, evT, look, put, puts, tgPut, wipeE, thaw, lk, lks, lkT, lost, lostT, newL, bindTo, ownL, sc_non, sc_bl, sc_int, sc_str, sc_tup, sc_lst, sc_scr, sc_mref, flat_lst, flat_int, flat_tup, flat_bl, flat_non, flat_mref, flat_scr, isL_lst, isL_tup, isL_int, isL_bl, isL_non, isL_scr, isL_mref, isL_str, opt_some, no_bind, tyD, truth, x_lt, x_le, x_gt, x_ge, x_eqI, x_neI, x_eqL, x_neL, x_eqT, x_neT, x_eqS, binD, negD, isD, idxD, q1_lenL, q1_lenT, q1_lenS, q1_sumL, q1_sumT, q1_abs, q1_listL, q1_listT, q1_tupleL, q1_tupleT, q1_intI, q1_intB, q1_all, q1_min, q1_max, items, fin, pure_bind, bind_assoc, optI, sliceD, List.set_cons_succ, List.set_cons_zero, List.getElem?_cons_succ, List.getElem?_cons_zero, List.getElem?_nil, Option.bind_some, Option.map_some, Option.map_none, List.length_map, List.length_cons, List.length_nil, List.map_cons, List.map_nil, List.cons_append, List.nil_append, List.append_nil, List.replicate_succ, List.replicate_zero, Nat.reduceAdd, Nat.reduceSub, Nat.reduceLeDiff, Nat.reduceLT, if_true, if_false, ite_true, ite_false, Bool.or_true, Bool.or_false, Bool.true_or, Bool.false_or, Bool.and_true, Bool.true_and, Bool.and_false, Bool.false_and, Bool.not_true, Bool.not_false, List.all_cons, List.all_nil, Bool.false_eq_true, reduceIte, e_moments_so (show 0 ≤ h by omega) h1 hr d0 d1, hc, Nat.zero_le]
  rw [x_eqLL]
  simp only [runFn, startE, evSs, evEs, v_non, v_bl, v_int, v_str, v_var, v_glob, v_bin, v_neg, v_not, v_cmp, v_chain, v_isC, v_andL, v_orL, v_ite, v_tup, v_lst, v_idx, v_slice, v_rev, v_call, v_callD, v_callK, v_b1, v_mm, v_isi, v_lrange, v_dget, v_didx, w_assign, w_par, w_unpack, w_append, w_expr, w_ite, w_ret, w_cont, w_raise, w_aug, w_augIdx, evAnd, evOr, evO, evC, evT, look, put, puts, tgPut, wipeE, thaw, lk, lks, lkT, lost, lostT, newL, bindTo, ownL, sc_non, sc_bl, sc_int, sc_str, sc_tup, sc_lst, sc_scr, sc_mref, flat_lst, flat_int, flat_tup, flat_bl, flat_non, flat_mref, flat_scr, isL_lst, isL_tup, isL_int, isL_bl, isL_non, isL_scr, isL_mref, isL_str, opt_some, no_bind, tyD, truth, x_lt, x_le, x_gt, x_ge, x_eqI, x_neI, x_eqL, x_neL, x_eqT, x_neT, x_eqS, binD, negD, isD, idxD, q1_lenL, q1_lenT, q1_lenS, q1_sumL, q1_sumT, q1_abs, q1_listL, q1_listT, q1_tupleL, q1_tupleT, q1_intI, q1_intB, q1_all, q1_min, q1_max, items, fin, pure_bind, bind_assoc, optI, sliceD, List.set_cons_succ, List.set_cons_zero, List.getElem?_cons_succ, List.getElem?_cons_zero, List.getElem?_nil, Option.bind_some, Option.map_some, Option.map_none, List.length_map, List.length_cons, List.length_nil, List.map_cons, List.map_nil, List.cons_append, List.nil_append, List.append_nil, List.replicate_succ, List.replicate_zero, Nat.reduceAdd, Nat.reduceSub, Nat.reduceLeDiff, Nat.reduceLT, if_true, if_false, ite_true, ite_false, Bool.or_true, Bool.or_false, Bool.true_or, Bool.false_or, Bool.and_true, Bool.true_and, Bool.and_false, Bool.false_and, Bool.not_true, Bool.not_false, List.all_cons, List.all_nil, Bool.false_eq_true, reduceIte]
  have : ((List.range h.toNat).filter fun i => !decide (mom r (0 + (i : Nat)) dg.toNat = mom r 0 dg.toNat)).isEmpty = sameB h r dg.toNat := by
    unfold sameB
    generalize List.range h.toNat = l
    induction l with
    | nil => rfl
    | cons x l ih =>
      rw [List.filter_cons, List.all_cons]
      by_cases e : mom r (0 + (x : Nat)) dg.toNat = mom r 0 dg.toNat
      · simp only [e, decide_true, Bool.not_true, Bool.true_and]
        exact ih
      · simp only [decide_eq_false e, Bool.not_false, if_true, List.isEmpty_cons, Bool.false_and]
  rw [this]
theorem e_law_pairs {h : Int} (h0 : 0 ≤ h) (h2 : h ≤ 4) : callN tbl S (n + 1) 42 [.int h] = pure (.lst ((pairs h).map prD)) := by
  rw [c_law_pairs]
  obtain ⟨u, hn, hu⟩ : ∃ u : List Nat → Option (Bool × D), u [] = none ∧ ∀ ps x, u (ps ++ [x]) = some (false, .int (0 + (x : Nat))) := ⟨fun ps => ps.getLast?.map fun p => (false, .int (0 + (p : Nat))), rfl, by simp⟩
  have hf := forM_next (step := fun d ρ => M.opt (tgPut ρ (.one 2) d) >>= fun ρ1 => evSs S (callN tbl S n) (.cons (.extend 1 (.comp [3] (.one 3) (.rng2 (.bin .add (.var 2) (.int 1)) (.var 0)) .none (.tup (.cons (.var 2) (.cons (.var 3) .nil))))) .nil) ρ1) (fun k : Nat => D.int (0 + (k : Nat)))
    (fun ps => [some (false, .int h), some (true, .lst ((ps.flatMap fun i => (List.range (h - (0 + (i : Nat) + 1)).toNat).map fun k => (0 + ((i : Nat) : Int), 0 + ((i : Nat) : Int) + 1 + ((k : Nat) : Int))).map prD)), u ps, none]) (xs := List.range h.toNat) fun ps x rs e => by
    have hx : x ∈ List.range h.toNat := by rw [e]; simp
    have hx := List.mem_range.mp hx
    have hlen : (((ps.flatMap fun i => (List.range (h - (0 + (i : Nat) + 1)).toNat).map fun k => (0 + ((i : Nat) : Int), 0 + ((i : Nat) : Int) + 1 + ((k : Nat) : Int))).map prD)).length ≤ 16 := by
      have h3 := pairs_len h2
      unfold pairs at h3
      rw [e, List.flatMap_append, List.length_append] at h3
      rw [List.length_map]
      omega
    have hm : (((ps ++ [x]).flatMap fun i => (List.range (h - (0 + (i : Nat) + 1)).toNat).map fun k => (0 + ((i : Nat) : Int), 0 + ((i : Nat) : Int) + 1 + ((k : Nat) : Int))).map prD) = ((ps.flatMap fun i => (List.range (h - (0 + (i : Nat) + 1)).toNat).map fun k => (0 + ((i : Nat) : Int), 0 + ((i : Nat) : Int) + 1 + ((k : Nat) : Int))).map prD) ++ ((List.range (h - (0 + (x : Nat) + 1)).toNat).map fun k => prD (0 + ((x : Nat) : Int), 0 + ((x : Nat) : Int) + 1 + ((k : Nat) : Int))) := by
      rw [List.flatMap_append, List.map_append]
      simp [List.map_map, Function.comp_def]
    rw [hu, hm]
    generalize ((ps.flatMap fun i => (List.range (h - (0 + (i : Nat) + 1)).toNat).map fun k => (0 + ((i : Nat) : Int), 0 + ((i : Nat) : Int) + 1 + ((k : Nat) : Int))).map prD) = md at hlen
    have hc := evComp (S := S) (c := callN tbl S n) (vs := [3]) (tg := .one 3) (it := .rng2 (.bin .add (.var 2) (.int 1)) (.var 0)) (elt := .tup (.cons (.var 2) (.cons (.var 3) .nil))) (ρ := [some (false, .int h), some (true, .lst md), some (false, .int (0 + (x : Nat))), none])
      (fun k : Nat => D.int (0 + ((x : Nat) : Int) + 1 + (k : Nat))) (fun k => prD (0 + ((x : Nat) : Int), 0 + ((x : Nat) : Int) + 1 + ((k : Nat) : Int))) (xs := List.range (h - (0 + (x : Nat) + 1)).toNat)
      (e_rng2P (a := 0 + ((x : Nat) : Int) + 1) (b := h) (by simp only [runFn, startE, evSs, evEs, v_non, v_bl, v_int, v_str, v_var, v_glob, v_bin, v_neg, v_not, v_cmp, v_chain, v_isC, v_andL, v_orL, v_ite, v_tup, v_lst, v_idx, v_slice, v_rev, v_call, v_callD, v_callK, v_b1, v_mm, v_isi, v_lrange, v_dget, v_didx, w_assign, w_par, w_unpack, w_append, w_expr, w_ite, w_ret, w_cont, w_raise, w_aug, w_augIdx, evAnd, evOr, evO, evC, evT, look, put, puts, tgPut, wipeE, thaw, lk, lks, lkT, lost, lostT, newL, bindTo, ownL, sc_non, sc_bl, sc_int, sc_str, sc_tup, sc_lst, sc_scr, sc_mref, flat_lst, flat_int, flat_tup, flat_bl, flat_non, flat_mref, flat_scr, isL_lst, isL_tup, isL_int, isL_bl, isL_non, isL_scr, isL_mref, isL_str, opt_some, no_bind, tyD, truth, x_lt, x_le, x_gt, x_ge, x_eqI, x_neI, x_eqL, x_neL, x_eqT, x_neT, x_eqS, binD, negD, isD, idxD, q1_lenL, q1_lenT, q1_lenS, q1_sumL, q1_sumT, q1_abs, q1_listL, q1_listT, q1_tupleL, q1_tupleT, q1_intI, q1_intB, q1_all, q1_min, q1_max, items, fin, pure_bind, bind_assoc, optI, sliceD, List.set_cons_succ, List.set_cons_zero, List.getElem?_cons_succ, List.getElem?_cons_zero, List.getElem?_nil, Option.bind_some, Option.map_some, Option.map_none, List.length_map, List.length_cons, List.length_nil, List.map_cons, List.map_nil, List.cons_append, List.nil_append, List.append_nil, List.replicate_succ, List.replicate_zero, Nat.reduceAdd, Nat.reduceSub, Nat.reduceLeDiff, Nat.reduceLT, if_true, if_false, ite_true, ite_false, Bool.or_true, Bool.or_false, Bool.true_or, Bool.false_or, Bool.and_true, Bool.true_and, Bool.and_false, Bool.false_and, Bool.not_true, Bool.not_false, List.all_cons, List.all_nil, Bool.false_eq_true, reduceIte]) (by simp only [runFn, startE, evSs, evEs, v_non, v_bl, v_int, v_str, v_var, v_glob, v_bin, v_neg, v_not, v_cmp, v_chain, v_isC, v_andL, v_orL, v_ite, v_tup, v_lst, v_idx, v_slice, v_rev, v_call, v_callD, v_callK, v_b1, v_mm, v_isi, v_lrange, v_dget, v_didx, w_assign, w_par, w_unpack, w_append, w_expr, w_ite, w_ret, w_cont, w_raise, w_aug, w_augIdx, evAnd, evOr, evO, evC, evT, look, put, puts, tgPut, wipeE, thaw, lk, lks, lkT, lost, lostT, newL, bindTo, ownL, sc_non, sc_bl, sc_int, sc_str, sc_tup, sc_lst, sc_scr, sc_mref, flat_lst, flat_int, flat_tup, flat_bl, flat_non, flat_mref, flat_scr, isL_lst, isL_tup, isL_int, isL_bl, isL_non, isL_scr, isL_mref, isL_str, opt_some, no_bind, tyD, truth, x_lt, x_le, x_gt, x_ge, x_eqI, x_neI, x_eqL, x_neL, x_eqT, x_neT, x_eqS, binD, negD, isD, idxD, q1_lenL, q1_lenT, q1_lenS, q1_sumL, q1_sumT, q1_abs, q1_listL, q1_listT, q1_tupleL, q1_tupleT, q1_intI, q1_intB, q1_all, q1_min, q1_max, items, fin, pure_bind, bind_assoc, optI, sliceD, List.set_cons_succ, List.set_cons_zero, List.getElem?_cons_succ, List.getElem?_cons_zero, List.getElem?_nil, Option.bind_some, Option.map_some, Option.map_none, List.length_map, List.length_cons, List.length_nil, List.map_cons, List.map_nil, List.cons_append, List.nil_append, List.append_nil, List.replicate_succ, List.replicate_zero, Nat.reduceAdd, Nat.reduceSub, Nat.reduceLeDiff, Nat.reduceLT, if_true, if_false, ite_true, ite_false, Bool.or_true, Bool.or_false, Bool.true_or, Bool.false_or, Bool.and_true, Bool.true_and, Bool.and_false, Bool.false_and, Bool.not_true, Bool.not_false, List.all_cons, List.all_nil, Bool.false_eq_true, reduceIte]) (by omega) (by omega) (by omega) (by omega)) (fun k hk => ⟨_, rfl, by simp only [runFn, startE, evSs, evEs, v_non, v_bl, v_int, v_str, v_var, v_glob, v_bin, v_neg, v_not, v_cmp, v_chain, v_isC, v_andL, v_orL, v_ite, v_tup, v_lst, v_idx, v_slice, v_rev, v_call, v_callD, v_callK, v_b1, v_mm, v_isi, v_lrange, v_dget, v_didx, w_assign, w_par, w_unpack, w_append, w_expr, w_ite, w_ret, w_cont, w_raise, w_aug, w_augIdx, evAnd, evOr, evO, evC, evT, look, put, puts, tgPut, wipeE, thaw, lk, lks, lkT, lost, lostT, newL, bindTo, ownL, sc_non, sc_bl, sc_int, sc_str, sc_tup, sc_lst, sc_scr, sc_mref, flat_lst, flat_int, flat_tup, flat_bl, flat_non, flat_mref, flat_scr, isL_lst, isL_tup, isL_int, isL_bl, isL_non, isL_scr, isL_mref, isL_str, opt_some, no_bind, tyD, truth, x_lt, x_le, x_gt, x_ge, x_eqI, x_neI, x_eqL, x_neL, x_eqT, x_neT, x_eqS, binD, negD, isD, idxD, q1_lenL, q1_lenT, q1_lenS, q1_sumL, q1_sumT, q1_abs, q1_listL, q1_listT, q1_tupleL, q1_tupleT, q1_intI, q1_intB, q1_all, q1_min, q1_max, items, fin, pure_bind, bind_assoc, optI, sliceD, List.set_cons_succ, List.set_cons_zero, List.getElem?_cons_succ, List.getElem?_cons_zero, List.getElem?_nil, Option.bind_some, Option.map_some, Option.map_none, List.length_map, List.length_cons, List.length_nil, List.map_cons, List.map_nil, List.cons_append, List.nil_append, List.append_nil, List.replicate_succ, List.replicate_zero, Nat.reduceAdd, Nat.reduceSub, Nat.reduceLeDiff, Nat.reduceLT, if_true, if_false, ite_true, ite_false, Bool.or_true, Bool.or_false, Bool.true_or, Bool.false_or, Bool.and_true, Bool.true_and, Bool.and_false, Bool.false_and, Bool.not_true, Bool.not_false, List.all_cons, List.all_nil, Bool.false_eq_true, reduceIte, put, wipeE, thaw]; rfl⟩) (by rw [List.length_range]; omega)
    have hml : ((List.range (h - (0 + (x : Nat) + 1)).toNat).map fun k => prD (0 + ((x : Nat) : Int), 0 + ((x : Nat) : Int) + 1 + ((k : Nat) : Int))).length ≤ 4 := by rw [List.length_map, List.length_range]; omega
    generalize ((List.range (h - (0 + (x : Nat) + 1)).toNat).map fun k => prD (0 + ((x : Nat) : Int), 0 + ((x : Nat) : Int) + 1 + ((k : Nat) : Int))) = more at hc hml
    simp only [evSs, evS, hc, put, tgPut, opt_some, pure_bind, bind_assoc, bindTo, sc_ints, lost, lostT, thaw, lkT, lk, lks, newL, sc_non, sc_bl, sc_int, sc_str, sc_tup, sc_lst, sc_scr, sc_mref, flat_lst, flat_int, flat_tup, flat_bl, flat_non, flat_mref, flat_scr, isL_lst, isL_tup, isL_int, isL_bl, isL_non, isL_scr, isL_mref, isL_str, List.set_cons_succ, List.set_cons_zero, List.getElem?_cons_succ, List.getElem?_cons_zero, List.getElem?_nil, Option.bind_some, Option.map_some, Option.map_none, List.length_map, List.length_cons, List.length_nil, List.map_cons, List.map_nil, List.cons_append, List.nil_append, List.append_nil, List.replicate_succ, List.replicate_zero, Nat.reduceAdd, Nat.reduceSub, Nat.reduceLeDiff, Nat.reduceLT, if_true, if_false, ite_true, ite_false, Bool.or_true, Bool.or_false, Bool.true_or, Bool.false_or, Bool.and_true, Bool.true_and, Bool.and_false, Bool.false_and, Bool.not_true, Bool.not_false, List.all_cons, List.all_nil, Bool.false_eq_true, reduceIte, ownL]
    cases hsc : more.all D.sc with
    | true =>
      simp only [bindTo, sc_ints, lost, lostT, thaw, lkT, lk, lks, newL, sc_non, sc_bl, sc_int, sc_str, sc_tup, sc_lst, sc_scr, sc_mref, flat_lst, flat_int, flat_tup, flat_bl, flat_non, flat_mref, flat_scr, isL_lst, isL_tup, isL_int, isL_bl, isL_non, isL_scr, isL_mref, isL_str, List.set_cons_succ, List.set_cons_zero, List.getElem?_cons_succ, List.getElem?_cons_zero, List.getElem?_nil, Option.bind_some, Option.map_some, Option.map_none, List.length_map, List.length_cons, List.length_nil, List.map_cons, List.map_nil, List.cons_append, List.nil_append, List.append_nil, List.replicate_succ, List.replicate_zero, Nat.reduceAdd, Nat.reduceSub, Nat.reduceLeDiff, Nat.reduceLT, if_true, if_false, ite_true, ite_false, Bool.or_true, Bool.or_false, Bool.true_or, Bool.false_or, Bool.and_true, Bool.true_and, Bool.and_false, Bool.false_and, Bool.not_true, Bool.not_false, List.all_cons, List.all_nil, Bool.false_eq_true, reduceIte, List.not_mem_nil, decide_false]
      rw [if_pos (by simp; omega)]
      rfl
    | false =>
      rw [if_pos (by simp; omega)]
      rfl
  rw [hn] at hf
  simp only [fn_law_pairs, runFn, startE, evSs, evEs, v_non, v_bl, v_int, v_str, v_var, v_glob, v_bin, v_neg, v_not, v_cmp, v_chain, v_isC, v_andL, v_orL, v_ite, v_tup, v_lst, v_idx, v_slice, v_rev, v_call, v_callD, v_callK, v_b1, v_mm, v_isi, v_lrange, v_dget, v_didx, w_assign, w_par, w_unpack, w_append, w_expr, w_ite, w_ret, w_cont, w_raise, w_aug, w_augIdx, evAnd, evOr, evO, evC, evT, look, put, puts, tgPut, wipeE, thaw, lk, lks, lkT, lost, lostT, newL, bindTo, ownL, sc_non, sc_bl, sc_int, sc_str, sc_tup, sc_lst, sc_scr, sc_mref, flat_lst, flat_int, flat_tup, flat_bl, flat_non, flat_mref, flat_scr, isL_lst, isL_tup, isL_int, isL_bl, isL_non, isL_scr, isL_mref, isL_str, opt_some, no_bind, tyD, truth, x_lt, x_le, x_gt, x_ge, x_eqI, x_neI, x_eqL, x_neL, x_eqT, x_neT, x_eqS, binD, negD, isD, idxD, q1_lenL, q1_lenT, q1_lenS, q1_sumL, q1_sumT, q1_abs, q1_listL, q1_listT, q1_tupleL, q1_tupleT, q1_intI, q1_intB, q1_all, q1_min, q1_max, items, fin, pure_bind, bind_assoc, optI, sliceD, List.set_cons_succ, List.set_cons_zero, List.getElem?_cons_succ, List.getElem?_cons_zero, List.getElem?_nil, Option.bind_some, Option.map_some, Option.map_none, List.length_map, List.length_cons, List.length_nil, List.map_cons, List.map_nil, List.cons_append, List.nil_append, List.append_nil, List.replicate_succ, List.replicate_zero, Nat.reduceAdd, Nat.reduceSub, Nat.reduceLeDiff, Nat.reduceLT, if_true, if_false, ite_true, ite_false, Bool.or_true, Bool.or_false, Bool.true_or, Bool.false_or, Bool.and_true, Bool.true_and, Bool.and_false, Bool.false_and, Bool.not_true, Bool.not_false, List.all_cons, List.all_nil, Bool.false_eq_true, reduceIte, Nat.zero_le]
  rw [w_for (ds := (List.range h.toNat).map fun i => D.int (0 + (i : Nat))) (e_rngP (h := h) (by simp only [runFn, startE, evSs, evEs, v_non, v_bl, v_int, v_str, v_var, v_glob, v_bin, v_neg, v_not, v_cmp, v_chain, v_isC, v_andL, v_orL, v_ite, v_tup, v_lst, v_idx, v_slice, v_rev, v_call, v_callD, v_callK, v_b1, v_mm, v_isi, v_lrange, v_dget, v_didx, w_assign, w_par, w_unpack, w_append, w_expr, w_ite, w_ret, w_cont, w_raise, w_aug, w_augIdx, evAnd, evOr, evO, evC, evT, look, put, puts, tgPut, wipeE, thaw, lk, lks, lkT, lost, lostT, newL, bindTo, ownL, sc_non, sc_bl, sc_int, sc_str, sc_tup, sc_lst, sc_scr, sc_mref, flat_lst, flat_int, flat_tup, flat_bl, flat_non, flat_mref, flat_scr, isL_lst, isL_tup, isL_int, isL_bl, isL_non, isL_scr, isL_mref, isL_str, opt_some, no_bind, tyD, truth, x_lt, x_le, x_gt, x_ge, x_eqI, x_neI, x_eqL, x_neL, x_eqT, x_neT, x_eqS, binD, negD, isD, idxD, q1_lenL, q1_lenT, q1_lenS, q1_sumL, q1_sumT, q1_abs, q1_listL, q1_listT, q1_tupleL, q1_tupleT, q1_intI, q1_intB, q1_all, q1_min, q1_max, items, fin, pure_bind, bind_assoc, optI, sliceD, List.set_cons_succ, List.set_cons_zero, List.getElem?_cons_succ, List.getElem?_cons_zero, List.getElem?_nil, Option.bind_some, Option.map_some, Option.map_none, List.length_map, List.length_cons, List.length_nil, List.map_cons, List.map_nil, List.cons_append, List.nil_append, List.append_nil, List.replicate_succ, List.replicate_zero, Nat.reduceAdd, Nat.reduceSub, Nat.reduceLeDiff, Nat.reduceLT, if_true, if_false, ite_true, ite_false, Bool.or_true, Bool.or_false, Bool.true_or, Bool.false_or, Bool.and_true, Bool.true_and, Bool.and_false, Bool.false_and, Bool.not_true, Bool.not_false, List.all_cons, List.all_nil, Bool.false_eq_true, reduceIte]) h0 (by omega))]
  simp only [lostT, thaw, lkT, lk, newL, List.set_cons_succ, List.set_cons_zero, List.getElem?_cons_succ, List.getElem?_cons_zero, List.getElem?_nil, Option.bind_some, Option.map_some, Option.map_none, List.length_map, List.length_cons, List.length_nil, List.map_cons, List.map_nil, List.cons_append, List.nil_append, List.append_nil, List.replicate_succ, List.replicate_zero, Nat.reduceAdd, Nat.reduceSub, Nat.reduceLeDiff, Nat.reduceLT, if_true, if_false, ite_true, ite_false, Bool.or_true, Bool.or_false, Bool.true_or, Bool.false_or, Bool.and_true, Bool.true_and, Bool.and_false, Bool.false_and, Bool.not_true, Bool.not_false, List.all_cons, List.all_nil, Bool.false_eq_true, reduceIte]
  rw [List.flatMap_nil, List.map_nil] at hf
  rw [hf]
  simp only [runFn, startE, evSs, evEs, v_non, v_bl, v_int, v_str, v_var, v_glob, v_bin, v_neg, v_not, v_cmp, v_chain, v_isC, v_andL, v_orL, v_ite, v_tup, v_lst, v_idx, v_slice, v_rev, v_call, v_callD, v_callK, v_b1, v_mm, v_isi, v_lrange, v_dget, v_didx, w_assign, w_par, w_unpack, w_append, w_expr, w_ite, w_ret, w_cont, w_raise, w_aug, w_augIdx, evAnd, evOr, evO, evC, evT, look, put, puts, tgPut, wipeE, thaw, lk, lks, lkT, lost, lostT, newL, bindTo, ownL, sc_non, sc_bl, sc_int, sc_str, sc_tup, sc_lst, sc_scr, sc_mref, flat_lst, flat_int, flat_tup, flat_bl, flat_non, flat_mref, flat_scr, isL_lst, isL_tup, isL_int, isL_bl, isL_non, isL_scr, isL_mref, isL_str, opt_some, no_bind, tyD, truth, x_lt, x_le, x_gt, x_ge, x_eqI, x_neI, x_eqL, x_neL, x_eqT, x_neT, x_eqS, binD, negD, isD, idxD, q1_lenL, q1_lenT, q1_lenS, q1_sumL, q1_sumT, q1_abs, q1_listL, q1_listT, q1_tupleL, q1_tupleT, q1_intI, q1_intB, q1_all, q1_min, q1_max, items, fin, pure_bind, bind_assoc, optI, sliceD, List.set_cons_succ, List.set_cons_zero, List.getElem?_cons_succ, List.getElem?_cons_zero, List.getElem?_nil, Option.bind_some, Option.map_some, Option.map_none, List.length_map, List.length_cons, List.length_nil, List.map_cons, List.map_nil, List.cons_append, List.nil_append, List.append_nil, List.replicate_succ, List.replicate_zero, Nat.reduceAdd, Nat.reduceSub, Nat.reduceLeDiff, Nat.reduceLT, if_true, if_false, ite_true, ite_false, Bool.or_true, Bool.or_false, Bool.true_or, Bool.false_or, Bool.and_true, Bool.true_and, Bool.and_false, Bool.false_and, Bool.not_true, Bool.not_false, List.all_cons, List.all_nil, Bool.false_eq_true, reduceIte]
  rfl
end
end Ev

set_option Elab.async false
set_option linter.all false
set_option maxRecDepth 100000
set_option maxHeartbeats 1000000
namespace Ev
/-! ### sums against functions -/
def ws (f : Nat → Int) : Nat → List Int → Int
  | _, [] => 0
  | i, x :: l => x * f i + ws f (i + 1) l
theorem ws_parts (f : Nat → Int) : ∀ (l : List Int) (a : Int) (i : Nat), ws (dl f) i (psum a l) = (a + l.sum) * f (i + l.length) - a * f i - ws f i l
  | [], a, i => by simp [psum, ws]
  | x :: l, a, i => by
    have ih := ws_parts f l (a + x) (i + 1)
    show (a + x) * (f (i + 1) - f i) + ws (dl f) (i + 1) (psum (a + x) l) = (a + (x + l.sum)) * f (i + (l.length + 1)) - a * f i - (x * f i + ws f (i + 1) l)
    rw [ih, show i + 1 + l.length = i + (l.length + 1) by omega, show a + (x + l.sum) = a + x + l.sum by omega, Int.mul_sub, Int.add_mul a x (f i)]
    omega
theorem ws_add (f g : Nat → Int) : ∀ (l : List Int) (i : Nat), ws (fun x => f x + g x) i l = ws f i l + ws g i l
  | [], _ => rfl
  | x :: l, i => by
    show x * (f i + g i) + ws (fun x => f x + g x) (i + 1) l = (x * f i + ws f (i + 1) l) + (x * g i + ws g (i + 1) l)
    rw [ws_add f g l, Int.mul_add]
    omega
theorem ws_mul (c : Int) (f : Nat → Int) : ∀ (l : List Int) (i : Nat), ws (fun x => c * f x) i l = c * ws f i l
  | [], _ => (Int.mul_zero c).symm
  | x :: l, i => by
    show x * (c * f i) + ws (fun x => c * f x) (i + 1) l = c * (x * f i + ws f (i + 1) l)
    rw [ws_mul c f l, Int.mul_add, ← Int.mul_assoc, ← Int.mul_assoc, Int.mul_comm x c]
theorem ws_one : ∀ (l : List Int) (i : Nat), ws (fun _ => 1) i l = l.sum
  | [], _ => rfl
  | x :: l, i => by
    show x * 1 + ws (fun _ => 1) (i + 1) l = _
    rw [ws_one l, List.sum_cons, Int.mul_one]
theorem ws_zero : ∀ (l : List Int) (i : Nat), ws (fun _ => 0) i l = 0
  | [], _ => rfl
  | x :: l, i => by
    show x * 0 + ws (fun _ => 0) (i + 1) l = _
    rw [ws_zero l, Int.mul_zero]
    rfl
def pwr (k : Nat) : Nat → Int := fun x => ((x : Nat) : Int) ^ k
theorem ws_poly {m : Nat} {l : List Int} (h : ∀ k < m, ws (pwr k) 0 l = 0) : ∀ {qs : List (Int × Nat)}, (∀ q ∈ qs, q.2 < m) → ws (poly qs) 0 l = 0
  | [], _ => ws_zero l 0
  | q :: qs, hq => by
    have e : poly (q :: qs) = fun x => q.1 * pwr q.2 x + poly qs x := rfl
    rw [e, ws_add, ws_mul, h q.2 (hq q (by simp)), ws_poly h fun x hx => hq x (List.mem_cons_of_mem _ hx), Int.mul_zero]
    rfl
theorem poly_app (qs rs : List (Int × Nat)) (x : Nat) : poly (qs ++ rs) x = poly qs x + poly rs x := by
  unfold poly
  rw [List.map_append, List.sum_append]
theorem poly_up (x : Nat) : ∀ qs : List (Int × Nat), poly (qs.map fun q => (q.1, q.2 + 1)) x = (x : Int) * poly qs x
  | [] => (Int.mul_zero _).symm
  | q :: qs => by
    show q.1 * (x : Int) ^ (q.2 + 1) + poly (qs.map fun q => (q.1, q.2 + 1)) x = (x : Int) * (q.1 * (x : Int) ^ q.2 + poly qs x)
    rw [poly_up x qs, Int.mul_add, Int.pow_succ, ← Int.mul_assoc, ← Int.mul_assoc, Int.mul_comm (x : Int) q.1, Int.mul_assoc, Int.mul_comm _ (x : Int), ← Int.mul_assoc]
theorem dl_pow : ∀ k : Nat, ∃ qs : List (Int × Nat), (∀ q ∈ qs, q.2 < k) ∧ dl (pwr (k + 1)) = fun x => ((k : Int) + 1) * pwr k x + poly qs x
  | 0 => ⟨[], by simp, by
    funext x
    show ((x + 1 : Nat) : Int) ^ 1 - (x : Int) ^ 1 = ((0 : Nat) + 1 : Int) * (x : Int) ^ 0 + 0
    rw [Int.pow_succ, Int.pow_succ, Int.pow_zero, Int.pow_zero]
    omega⟩
  | k + 1 => by
    obtain ⟨qs, h1, h2⟩ := dl_pow k
    refine ⟨((k : Int) + 1, k) :: ((qs.map fun q => (q.1, q.2 + 1)) ++ qs), fun q hq => ?_, ?_⟩
    · rcases List.mem_cons.mp hq with rfl | hq
      · exact Nat.lt_succ_self k
      · rcases List.mem_append.mp hq with hq | hq
        · obtain ⟨p, hp, rfl⟩ := List.mem_map.mp hq
          exact Nat.succ_lt_succ (h1 p hp)
        · exact Nat.lt_succ_of_lt (h1 q hq)
    · funext x
      have e := congrFun h2 x
      have e : ((x + 1 : Nat) : Int) ^ (k + 1) - (x : Int) ^ (k + 1) = ((k : Int) + 1) * (x : Int) ^ k + poly qs x := e
      show ((x + 1 : Nat) : Int) ^ (k + 1 + 1) - (x : Int) ^ (k + 1 + 1) = (((k + 1 : Nat) : Int) + 1) * (x : Int) ^ (k + 1) + (((k : Int) + 1) * (x : Int) ^ k + poly ((qs.map fun q => (q.1, q.2 + 1)) ++ qs) x)
      rw [poly_app, poly_up]
      have e1 : ((x + 1 : Nat) : Int) ^ (k + 1 + 1) = ((x + 1 : Nat) : Int) ^ (k + 1) * ((x : Int) + 1) := by rw [Int.pow_succ]; congr 1
      have e2 : (x : Int) ^ (k + 1 + 1) = (x : Int) ^ (k + 1) * (x : Int) := Int.pow_succ _ _
      have e3 : (x : Int) ^ (k + 1) = (x : Int) ^ k * (x : Int) := Int.pow_succ _ _
      generalize ((x + 1 : Nat) : Int) ^ (k + 1) = A at e e1
      generalize poly qs x = Q at e
      rw [e1, e2]
      have hA : A = (x : Int) ^ (k + 1) + (((k : Int) + 1) * (x : Int) ^ k + Q) := by omega
      rw [hA, e3]
      generalize (x : Int) ^ k = B
      generalize (x : Int) = X
      rw [show ((k + 1 : Nat) : Int) + 1 = (k : Int) + 1 + 1 by omega]
      generalize (k : Int) + 1 = K
      have r1 : (B * X + (K * B + Q)) * (X + 1) = B * X * X + B * X + (K * (B * X) + K * B + (X * Q + Q)) := by
        rw [Int.mul_add, Int.mul_one, Int.add_mul, Int.add_mul, Int.mul_assoc K B X, Int.mul_comm Q X]
        omega
      rw [r1, Int.add_mul K 1 (B * X), Int.one_mul]
      omega
theorem sumN_comm : ∀ (k : Nat) (l : List Int), sumN (k + 1) l = sumN k (psum 0 l)
  | 0, l => rfl
  | k + 1, l => by rw [sumN, sumN_comm k l, sumN]
/-- vanishing sums, vanishing moments -/
theorem sums_moments : ∀ (d : Nat) (l : List Int), (∀ k ≤ d, (sumN k l).sum = 0) ↔ ∀ k ≤ d, ws (pwr k) 0 l = 0
  | 0, l => by
    have e : ws (pwr 0) 0 l = l.sum := by
      have : pwr 0 = fun _ => 1 := by funext x; exact Int.pow_zero _
      rw [this, ws_one]
    constructor
    · intro h k hk
      have hk : k = 0 := by omega
      subst hk
      rw [e]
      exact h 0 (Nat.le_refl _)
    · intro h k hk
      have hk : k = 0 := by omega
      subst hk
      have := h 0 (Nat.le_refl _)
      rw [e] at this
      exact this
  | d + 1, l => by
    have e : ws (pwr 0) 0 l = l.sum := by
      have : pwr 0 = fun _ => 1 := by funext x; exact Int.pow_zero _
      rw [this, ws_one]
    have ih := sums_moments d (psum 0 l)
    have parts : l.sum = 0 → ∀ f, ws f 0 l = -ws (dl f) 0 (psum 0 l) := fun h0 f => by
      rw [ws_parts, h0, Int.add_zero, Int.zero_mul, Int.zero_mul]
      omega
    constructor
    · intro h k hk
      have h0 : l.sum = 0 := h 0 (Nat.zero_le _)
      have hM := ih.mp fun j hj => by rw [← sumN_comm]; exact h (j + 1) (by omega)
      cases k with
      | zero => rw [e]; exact h0
      | succ k =>
        obtain ⟨qs, q1, q2⟩ := dl_pow k
        rw [parts h0, q2, ws_add, ws_mul, hM k (by omega), ws_poly (m := k) (fun j hj => hM j (by omega)) q1, Int.mul_zero]
        rfl
    · intro h k hk
      have h0 : l.sum = 0 := by rw [← e]; exact h 0 (Nat.zero_le _)
      have hP : ∀ j ≤ d, ws (pwr j) 0 (psum 0 l) = 0 := fun j => by
        induction j using Nat.strongRecOn with
        | ind j ihj =>
          intro hj
          obtain ⟨qs, q1, q2⟩ := dl_pow j
          have := h (j + 1) (by omega)
          rw [parts h0, q2, ws_add, ws_mul, ws_poly (m := j) (fun i hi => ihj i hi (by omega)) q1, Int.add_zero] at this
          have hz : ((j : Int) + 1) * ws (pwr j) 0 (psum 0 l) = 0 := by omega
          exact (Int.mul_eq_zero.mp hz).resolve_left (by omega)
      cases k with
      | zero => exact h0
      | succ k =>
        rw [sumN_comm]
        exact ih.mpr hP k (by omega)
/-! ### when all sums vanish -/
theorem psum_zero : ∀ {l : List Int}, (∀ x ∈ psum 0 l, x = 0) → ∀ x ∈ l, x = 0
  | [], _ => by simp
  | y :: l, h => by
    have hy : 0 + y = 0 := h (0 + y) (by rw [psum]; exact List.mem_cons_self)
    have hy' : y = 0 := by omega
    subst hy'
    intro x hx
    rcases List.mem_cons.mp hx with rfl | hx
    · rfl
    · exact psum_zero (l := l) (fun z hz => h z (by rw [psum]; exact List.mem_cons_of_mem _ hz)) x hx
theorem sumN_snoc {l : List Int} : ∀ {m : Nat}, (∀ k < m, (sumN k l).sum = 0) → sumN m (l ++ [0]) = sumN m l ++ [0]
  | 0, _ => rfl
  | m + 1, h => by
    rw [sumN, sumN_snoc fun k hk => h k (by omega), psum_snoc, h m (Nat.lt_succ_self m)]
    rfl
theorem all_zero : ∀ (n : Nat) (l : List Int), l.length = n → (∀ k < n, (sumN k l).sum = 0) → ∀ x ∈ l, x = 0
  | 0, l, hl, _ => by
    rw [List.length_eq_zero_iff.mp hl]
    simp
  | n + 1, l, hl, h => by
    have h0 : l.sum = 0 := h 0 (by omega)
    refine psum_zero ?_
    obtain ⟨l', x, rfl⟩ : ∃ l' x, l = l' ++ [x] := by
      refine ⟨l.dropLast, l.getLast (fun z => by rw [z] at hl; cases hl), ?_⟩
      rw [List.dropLast_concat_getLast]
    have hl' : l'.length = n := by simpa using hl
    have hs : l'.sum + x = 0 := by simpa using h0
    have e : psum 0 (l' ++ [x]) = psum 0 l' ++ [0] := by
      rw [psum_snoc, show (0 : Int) + l'.sum + x = 0 by omega]
    have hk : ∀ k < n, (sumN k (psum 0 l')).sum = 0 := fun k => by
      induction k using Nat.strongRecOn with
      | ind k ih =>
        intro hk
        have h1 := h (k + 1) (by omega)
        rw [sumN_comm, e, sumN_snoc fun j hj => ih j hj (by omega)] at h1
        simpa using h1
    have hz := all_zero n (psum 0 l') (by rw [psum_len]; exact hl') hk
    rw [e]
    intro y hy
    rcases List.mem_append.mp hy with hy | hy
    · exact hz y hy
    · exact List.mem_singleton.mp hy
end Ev

set_option Elab.async false
set_option linter.all false
set_option maxRecDepth 100000
set_option maxHeartbeats 1000000
namespace Ev
/-! ### even by sums, even by moments -/
theorem psum_last (l : List Int) (h : 1 ≤ l.length) : (psum 0 l).getD (l.length - 1) 0 = l.sum := by
  have := psum_get 0 l (l.length - 1) (by omega)
  rw [List.getD_eq_getElem?_getD, this, show l.length - 1 + 1 = l.length by omega, List.take_length, Int.zero_add]
  rfl
theorem endN_sum {k : Nat} {l : List Int} (h : 1 ≤ l.length) : endN (k + 1) l = (sumN k l).sum := by
  unfold endN
  rw [sumN]
  have := psum_last (sumN k l) (by rw [sumN_len]; exact h)
  rw [sumN_len] at this
  exact this
theorem twoB_iff {s : List Int} {d : Nat} (h : 1 ≤ s.length) : twoB s d = true ↔ ∀ k ≤ d, ws (pwr k) 0 s = 0 := by
  rw [← sums_moments]
  unfold twoB
  rw [List.all_eq_true]
  constructor
  · intro hh k hk
    have := of_decide_eq_true (hh k (List.mem_range.mpr (by omega)))
    rw [endN_sum h] at this
    exact this
  · intro hh k hk
    have := List.mem_range.mp hk
    exact decide_eq_true (by rw [endN_sum h]; exact hh k (by omega))
theorem ws_range (f : Nat → Int) : ∀ (l : List Int) (i : Nat), ws f i l = ((List.range l.length).map fun x => l.getD x 0 * f (i + x)).sum
  | [], _ => rfl
  | y :: l, i => by
    show y * f i + ws f (i + 1) l = _
    rw [ws_range f l (i + 1), List.length_cons, List.range_succ_eq_map, List.map_cons, List.sum_cons, List.map_map]
    show y * f i + _ = y * f (i + 0) + _
    rw [Nat.add_zero]
    congr 3
    funext x
    show l.getD x 0 * f (i + 1 + x) = (y :: l).getD (x + 1) 0 * f (i + (x + 1))
    rw [List.getD_cons_succ, show i + 1 + x = i + (x + 1) by omega]
theorem filter_sum (f : Nat → Int) (p : Nat → Bool) : ∀ l : List Nat, ((l.filter p).map f).sum = (l.map fun x => if p x = true then f x else 0).sum
  | [] => rfl
  | x :: l => by
    rw [List.filter_cons, List.map_cons, List.sum_cons, ← filter_sum f p l]
    by_cases h : p x = true
    · rw [if_pos h, if_pos h]; rfl
    · rw [if_neg h, if_neg h]; omega
theorem sum_sub (f g : Nat → Int) : ∀ l : List Nat, (l.map f).sum - (l.map g).sum = (l.map fun x => f x - g x).sum
  | [] => rfl
  | x :: l => by
    have := sum_sub f g l
    simp only [List.map_cons, List.sum_cons]
    omega
theorem ws_sgn {a b : Int} {r : List Int} {k : Nat} : ws (pwr k) 0 (r.map (sgn a b)) = momK r a k - momK r b k := by
  rw [ws_range, List.length_map]
  unfold momK places
  rw [filter_sum, filter_sum, sum_sub]
  congr 1
  refine List.map_congr_left fun x hx => ?_
  have hx := List.mem_range.mp hx
  rw [Nat.zero_add]
  have e : (r.map (sgn a b)).getD x 0 = sgn a b (r.getD x 0) := by
    rw [List.getD_eq_getElem?_getD, List.getD_eq_getElem?_getD, List.getElem?_map, List.getElem?_eq_getElem hx]
    rfl
  rw [e]
  unfold sgn pwr
  generalize r.getD x 0 = y
  generalize ((x : Nat) : Int) ^ k = w
  simp only [decide_eq_true_eq]
  by_cases e1 : y = a
  · by_cases e2 : y = b
    · rw [if_pos e1, if_pos e2, if_pos e1, if_pos e2]; omega
    · rw [if_pos e1, if_neg e2, if_pos e1, if_neg e2]; omega
  · by_cases e2 : y = b
    · rw [if_neg e1, if_pos e2, if_neg e1, if_pos e2]; omega
    · rw [if_neg e1, if_neg e2, if_neg e1, if_neg e2]; omega
theorem mom_eq {r : List Int} {a b : Int} {d : Nat} : mom r a d = mom r b d ↔ ∀ k ≤ d, momK r a k = momK r b k := by
  unfold mom
  constructor
  · intro h k hk
    have := congrArg (fun l => l[k]?) h
    simp only [List.getElem?_map] at this
    rw [List.getElem?_eq_getElem (by rw [List.length_range]; omega), List.getElem_range] at this
    exact Option.some.inj this
  · intro h
    refine List.map_congr_left fun k hk => ?_
    have := List.mem_range.mp hk
    exact h k (by omega)
theorem evenB_iff {h : Int} {r : List Int} {d : Nat} (r1 : 1 ≤ r.length) : evenB h r d = true ↔ ∀ a b : Int, 0 ≤ a → a < h → 0 ≤ b → b < h → ∀ k ≤ d, momK r a k = momK r b k := by
  unfold evenB
  rw [List.all_eq_true]
  constructor
  · intro hh a b a1 a2 b1 b2 k hk
    rcases Int.lt_trichotomy a b with h1 | h1 | h1
    · have := (twoB_iff (by rw [List.length_map]; exact r1)).mp (hh (a, b) (mem_pairs.mpr ⟨a1, h1, b2⟩)) k hk
      rw [ws_sgn] at this
      simp only at this
      omega
    · rw [h1]
    · have := (twoB_iff (by rw [List.length_map]; exact r1)).mp (hh (b, a) (mem_pairs.mpr ⟨b1, h1, a2⟩)) k hk
      rw [ws_sgn] at this
      simp only at this
      omega
  · intro hh p hp
    obtain ⟨p1, p2, p3⟩ := mem_pairs.mp hp
    refine (twoB_iff (by rw [List.length_map]; exact r1)).mpr fun k hk => ?_
    rw [ws_sgn, hh p.1 p.2 p1 (by omega) (by omega) p3 k hk]
    omega
theorem even_same {h : Int} {r : List Int} {d : Nat} (h1 : 1 ≤ h) (r1 : 1 ≤ r.length) : sameB h r d = evenB h r d := by
  have : sameB h r d = true ↔ evenB h r d = true := by
    rw [evenB_iff r1]
    unfold sameB
    rw [List.all_eq_true]
    constructor
    · intro hh a b a1 a2 b1 b2 k hk
      have ha := mom_eq.mp (of_decide_eq_true (hh a.toNat (List.mem_range.mpr (by omega)))) k hk
      have hb := mom_eq.mp (of_decide_eq_true (hh b.toNat (List.mem_range.mpr (by omega)))) k hk
      rw [show (0 : Int) + ((a.toNat : Nat) : Int) = a by omega] at ha
      rw [show (0 : Int) + ((b.toNat : Nat) : Int) = b by omega] at hb
      rw [ha, hb]
    · intro hh i hi
      have := List.mem_range.mp hi
      exact decide_eq_true (mom_eq.mpr fun k hk => hh _ _ (by omega) (by omega) (by omega) (by omega) k hk)
  cases e1 : sameB h r d <;> cases e2 : evenB h r d <;> simp_all
theorem least_false (p : Nat → Bool) : ∀ M, p M = false → ∃ N, N ≤ M ∧ p N = false ∧ ∀ i < N, p i = true
  | 0, h => ⟨0, Nat.le_refl _, h, fun i hi => absurd hi (Nat.not_lt_zero _)⟩
  | M + 1, h => by
    by_cases hh : ∃ i, i ≤ M ∧ p i = false
    · obtain ⟨i, hi, hp⟩ := hh
      have : ∀ j, j ≤ M → p j = false → ∃ N, N ≤ j ∧ p N = false ∧ ∀ i < N, p i = true := by
        intro j
        induction j using Nat.strongRecOn with
        | ind j ih =>
          intro hj hpj
          by_cases h2 : ∃ i, i < j ∧ p i = false
          · obtain ⟨i, h3, h4⟩ := h2
            obtain ⟨N, n1, n2, n3⟩ := ih i h3 (by omega) h4
            exact ⟨N, by omega, n2, n3⟩
          · refine ⟨j, Nat.le_refl _, hpj, fun i hi => ?_⟩
            cases e : p i with
            | true => rfl
            | false => exact absurd ⟨i, hi, e⟩ h2
      obtain ⟨N, n1, n2, n3⟩ := this i hi hp
      exact ⟨N, by omega, n2, n3⟩
    · refine ⟨M + 1, Nat.le_refl _, h, fun i hi => ?_⟩
      cases e : p i with
      | true => rfl
      | false => exact absurd ⟨i, by omega, e⟩ hh
theorem even_stops {h : Int} {r : List Int} (h1 : 2 ≤ h) (g : Row h r) : ∃ N, N ≤ 64 ∧ evenB h r N = false ∧ ∀ i < N, evenB h r i = true := by
  have r1 := g.1
  have hfalse : evenB h r 64 = false := by
    cases e : evenB h r 64 with
    | false => rfl
    | true =>
      exfalso
      have ev := (evenB_iff r1).mp e
      obtain ⟨x, l, hr⟩ : ∃ x l, r = x :: l := by
        cases r with
        | nil => simp at r1
        | cons x l => exact ⟨x, l, rfl⟩
      obtain ⟨x1, x2⟩ := g.2.2 x (by rw [hr]; simp)
      obtain ⟨b, b1, b2, b3⟩ : ∃ b : Int, 0 ≤ b ∧ b < h ∧ x ≠ b := by
        by_cases e : x = 0
        · exact ⟨1, by omega, by omega, by omega⟩
        · exact ⟨0, by omega, by omega, e⟩
      have hz := all_zero r.length (r.map (sgn x b)) (by rw [List.length_map]) (fun k hk => by
        have := (sums_moments 64 (r.map (sgn x b))).mpr (fun j hj => by
          rw [ws_sgn, ev x b x1 x2 b1 b2 j hj]
          omega) k (by have := g.2.1; omega)
        exact this)
      have := hz (sgn x b x) (by rw [hr]; simp)
      unfold sgn at this
      rw [if_pos rfl, if_neg b3] at this
      omega
  exact least_false _ 64 hfalse
end Ev

set_option Elab.async false
set_option linter.all false
set_option maxRecDepth 100000
set_option maxHeartbeats 2000000
namespace Ev
section
variable {S : List Int}
theorem cut_two {a b : Int} {l : List Int} : cutD (iD (a :: b :: l)) none (some 2) = [.int a, .int b] := by
  have := cut_to (xs := iD (a :: b :: l)) (k := 2) (by simp)
  rw [show ((2 : Nat) : Int) = 2 from rfl] at this
  rw [this]
  rfl
theorem ord_two {h : Int} {o : List Int} (ho : Ord h o) (h1 : 2 ≤ h) : ∃ a b l, o = a :: b :: l ∧ a ≠ b ∧ (0 ≤ a ∧ a < h) ∧ (0 ≤ b ∧ b < h) := by
  have hl := ho.len
  match o, ho, hl with
  | [], _, hl => simp at hl; omega
  | [_], _, hl => simp at hl; omega
  | a :: b :: l, ho, _ =>
    have nd := ho.nodup
    refine ⟨a, b, l, rfl, fun e => ?_, ho.mem.mp (by simp), ho.mem.mp (by simp)⟩
    rw [e] at nd
    simp at nd
theorem zeros_ends {h : Int} {r : List Int} {g : Nat} : zeros ((pairs h).flatMap fun p => (List.range (g + 1)).map fun k => endN (k + 1) (r.map (sgn p.1 p.2))) = evenB h r g := by
  unfold zeros evenB twoB
  rw [List.all_flatMap]
  congr 1
  funext p
  rw [List.all_map]
  rfl
theorem main03 (hS : S.length ≤ 63) : ∃ μ, callN tbl S 12 903 [.scr] [] = .ok (.bl true) μ := by
  obtain ⟨d1, d2⟩ := (dv_ok hS 1 (r := 3) (by decide)).1
  generalize hh : 2 + dv S 1 3 = h
  have h1 : 2 ≤ h := by omega
  have h2 : h ≤ 4 := by omega
  obtain ⟨c1, c2⟩ := (dv_ok hS 2 (r := 3) (by decide)).1
  generalize hdg : dv S 2 3 = dg at c1 c2
  obtain ⟨r, L1, g0, hL1, hr⟩ := e_near_even (n := 5) hS (L := 2) h1 h2 c1 (by omega) (by decide)
  obtain ⟨o, ho, he⟩ := e_order_of (n := 7) hS (L := L1) (m := h) (by omega) (by omega) (by omega)
  obtain ⟨a, b, l, rfl, ab, ⟨a1, a2⟩, ⟨b1, b2⟩⟩ := ord_two ho h1
  generalize hL : L1 + h.toNat = L at he
  have rl : r.length ≤ 1000 := Nat.le_trans g0.2.1 (by decide)
  have r1 : 1 ≤ r.length := g0.1
  obtain ⟨N, n1, n2, n3⟩ := even_stops h1 g0
  rw [c_law03]
  refine RetT.run rfl ?_
  unfold fn_law03
  refine .of (seqR (ρ1 := [some (false, .scr), some (false, .mref 0), none, none, none, none, none, none, none, none, none, none, none, none]) (μ1 := tw 0) (by rw [evS]; rfl)) ?_
  refine .of (setR (d := .int h) (μ1 := tw 1) (by
    simp only [runFn, startE, evSs, evEs, v_non, v_bl, v_int, v_str, v_var, v_glob, v_bin, v_neg, v_not, v_cmp, v_chain, v_isC, v_andL, v_orL, v_ite, v_tup, v_lst, v_idx, v_slice, v_rev, v_call, v_callD, v_callK, v_b1, v_mm, v_isi, v_lrange, v_dget, v_didx, w_assign, w_par, w_unpack, w_append, w_expr, w_ite, w_ret, w_cont, w_raise, w_aug, w_augIdx, evAnd, evOr, evO, evC, evT, look, put, puts, tgPut, wipeE, thaw, lk, lks, lkT, lost, lostT, newL, bindTo, ownL, sc_non, sc_bl, sc_int, sc_str, sc_tup, sc_lst, sc_scr, sc_mref, flat_lst, flat_int, flat_tup, flat_bl, flat_non, flat_mref, flat_scr, isL_lst, isL_tup, isL_int, isL_bl, isL_non, isL_scr, isL_mref, isL_str, opt_some, no_bind, tyD, truth, x_lt, x_le, x_gt, x_ge, x_eqI, x_neI, x_eqL, x_neL, x_eqT, x_neT, x_eqS, binD, negD, isD, idxD, q1_lenL, q1_lenT, q1_lenS, q1_sumL, q1_sumT, q1_abs, q1_listL, q1_listT, q1_tupleL, q1_tupleT, q1_intI, q1_intB, q1_all, q1_min, q1_max, items, fin, pure_bind, bind_assoc, optI, sliceD, List.set_cons_succ, List.set_cons_zero, List.getElem?_cons_succ, List.getElem?_cons_zero, List.getElem?_nil, Option.bind_some, Option.map_some, Option.map_none, List.length_map, List.length_cons, List.length_nil, List.map_cons, List.map_nil, List.cons_append, List.nil_append, List.append_nil, List.replicate_succ, List.replicate_zero, Nat.reduceAdd, Nat.reduceSub, Nat.reduceLeDiff, Nat.reduceLT, if_true, if_false, ite_true, ite_false, Bool.or_true, Bool.or_false, Bool.true_or, Bool.false_or, Bool.and_true, Bool.true_and, Bool.and_false, Bool.false_and, Bool.not_true, Bool.not_false, List.all_cons, List.all_nil, Bool.false_eq_true, reduceIte]
    rw [run_bind (e_draw hS (by decide) (by decide))]
    simp only [runFn, startE, evSs, evEs, v_non, v_bl, v_int, v_str, v_var, v_glob, v_bin, v_neg, v_not, v_cmp, v_chain, v_isC, v_andL, v_orL, v_ite, v_tup, v_lst, v_idx, v_slice, v_rev, v_call, v_callD, v_callK, v_b1, v_mm, v_isi, v_lrange, v_dget, v_didx, w_assign, w_par, w_unpack, w_append, w_expr, w_ite, w_ret, w_cont, w_raise, w_aug, w_augIdx, evAnd, evOr, evO, evC, evT, look, put, puts, tgPut, wipeE, thaw, lk, lks, lkT, lost, lostT, newL, bindTo, ownL, sc_non, sc_bl, sc_int, sc_str, sc_tup, sc_lst, sc_scr, sc_mref, flat_lst, flat_int, flat_tup, flat_bl, flat_non, flat_mref, flat_scr, isL_lst, isL_tup, isL_int, isL_bl, isL_non, isL_scr, isL_mref, isL_str, opt_some, no_bind, tyD, truth, x_lt, x_le, x_gt, x_ge, x_eqI, x_neI, x_eqL, x_neL, x_eqT, x_neT, x_eqS, binD, negD, isD, idxD, q1_lenL, q1_lenT, q1_lenS, q1_sumL, q1_sumT, q1_abs, q1_listL, q1_listT, q1_tupleL, q1_tupleT, q1_intI, q1_intB, q1_all, q1_min, q1_max, items, fin, pure_bind, bind_assoc, optI, sliceD, List.set_cons_succ, List.set_cons_zero, List.getElem?_cons_succ, List.getElem?_cons_zero, List.getElem?_nil, Option.bind_some, Option.map_some, Option.map_none, List.length_map, List.length_cons, List.length_nil, List.map_cons, List.map_nil, List.cons_append, List.nil_append, List.append_nil, List.replicate_succ, List.replicate_zero, Nat.reduceAdd, Nat.reduceSub, Nat.reduceLeDiff, Nat.reduceLT, if_true, if_false, ite_true, ite_false, Bool.or_true, Bool.or_false, Bool.true_or, Bool.false_or, Bool.and_true, Bool.true_and, Bool.and_false, Bool.false_and, Bool.not_true, Bool.not_false, List.all_cons, List.all_nil, Bool.false_eq_true, reduceIte, hh]
    rfl)) ?_
  simp only [bindTo, sc_ints, lost, lostT, thaw, lkT, lk, lks, newL, sc_non, sc_bl, sc_int, sc_str, sc_tup, sc_lst, sc_scr, sc_mref, flat_lst, flat_int, flat_tup, flat_bl, flat_non, flat_mref, flat_scr, isL_lst, isL_tup, isL_int, isL_bl, isL_non, isL_scr, isL_mref, isL_str, List.set_cons_succ, List.set_cons_zero, List.getElem?_cons_succ, List.getElem?_cons_zero, List.getElem?_nil, Option.bind_some, Option.map_some, Option.map_none, List.length_map, List.length_cons, List.length_nil, List.map_cons, List.map_nil, List.cons_append, List.nil_append, List.append_nil, List.replicate_succ, List.replicate_zero, Nat.reduceAdd, Nat.reduceSub, Nat.reduceLeDiff, Nat.reduceLT, if_true, if_false, ite_true, ite_false, Bool.or_true, Bool.or_false, Bool.true_or, Bool.false_or, Bool.and_true, Bool.true_and, Bool.and_false, Bool.false_and, Bool.not_true, Bool.not_false, List.all_cons, List.all_nil, Bool.false_eq_true, reduceIte]
  refine .of (setR (d := .tup (iD r)) (μ1 := tw L1) (by
    simp only [runFn, startE, evSs, evEs, v_non, v_bl, v_int, v_str, v_var, v_glob, v_bin, v_neg, v_not, v_cmp, v_chain, v_isC, v_andL, v_orL, v_ite, v_tup, v_lst, v_idx, v_slice, v_rev, v_call, v_callD, v_callK, v_b1, v_mm, v_isi, v_lrange, v_dget, v_didx, w_assign, w_par, w_unpack, w_append, w_expr, w_ite, w_ret, w_cont, w_raise, w_aug, w_augIdx, evAnd, evOr, evO, evC, evT, look, put, puts, tgPut, wipeE, thaw, lk, lks, lkT, lost, lostT, newL, bindTo, ownL, sc_non, sc_bl, sc_int, sc_str, sc_tup, sc_lst, sc_scr, sc_mref, flat_lst, flat_int, flat_tup, flat_bl, flat_non, flat_mref, flat_scr, isL_lst, isL_tup, isL_int, isL_bl, isL_non, isL_scr, isL_mref, isL_str, opt_some, no_bind, tyD, truth, x_lt, x_le, x_gt, x_ge, x_eqI, x_neI, x_eqL, x_neL, x_eqT, x_neT, x_eqS, binD, negD, isD, idxD, q1_lenL, q1_lenT, q1_lenS, q1_sumL, q1_sumT, q1_abs, q1_listL, q1_listT, q1_tupleL, q1_tupleT, q1_intI, q1_intB, q1_all, q1_min, q1_max, items, fin, pure_bind, bind_assoc, optI, sliceD, List.set_cons_succ, List.set_cons_zero, List.getElem?_cons_succ, List.getElem?_cons_zero, List.getElem?_nil, Option.bind_some, Option.map_some, Option.map_none, List.length_map, List.length_cons, List.length_nil, List.map_cons, List.map_nil, List.cons_append, List.nil_append, List.append_nil, List.replicate_succ, List.replicate_zero, Nat.reduceAdd, Nat.reduceSub, Nat.reduceLeDiff, Nat.reduceLT, if_true, if_false, ite_true, ite_false, Bool.or_true, Bool.or_false, Bool.true_or, Bool.false_or, Bool.and_true, Bool.true_and, Bool.and_false, Bool.false_and, Bool.not_true, Bool.not_false, List.all_cons, List.all_nil, Bool.false_eq_true, reduceIte]
    rw [run_bind (e_draw hS (by decide) (by decide)), hdg]
    exact hr)) ?_
  simp only [bindTo, sc_ints, lost, lostT, thaw, lkT, lk, lks, newL, sc_non, sc_bl, sc_int, sc_str, sc_tup, sc_lst, sc_scr, sc_mref, flat_lst, flat_int, flat_tup, flat_bl, flat_non, flat_mref, flat_scr, isL_lst, isL_tup, isL_int, isL_bl, isL_non, isL_scr, isL_mref, isL_str, List.set_cons_succ, List.set_cons_zero, List.getElem?_cons_succ, List.getElem?_cons_zero, List.getElem?_nil, Option.bind_some, Option.map_some, Option.map_none, List.length_map, List.length_cons, List.length_nil, List.map_cons, List.map_nil, List.cons_append, List.nil_append, List.append_nil, List.replicate_succ, List.replicate_zero, Nat.reduceAdd, Nat.reduceSub, Nat.reduceLeDiff, Nat.reduceLT, if_true, if_false, ite_true, ite_false, Bool.or_true, Bool.or_false, Bool.true_or, Bool.false_or, Bool.and_true, Bool.true_and, Bool.and_false, Bool.false_and, Bool.not_true, Bool.not_false, List.all_cons, List.all_nil, Bool.false_eq_true, reduceIte]
  refine .of (seqR (ρ1 := [some (false, .scr), some (false, .mref 0), some (false, .int h), some (false, .tup (iD r)), some (false, .int a), some (false, .int b), none, none, none, none, none, none, none, none]) (μ1 := tw L) (by
    simp only [runFn, startE, evSs, evEs, v_non, v_bl, v_int, v_str, v_var, v_glob, v_bin, v_neg, v_not, v_cmp, v_chain, v_isC, v_andL, v_orL, v_ite, v_tup, v_lst, v_idx, v_slice, v_rev, v_call, v_callD, v_callK, v_b1, v_mm, v_isi, v_lrange, v_dget, v_didx, w_assign, w_par, w_unpack, w_append, w_expr, w_ite, w_ret, w_cont, w_raise, w_aug, w_augIdx, evAnd, evOr, evO, evC, evT, look, put, puts, tgPut, wipeE, thaw, lk, lks, lkT, lost, lostT, newL, bindTo, ownL, sc_non, sc_bl, sc_int, sc_str, sc_tup, sc_lst, sc_scr, sc_mref, flat_lst, flat_int, flat_tup, flat_bl, flat_non, flat_mref, flat_scr, isL_lst, isL_tup, isL_int, isL_bl, isL_non, isL_scr, isL_mref, isL_str, opt_some, no_bind, tyD, truth, x_lt, x_le, x_gt, x_ge, x_eqI, x_neI, x_eqL, x_neL, x_eqT, x_neT, x_eqS, binD, negD, isD, idxD, q1_lenL, q1_lenT, q1_lenS, q1_sumL, q1_sumT, q1_abs, q1_listL, q1_listT, q1_tupleL, q1_tupleT, q1_intI, q1_intB, q1_all, q1_min, q1_max, items, fin, pure_bind, bind_assoc, optI, sliceD, List.set_cons_succ, List.set_cons_zero, List.getElem?_cons_succ, List.getElem?_cons_zero, List.getElem?_nil, Option.bind_some, Option.map_some, Option.map_none, List.length_map, List.length_cons, List.length_nil, List.map_cons, List.map_nil, List.cons_append, List.nil_append, List.append_nil, List.replicate_succ, List.replicate_zero, Nat.reduceAdd, Nat.reduceSub, Nat.reduceLeDiff, Nat.reduceLT, if_true, if_false, ite_true, ite_false, Bool.or_true, Bool.or_false, Bool.true_or, Bool.false_or, Bool.and_true, Bool.true_and, Bool.and_false, Bool.false_and, Bool.not_true, Bool.not_false, List.all_cons, List.all_nil, Bool.false_eq_true, reduceIte]
    rw [run_bind he]
    simp only [runFn, startE, evSs, evEs, v_non, v_bl, v_int, v_str, v_var, v_glob, v_bin, v_neg, v_not, v_cmp, v_chain, v_isC, v_andL, v_orL, v_ite, v_tup, v_lst, v_idx, v_slice, v_rev, v_call, v_callD, v_callK, v_b1, v_mm, v_isi, v_lrange, v_dget, v_didx, w_assign, w_par, w_unpack, w_append, w_expr, w_ite, w_ret, w_cont, w_raise, w_aug, w_augIdx, evAnd, evOr, evO, evC, evT, look, put, puts, tgPut, wipeE, thaw, lk, lks, lkT, lost, lostT, newL, bindTo, ownL, sc_non, sc_bl, sc_int, sc_str, sc_tup, sc_lst, sc_scr, sc_mref, flat_lst, flat_int, flat_tup, flat_bl, flat_non, flat_mref, flat_scr, isL_lst, isL_tup, isL_int, isL_bl, isL_non, isL_scr, isL_mref, isL_str, opt_some, no_bind, tyD, truth, x_lt, x_le, x_gt, x_ge, x_eqI, x_neI, x_eqL, x_neL, x_eqT, x_neT, x_eqS, binD, negD, isD, idxD, q1_lenL, q1_lenT, q1_lenS, q1_sumL, q1_sumT, q1_abs, q1_listL, q1_listT, q1_tupleL, q1_tupleT, q1_intI, q1_intB, q1_all, q1_min, q1_max, items, fin, pure_bind, bind_assoc, optI, sliceD, List.set_cons_succ, List.set_cons_zero, List.getElem?_cons_succ, List.getElem?_cons_zero, List.getElem?_nil, Option.bind_some, Option.map_some, Option.map_none, List.length_map, List.length_cons, List.length_nil, List.map_cons, List.map_nil, List.cons_append, List.nil_append, List.append_nil, List.replicate_succ, List.replicate_zero, Nat.reduceAdd, Nat.reduceSub, Nat.reduceLeDiff, Nat.reduceLT, if_true, if_false, ite_true, ite_false, Bool.or_true, Bool.or_false, Bool.true_or, Bool.false_or, Bool.and_true, Bool.true_and, Bool.and_false, Bool.false_and, Bool.not_true, Bool.not_false, List.all_cons, List.all_nil, Bool.false_eq_true, reduceIte, cut_two]
    rfl)) ?_
  -- the sums
  refine RetT.for_ (fun _ ρ μ => μ = tw L ∧ ∃ u6 u7, ρ = [some (false, .scr), some (false, .mref 0), some (false, .int h), some (false, .tup (iD r)), some (false, .int a), some (false, .int b), u6, u7, none, none, none, none, none, none]) (e_rng (h := 10) (by simp only [runFn, startE, evSs, evEs, v_non, v_bl, v_int, v_str, v_var, v_glob, v_bin, v_neg, v_not, v_cmp, v_chain, v_isC, v_andL, v_orL, v_ite, v_tup, v_lst, v_idx, v_slice, v_rev, v_call, v_callD, v_callK, v_b1, v_mm, v_isi, v_lrange, v_dget, v_didx, w_assign, w_par, w_unpack, w_append, w_expr, w_ite, w_ret, w_cont, w_raise, w_aug, w_augIdx, evAnd, evOr, evO, evC, evT, look, put, puts, tgPut, wipeE, thaw, lk, lks, lkT, lost, lostT, newL, bindTo, ownL, sc_non, sc_bl, sc_int, sc_str, sc_tup, sc_lst, sc_scr, sc_mref, flat_lst, flat_int, flat_tup, flat_bl, flat_non, flat_mref, flat_scr, isL_lst, isL_tup, isL_int, isL_bl, isL_non, isL_scr, isL_mref, isL_str, opt_some, no_bind, tyD, truth, x_lt, x_le, x_gt, x_ge, x_eqI, x_neI, x_eqL, x_neL, x_eqT, x_neT, x_eqS, binD, negD, isD, idxD, q1_lenL, q1_lenT, q1_lenS, q1_sumL, q1_sumT, q1_abs, q1_listL, q1_listT, q1_tupleL, q1_tupleT, q1_intI, q1_intB, q1_all, q1_min, q1_max, items, fin, pure_bind, bind_assoc, optI, sliceD, List.set_cons_succ, List.set_cons_zero, List.getElem?_cons_succ, List.getElem?_cons_zero, List.getElem?_nil, Option.bind_some, Option.map_some, Option.map_none, List.length_map, List.length_cons, List.length_nil, List.map_cons, List.map_nil, List.cons_append, List.nil_append, List.append_nil, List.replicate_succ, List.replicate_zero, Nat.reduceAdd, Nat.reduceSub, Nat.reduceLeDiff, Nat.reduceLT, if_true, if_false, ite_true, ite_false, Bool.or_true, Bool.or_false, Bool.true_or, Bool.false_or, Bool.and_true, Bool.true_and, Bool.and_false, Bool.false_and, Bool.not_true, Bool.not_false, List.all_cons, List.all_nil, Bool.false_eq_true, reduceIte]) (by decide) (by decide)) ⟨rfl, none, none, rfl⟩ (fun t d ρ μ hd hj => ?_) fun ρ' μ' hj => ?_
  · obtain ⟨rfl, u6, u7, rfl⟩ := hj
    obtain ⟨rfl, ht⟩ := rng_get hd
    refine ⟨_, rfl, ?_⟩
    simp only [put, bindTo, sc_ints, lost, lostT, thaw, lkT, lk, lks, newL, sc_non, sc_bl, sc_int, sc_str, sc_tup, sc_lst, sc_scr, sc_mref, flat_lst, flat_int, flat_tup, flat_bl, flat_non, flat_mref, flat_scr, isL_lst, isL_tup, isL_int, isL_bl, isL_non, isL_scr, isL_mref, isL_str, List.set_cons_succ, List.set_cons_zero, List.getElem?_cons_succ, List.getElem?_cons_zero, List.getElem?_nil, Option.bind_some, Option.map_some, Option.map_none, List.length_map, List.length_cons, List.length_nil, List.map_cons, List.map_nil, List.cons_append, List.nil_append, List.append_nil, List.replicate_succ, List.replicate_zero, Nat.reduceAdd, Nat.reduceSub, Nat.reduceLeDiff, Nat.reduceLT, if_true, if_false, ite_true, ite_false, Bool.or_true, Bool.or_false, Bool.true_or, Bool.false_or, Bool.and_true, Bool.true_and, Bool.and_false, Bool.false_and, Bool.not_true, Bool.not_false, List.all_cons, List.all_nil, Bool.false_eq_true, reduceIte]
    refine .of (setR (d := .lst (iD (sumN t (r.map (sgn a b))))) (μ1 := tw L) (by
      simp only [runFn, startE, evSs, evEs, v_non, v_bl, v_int, v_str, v_var, v_glob, v_bin, v_neg, v_not, v_cmp, v_chain, v_isC, v_andL, v_orL, v_ite, v_tup, v_lst, v_idx, v_slice, v_rev, v_call, v_callD, v_callK, v_b1, v_mm, v_isi, v_lrange, v_dget, v_didx, w_assign, w_par, w_unpack, w_append, w_expr, w_ite, w_ret, w_cont, w_raise, w_aug, w_augIdx, evAnd, evOr, evO, evC, evT, look, put, puts, tgPut, wipeE, thaw, lk, lks, lkT, lost, lostT, newL, bindTo, ownL, sc_non, sc_bl, sc_int, sc_str, sc_tup, sc_lst, sc_scr, sc_mref, flat_lst, flat_int, flat_tup, flat_bl, flat_non, flat_mref, flat_scr, isL_lst, isL_tup, isL_int, isL_bl, isL_non, isL_scr, isL_mref, isL_str, opt_some, no_bind, tyD, truth, x_lt, x_le, x_gt, x_ge, x_eqI, x_neI, x_eqL, x_neL, x_eqT, x_neT, x_eqS, binD, negD, isD, idxD, q1_lenL, q1_lenT, q1_lenS, q1_sumL, q1_sumT, q1_abs, q1_listL, q1_listT, q1_tupleL, q1_tupleT, q1_intI, q1_intB, q1_all, q1_min, q1_max, items, fin, pure_bind, bind_assoc, optI, sliceD, List.set_cons_succ, List.set_cons_zero, List.getElem?_cons_succ, List.getElem?_cons_zero, List.getElem?_nil, Option.bind_some, Option.map_some, Option.map_none, List.length_map, List.length_cons, List.length_nil, List.map_cons, List.map_nil, List.cons_append, List.nil_append, List.append_nil, List.replicate_succ, List.replicate_zero, Nat.reduceAdd, Nat.reduceSub, Nat.reduceLeDiff, Nat.reduceLT, if_true, if_false, ite_true, ite_false, Bool.or_true, Bool.or_false, Bool.true_or, Bool.false_or, Bool.and_true, Bool.true_and, Bool.and_false, Bool.false_and, Bool.not_true, Bool.not_false, List.all_cons, List.all_nil, Bool.false_eq_true, reduceIte, e_signs_so ab rl]
      rw [e_sums_so (by rw [List.length_map]; exact rl) (by omega) (by omega), Int.toNat_natCast]
      rfl)) ?_
    simp only [bindTo, sc_ints, lost, lostT, thaw, lkT, lk, lks, newL, sc_non, sc_bl, sc_int, sc_str, sc_tup, sc_lst, sc_scr, sc_mref, flat_lst, flat_int, flat_tup, flat_bl, flat_non, flat_mref, flat_scr, isL_lst, isL_tup, isL_int, isL_bl, isL_non, isL_scr, isL_mref, isL_str, List.set_cons_succ, List.set_cons_zero, List.getElem?_cons_succ, List.getElem?_cons_zero, List.getElem?_nil, Option.bind_some, Option.map_some, Option.map_none, List.length_map, List.length_cons, List.length_nil, List.map_cons, List.map_nil, List.cons_append, List.nil_append, List.append_nil, List.replicate_succ, List.replicate_zero, Nat.reduceAdd, Nat.reduceSub, Nat.reduceLeDiff, Nat.reduceLT, if_true, if_false, ite_true, ite_false, Bool.or_true, Bool.or_false, Bool.true_or, Bool.false_or, Bool.and_true, Bool.true_and, Bool.and_false, Bool.false_and, Bool.not_true, Bool.not_false, List.all_cons, List.all_nil, Bool.false_eq_true, reduceIte]
    refine .of (ifN (μ1 := tw L) (by
      simp only [runFn, startE, evSs, evEs, v_non, v_bl, v_int, v_str, v_var, v_glob, v_bin, v_neg, v_not, v_cmp, v_chain, v_isC, v_andL, v_orL, v_ite, v_tup, v_lst, v_idx, v_slice, v_rev, v_call, v_callD, v_callK, v_b1, v_mm, v_isi, v_lrange, v_dget, v_didx, w_assign, w_par, w_unpack, w_append, w_expr, w_ite, w_ret, w_cont, w_raise, w_aug, w_augIdx, evAnd, evOr, evO, evC, evT, look, put, puts, tgPut, wipeE, thaw, lk, lks, lkT, lost, lostT, newL, bindTo, ownL, sc_non, sc_bl, sc_int, sc_str, sc_tup, sc_lst, sc_scr, sc_mref, flat_lst, flat_int, flat_tup, flat_bl, flat_non, flat_mref, flat_scr, isL_lst, isL_tup, isL_int, isL_bl, isL_non, isL_scr, isL_mref, isL_str, opt_some, no_bind, tyD, truth, x_lt, x_le, x_gt, x_ge, x_eqI, x_neI, x_eqL, x_neL, x_eqT, x_neT, x_eqS, binD, negD, isD, idxD, q1_lenL, q1_lenT, q1_lenS, q1_sumL, q1_sumT, q1_abs, q1_listL, q1_listT, q1_tupleL, q1_tupleT, q1_intI, q1_intB, q1_all, q1_min, q1_max, items, fin, pure_bind, bind_assoc, optI, sliceD, List.set_cons_succ, List.set_cons_zero, List.getElem?_cons_succ, List.getElem?_cons_zero, List.getElem?_nil, Option.bind_some, Option.map_some, Option.map_none, List.length_map, List.length_cons, List.length_nil, List.map_cons, List.map_nil, List.cons_append, List.nil_append, List.append_nil, List.replicate_succ, List.replicate_zero, Nat.reduceAdd, Nat.reduceSub, Nat.reduceLeDiff, Nat.reduceLT, if_true, if_false, ite_true, ite_false, Bool.or_true, Bool.or_false, Bool.true_or, Bool.false_or, Bool.and_true, Bool.true_and, Bool.and_false, Bool.false_and, Bool.not_true, Bool.not_false, List.all_cons, List.all_nil, Bool.false_eq_true, reduceIte]
      rw [e_sums h1 h2 g0 a1 a2 b1 b2 ab (by omega) (by omega), Int.toNat_natCast]
      by_cases t1 : t = 1
      · subst t1
        simp only [runFn, startE, evSs, evEs, v_non, v_bl, v_int, v_str, v_var, v_glob, v_bin, v_neg, v_not, v_cmp, v_chain, v_isC, v_andL, v_orL, v_ite, v_tup, v_lst, v_idx, v_slice, v_rev, v_call, v_callD, v_callK, v_b1, v_mm, v_isi, v_lrange, v_dget, v_didx, w_assign, w_par, w_unpack, w_append, w_expr, w_ite, w_ret, w_cont, w_raise, w_aug, w_augIdx, evAnd, evOr, evO, evC, evT, look, put, puts, tgPut, wipeE, thaw, lk, lks, lkT, lost, lostT, newL, bindTo, ownL, sc_non, sc_bl, sc_int, sc_str, sc_tup, sc_lst, sc_scr, sc_mref, flat_lst, flat_int, flat_tup, flat_bl, flat_non, flat_mref, flat_scr, isL_lst, isL_tup, isL_int, isL_bl, isL_non, isL_scr, isL_mref, isL_str, opt_some, no_bind, tyD, truth, x_lt, x_le, x_gt, x_ge, x_eqI, x_neI, x_eqL, x_neL, x_eqT, x_neT, x_eqS, binD, negD, isD, idxD, q1_lenL, q1_lenT, q1_lenS, q1_sumL, q1_sumT, q1_abs, q1_listL, q1_listT, q1_tupleL, q1_tupleT, q1_intI, q1_intB, q1_all, q1_min, q1_max, items, fin, pure_bind, bind_assoc, optI, sliceD, List.set_cons_succ, List.set_cons_zero, List.getElem?_cons_succ, List.getElem?_cons_zero, List.getElem?_nil, Option.bind_some, Option.map_some, Option.map_none, List.length_map, List.length_cons, List.length_nil, List.map_cons, List.map_nil, List.cons_append, List.nil_append, List.append_nil, List.replicate_succ, List.replicate_zero, Nat.reduceAdd, Nat.reduceSub, Nat.reduceLeDiff, Nat.reduceLT, if_true, if_false, ite_true, ite_false, Bool.or_true, Bool.or_false, Bool.true_or, Bool.false_or, Bool.and_true, Bool.true_and, Bool.and_false, Bool.false_and, Bool.not_true, Bool.not_false, List.all_cons, List.all_nil, Bool.false_eq_true, reduceIte, decide_true]
        rw [e_sums h1 h2 g0 a1 a2 b1 b2 ab (by decide) (by decide)]
        simp only [runFn, startE, evSs, evEs, v_non, v_bl, v_int, v_str, v_var, v_glob, v_bin, v_neg, v_not, v_cmp, v_chain, v_isC, v_andL, v_orL, v_ite, v_tup, v_lst, v_idx, v_slice, v_rev, v_call, v_callD, v_callK, v_b1, v_mm, v_isi, v_lrange, v_dget, v_didx, w_assign, w_par, w_unpack, w_append, w_expr, w_ite, w_ret, w_cont, w_raise, w_aug, w_augIdx, evAnd, evOr, evO, evC, evT, look, put, puts, tgPut, wipeE, thaw, lk, lks, lkT, lost, lostT, newL, bindTo, ownL, sc_non, sc_bl, sc_int, sc_str, sc_tup, sc_lst, sc_scr, sc_mref, flat_lst, flat_int, flat_tup, flat_bl, flat_non, flat_mref, flat_scr, isL_lst, isL_tup, isL_int, isL_bl, isL_non, isL_scr, isL_mref, isL_str, opt_some, no_bind, tyD, truth, x_lt, x_le, x_gt, x_ge, x_eqI, x_neI, x_eqL, x_neL, x_eqT, x_neT, x_eqS, binD, negD, isD, idxD, q1_lenL, q1_lenT, q1_lenS, q1_sumL, q1_sumT, q1_abs, q1_listL, q1_listT, q1_tupleL, q1_tupleT, q1_intI, q1_intB, q1_all, q1_min, q1_max, items, fin, pure_bind, bind_assoc, optI, sliceD, List.set_cons_succ, List.set_cons_zero, List.getElem?_cons_succ, List.getElem?_cons_zero, List.getElem?_nil, Option.bind_some, Option.map_some, Option.map_none, List.length_map, List.length_cons, List.length_nil, List.map_cons, List.map_nil, List.cons_append, List.nil_append, List.append_nil, List.replicate_succ, List.replicate_zero, Nat.reduceAdd, Nat.reduceSub, Nat.reduceLeDiff, Nat.reduceLT, if_true, if_false, ite_true, ite_false, Bool.or_true, Bool.or_false, Bool.true_or, Bool.false_or, Bool.and_true, Bool.true_and, Bool.and_false, Bool.false_and, Bool.not_true, Bool.not_false, List.all_cons, List.all_nil, Bool.false_eq_true, reduceIte]
        rw [show decide (((1 : Nat) : Int) = 1) = true from rfl, if_pos rfl, decide_eq_true (show sumN (Int.toNat 1) (r.map (sgn a b)) = sumN 1 (r.map (sgn a b)) from rfl)]
        rfl
      · simp only [runFn, startE, evSs, evEs, v_non, v_bl, v_int, v_str, v_var, v_glob, v_bin, v_neg, v_not, v_cmp, v_chain, v_isC, v_andL, v_orL, v_ite, v_tup, v_lst, v_idx, v_slice, v_rev, v_call, v_callD, v_callK, v_b1, v_mm, v_isi, v_lrange, v_dget, v_didx, w_assign, w_par, w_unpack, w_append, w_expr, w_ite, w_ret, w_cont, w_raise, w_aug, w_augIdx, evAnd, evOr, evO, evC, evT, look, put, puts, tgPut, wipeE, thaw, lk, lks, lkT, lost, lostT, newL, bindTo, ownL, sc_non, sc_bl, sc_int, sc_str, sc_tup, sc_lst, sc_scr, sc_mref, flat_lst, flat_int, flat_tup, flat_bl, flat_non, flat_mref, flat_scr, isL_lst, isL_tup, isL_int, isL_bl, isL_non, isL_scr, isL_mref, isL_str, opt_some, no_bind, tyD, truth, x_lt, x_le, x_gt, x_ge, x_eqI, x_neI, x_eqL, x_neL, x_eqT, x_neT, x_eqS, binD, negD, isD, idxD, q1_lenL, q1_lenT, q1_lenS, q1_sumL, q1_sumT, q1_abs, q1_listL, q1_listT, q1_tupleL, q1_tupleT, q1_intI, q1_intB, q1_all, q1_min, q1_max, items, fin, pure_bind, bind_assoc, optI, sliceD, List.set_cons_succ, List.set_cons_zero, List.getElem?_cons_succ, List.getElem?_cons_zero, List.getElem?_nil, Option.bind_some, Option.map_some, Option.map_none, List.length_map, List.length_cons, List.length_nil, List.map_cons, List.map_nil, List.cons_append, List.nil_append, List.append_nil, List.replicate_succ, List.replicate_zero, Nat.reduceAdd, Nat.reduceSub, Nat.reduceLeDiff, Nat.reduceLT, if_true, if_false, ite_true, ite_false, Bool.or_true, Bool.or_false, Bool.true_or, Bool.false_or, Bool.and_true, Bool.true_and, Bool.and_false, Bool.false_and, Bool.not_true, Bool.not_false, List.all_cons, List.all_nil, Bool.false_eq_true, reduceIte, decide_true, decide_eq_false (show ¬ (t : Int) = 1 by omega)]
        rfl)) ?_
    exact .nil ⟨rfl, _, _, rfl⟩
  obtain ⟨rfl, u6, u7, rfl⟩ := hj
  -- the degrees
  refine RetT.for_ (fun _ ρ μ => μ = tw L ∧ ∃ u6 u7 u8 u9 u10 u11 u12, ρ = [some (false, .scr), some (false, .mref 0), some (false, .int h), some (false, .tup (iD r)), some (false, .int a), some (false, .int b), u6, u7, u8, u9, u10, u11, u12, none]) (e_rng (h := 6) (by simp only [runFn, startE, evSs, evEs, v_non, v_bl, v_int, v_str, v_var, v_glob, v_bin, v_neg, v_not, v_cmp, v_chain, v_isC, v_andL, v_orL, v_ite, v_tup, v_lst, v_idx, v_slice, v_rev, v_call, v_callD, v_callK, v_b1, v_mm, v_isi, v_lrange, v_dget, v_didx, w_assign, w_par, w_unpack, w_append, w_expr, w_ite, w_ret, w_cont, w_raise, w_aug, w_augIdx, evAnd, evOr, evO, evC, evT, look, put, puts, tgPut, wipeE, thaw, lk, lks, lkT, lost, lostT, newL, bindTo, ownL, sc_non, sc_bl, sc_int, sc_str, sc_tup, sc_lst, sc_scr, sc_mref, flat_lst, flat_int, flat_tup, flat_bl, flat_non, flat_mref, flat_scr, isL_lst, isL_tup, isL_int, isL_bl, isL_non, isL_scr, isL_mref, isL_str, opt_some, no_bind, tyD, truth, x_lt, x_le, x_gt, x_ge, x_eqI, x_neI, x_eqL, x_neL, x_eqT, x_neT, x_eqS, binD, negD, isD, idxD, q1_lenL, q1_lenT, q1_lenS, q1_sumL, q1_sumT, q1_abs, q1_listL, q1_listT, q1_tupleL, q1_tupleT, q1_intI, q1_intB, q1_all, q1_min, q1_max, items, fin, pure_bind, bind_assoc, optI, sliceD, List.set_cons_succ, List.set_cons_zero, List.getElem?_cons_succ, List.getElem?_cons_zero, List.getElem?_nil, Option.bind_some, Option.map_some, Option.map_none, List.length_map, List.length_cons, List.length_nil, List.map_cons, List.map_nil, List.cons_append, List.nil_append, List.append_nil, List.replicate_succ, List.replicate_zero, Nat.reduceAdd, Nat.reduceSub, Nat.reduceLeDiff, Nat.reduceLT, if_true, if_false, ite_true, ite_false, Bool.or_true, Bool.or_false, Bool.true_or, Bool.false_or, Bool.and_true, Bool.true_and, Bool.and_false, Bool.false_and, Bool.not_true, Bool.not_false, List.all_cons, List.all_nil, Bool.false_eq_true, reduceIte]) (by decide) (by decide)) ⟨rfl, u6, u7, none, none, none, none, none, rfl⟩ (fun g d ρ μ hd hj => ?_) fun ρ' μ' hj => ?_
  · obtain ⟨rfl, u6, u7, u8, u9, u10, u11, u12, rfl⟩ := hj
    obtain ⟨rfl, hg⟩ := rng_get hd
    refine ⟨_, rfl, ?_⟩
    simp only [put, bindTo, sc_ints, lost, lostT, thaw, lkT, lk, lks, newL, sc_non, sc_bl, sc_int, sc_str, sc_tup, sc_lst, sc_scr, sc_mref, flat_lst, flat_int, flat_tup, flat_bl, flat_non, flat_mref, flat_scr, isL_lst, isL_tup, isL_int, isL_bl, isL_non, isL_scr, isL_mref, isL_str, List.set_cons_succ, List.set_cons_zero, List.getElem?_cons_succ, List.getElem?_cons_zero, List.getElem?_nil, Option.bind_some, Option.map_some, Option.map_none, List.length_map, List.length_cons, List.length_nil, List.map_cons, List.map_nil, List.cons_append, List.nil_append, List.append_nil, List.replicate_succ, List.replicate_zero, Nat.reduceAdd, Nat.reduceSub, Nat.reduceLeDiff, Nat.reduceLT, if_true, if_false, ite_true, ite_false, Bool.or_true, Bool.or_false, Bool.true_or, Bool.false_or, Bool.and_true, Bool.true_and, Bool.and_false, Bool.false_and, Bool.not_true, Bool.not_false, List.all_cons, List.all_nil, Bool.false_eq_true, reduceIte]
    refine .of (setR (d := .lst []) (μ1 := tw L) (by simp only [runFn, startE, evSs, evEs, v_non, v_bl, v_int, v_str, v_var, v_glob, v_bin, v_neg, v_not, v_cmp, v_chain, v_isC, v_andL, v_orL, v_ite, v_tup, v_lst, v_idx, v_slice, v_rev, v_call, v_callD, v_callK, v_b1, v_mm, v_isi, v_lrange, v_dget, v_didx, w_assign, w_par, w_unpack, w_append, w_expr, w_ite, w_ret, w_cont, w_raise, w_aug, w_augIdx, evAnd, evOr, evO, evC, evT, look, put, puts, tgPut, wipeE, thaw, lk, lks, lkT, lost, lostT, newL, bindTo, ownL, sc_non, sc_bl, sc_int, sc_str, sc_tup, sc_lst, sc_scr, sc_mref, flat_lst, flat_int, flat_tup, flat_bl, flat_non, flat_mref, flat_scr, isL_lst, isL_tup, isL_int, isL_bl, isL_non, isL_scr, isL_mref, isL_str, opt_some, no_bind, tyD, truth, x_lt, x_le, x_gt, x_ge, x_eqI, x_neI, x_eqL, x_neL, x_eqT, x_neT, x_eqS, binD, negD, isD, idxD, q1_lenL, q1_lenT, q1_lenS, q1_sumL, q1_sumT, q1_abs, q1_listL, q1_listT, q1_tupleL, q1_tupleT, q1_intI, q1_intB, q1_all, q1_min, q1_max, items, fin, pure_bind, bind_assoc, optI, sliceD, List.set_cons_succ, List.set_cons_zero, List.getElem?_cons_succ, List.getElem?_cons_zero, List.getElem?_nil, Option.bind_some, Option.map_some, Option.map_none, List.length_map, List.length_cons, List.length_nil, List.map_cons, List.map_nil, List.cons_append, List.nil_append, List.append_nil, List.replicate_succ, List.replicate_zero, Nat.reduceAdd, Nat.reduceSub, Nat.reduceLeDiff, Nat.reduceLT, if_true, if_false, ite_true, ite_false, Bool.or_true, Bool.or_false, Bool.true_or, Bool.false_or, Bool.and_true, Bool.true_and, Bool.and_false, Bool.false_and, Bool.not_true, Bool.not_false, List.all_cons, List.all_nil, Bool.false_eq_true, reduceIte, Nat.zero_le]; rfl)) ?_
    simp only [bindTo, sc_ints, lost, lostT, thaw, lkT, lk, lks, newL, sc_non, sc_bl, sc_int, sc_str, sc_tup, sc_lst, sc_scr, sc_mref, flat_lst, flat_int, flat_tup, flat_bl, flat_non, flat_mref, flat_scr, isL_lst, isL_tup, isL_int, isL_bl, isL_non, isL_scr, isL_mref, isL_str, List.set_cons_succ, List.set_cons_zero, List.getElem?_cons_succ, List.getElem?_cons_zero, List.getElem?_nil, Option.bind_some, Option.map_some, Option.map_none, List.length_map, List.length_cons, List.length_nil, List.map_cons, List.map_nil, List.cons_append, List.nil_append, List.append_nil, List.replicate_succ, List.replicate_zero, Nat.reduceAdd, Nat.reduceSub, Nat.reduceLeDiff, Nat.reduceLT, if_true, if_false, ite_true, ite_false, Bool.or_true, Bool.or_false, Bool.true_or, Bool.false_or, Bool.and_true, Bool.true_and, Bool.and_false, Bool.false_and, Bool.not_true, Bool.not_false, List.all_cons, List.all_nil, Bool.false_eq_true, reduceIte]
    refine Nx.for_ (fun i ρ μ => μ = tw L ∧ ∃ u6 u7 u10 u11 u12, ρ = [some (false, .scr), some (false, .mref 0), some (false, .int h), some (false, .tup (iD r)), some (false, .int a), some (false, .int b), u6, u7, some (false, .int g), some (true, .lst (iD (((pairs h).take i).flatMap fun p => (List.range (g + 1)).map fun k => endN (k + 1) (r.map (sgn p.1 p.2))))), u10, u11, u12, none]) (ds := (pairs h).map prD) (μ1 := tw L) (by simp only [runFn, startE, evSs, evEs, v_non, v_bl, v_int, v_str, v_var, v_glob, v_bin, v_neg, v_not, v_cmp, v_chain, v_isC, v_andL, v_orL, v_ite, v_tup, v_lst, v_idx, v_slice, v_rev, v_call, v_callD, v_callK, v_b1, v_mm, v_isi, v_lrange, v_dget, v_didx, w_assign, w_par, w_unpack, w_append, w_expr, w_ite, w_ret, w_cont, w_raise, w_aug, w_augIdx, evAnd, evOr, evO, evC, evT, look, put, puts, tgPut, wipeE, thaw, lk, lks, lkT, lost, lostT, newL, bindTo, ownL, sc_non, sc_bl, sc_int, sc_str, sc_tup, sc_lst, sc_scr, sc_mref, flat_lst, flat_int, flat_tup, flat_bl, flat_non, flat_mref, flat_scr, isL_lst, isL_tup, isL_int, isL_bl, isL_non, isL_scr, isL_mref, isL_str, opt_some, no_bind, tyD, truth, x_lt, x_le, x_gt, x_ge, x_eqI, x_neI, x_eqL, x_neL, x_eqT, x_neT, x_eqS, binD, negD, isD, idxD, q1_lenL, q1_lenT, q1_lenS, q1_sumL, q1_sumT, q1_abs, q1_listL, q1_listT, q1_tupleL, q1_tupleT, q1_intI, q1_intB, q1_all, q1_min, q1_max, items, fin, pure_bind, bind_assoc, optI, sliceD, List.set_cons_succ, List.set_cons_zero, List.getElem?_cons_succ, List.getElem?_cons_zero, List.getElem?_nil, Option.bind_some, Option.map_some, Option.map_none, List.length_map, List.length_cons, List.length_nil, List.map_cons, List.map_nil, List.cons_append, List.nil_append, List.append_nil, List.replicate_succ, List.replicate_zero, Nat.reduceAdd, Nat.reduceSub, Nat.reduceLeDiff, Nat.reduceLT, if_true, if_false, ite_true, ite_false, Bool.or_true, Bool.or_false, Bool.true_or, Bool.false_or, Bool.and_true, Bool.true_and, Bool.and_false, Bool.false_and, Bool.not_true, Bool.not_false, List.all_cons, List.all_nil, Bool.false_eq_true, reduceIte]; rw [e_law_pairs (by omega) h2]; rfl) ⟨rfl, u6, u7, u10, u11, u12, rfl⟩ (fun i d ρ μ hd hj => ?_) fun ρ' μ' hj => ?_
    · obtain ⟨rfl, u6, u7, u10, u11, u12, rfl⟩ := hj
      rw [List.getElem?_map] at hd
      obtain ⟨p, hp, rfl⟩ := Option.map_eq_some_iff.mp hd
      obtain ⟨p1, p2, p3⟩ := mem_pairs.mp (List.mem_of_getElem? hp)
      refine ⟨_, rfl, ?_⟩
      simp only [put, bindTo, sc_ints, lost, lostT, thaw, lkT, lk, lks, newL, sc_non, sc_bl, sc_int, sc_str, sc_tup, sc_lst, sc_scr, sc_mref, flat_lst, flat_int, flat_tup, flat_bl, flat_non, flat_mref, flat_scr, isL_lst, isL_tup, isL_int, isL_bl, isL_non, isL_scr, isL_mref, isL_str, List.set_cons_succ, List.set_cons_zero, List.getElem?_cons_succ, List.getElem?_cons_zero, List.getElem?_nil, Option.bind_some, Option.map_some, Option.map_none, List.length_map, List.length_cons, List.length_nil, List.map_cons, List.map_nil, List.cons_append, List.nil_append, List.append_nil, List.replicate_succ, List.replicate_zero, Nat.reduceAdd, Nat.reduceSub, Nat.reduceLeDiff, Nat.reduceLT, if_true, if_false, ite_true, ite_false, Bool.or_true, Bool.or_false, Bool.true_or, Bool.false_or, Bool.and_true, Bool.true_and, Bool.and_false, Bool.false_and, Bool.not_true, Bool.not_false, List.all_cons, List.all_nil, Bool.false_eq_true, reduceIte]
      refine .of (setR (d := .lst (iD (r.map (sgn p.1 p.2)))) (μ1 := tw L) (by
        simp only [runFn, startE, evSs, evEs, v_non, v_bl, v_int, v_str, v_var, v_glob, v_bin, v_neg, v_not, v_cmp, v_chain, v_isC, v_andL, v_orL, v_ite, v_tup, v_lst, v_idx, v_slice, v_rev, v_call, v_callD, v_callK, v_b1, v_mm, v_isi, v_lrange, v_dget, v_didx, w_assign, w_par, w_unpack, w_append, w_expr, w_ite, w_ret, w_cont, w_raise, w_aug, w_augIdx, evAnd, evOr, evO, evC, evT, look, put, puts, tgPut, wipeE, thaw, lk, lks, lkT, lost, lostT, newL, bindTo, ownL, sc_non, sc_bl, sc_int, sc_str, sc_tup, sc_lst, sc_scr, sc_mref, flat_lst, flat_int, flat_tup, flat_bl, flat_non, flat_mref, flat_scr, isL_lst, isL_tup, isL_int, isL_bl, isL_non, isL_scr, isL_mref, isL_str, opt_some, no_bind, tyD, truth, x_lt, x_le, x_gt, x_ge, x_eqI, x_neI, x_eqL, x_neL, x_eqT, x_neT, x_eqS, binD, negD, isD, idxD, q1_lenL, q1_lenT, q1_lenS, q1_sumL, q1_sumT, q1_abs, q1_listL, q1_listT, q1_tupleL, q1_tupleT, q1_intI, q1_intB, q1_all, q1_min, q1_max, items, fin, pure_bind, bind_assoc, optI, sliceD, List.set_cons_succ, List.set_cons_zero, List.getElem?_cons_succ, List.getElem?_cons_zero, List.getElem?_nil, Option.bind_some, Option.map_some, Option.map_none, List.length_map, List.length_cons, List.length_nil, List.map_cons, List.map_nil, List.cons_append, List.nil_append, List.append_nil, List.replicate_succ, List.replicate_zero, Nat.reduceAdd, Nat.reduceSub, Nat.reduceLeDiff, Nat.reduceLT, if_true, if_false, ite_true, ite_false, Bool.or_true, Bool.or_false, Bool.true_or, Bool.false_or, Bool.and_true, Bool.true_and, Bool.and_false, Bool.false_and, Bool.not_true, Bool.not_false, List.all_cons, List.all_nil, Bool.false_eq_true, reduceIte]
        rw [e_signs_so (by omega) rl]
        rfl)) ?_
      simp only [bindTo, sc_ints, lost, lostT, thaw, lkT, lk, lks, newL, sc_non, sc_bl, sc_int, sc_str, sc_tup, sc_lst, sc_scr, sc_mref, flat_lst, flat_int, flat_tup, flat_bl, flat_non, flat_mref, flat_scr, isL_lst, isL_tup, isL_int, isL_bl, isL_non, isL_scr, isL_mref, isL_str, List.set_cons_succ, List.set_cons_zero, List.getElem?_cons_succ, List.getElem?_cons_zero, List.getElem?_nil, Option.bind_some, Option.map_some, Option.map_none, List.length_map, List.length_cons, List.length_nil, List.map_cons, List.map_nil, List.cons_append, List.nil_append, List.append_nil, List.replicate_succ, List.replicate_zero, Nat.reduceAdd, Nat.reduceSub, Nat.reduceLeDiff, Nat.reduceLT, if_true, if_false, ite_true, ite_false, Bool.or_true, Bool.or_false, Bool.true_or, Bool.false_or, Bool.and_true, Bool.true_and, Bool.and_false, Bool.false_and, Bool.not_true, Bool.not_false, List.all_cons, List.all_nil, Bool.false_eq_true, reduceIte]
      have hil : i < (pairs h).length := (List.getElem?_eq_some_iff.mp hp).1
      have htk : (pairs h).take (i + 1) = (pairs h).take i ++ [p] := by
        rw [List.take_add_one, hp]
        rfl
      rw [htk, List.flatMap_append]
      have hml : (((pairs h).take i).flatMap fun p => (List.range (g + 1)).map fun k => endN (k + 1) (r.map (sgn p.1 p.2))).length ≤ 16 * 6 := by
        have hpl := pairs_len h2
        have : ∀ l : List (Int × Int), (l.flatMap fun p => (List.range (g + 1)).map fun k => endN (k + 1) (r.map (sgn p.1 p.2))).length = l.length * (g + 1) := by
          intro l
          induction l with
          | nil => simp
          | cons x l ih => rw [List.flatMap_cons, List.length_append, ih, List.length_map, List.length_range, List.length_cons, Nat.succ_mul]; omega
        rw [this]
        exact Nat.mul_le_mul (by rw [List.length_take]; omega) (by omega)
      generalize (((pairs h).take i).flatMap fun p => (List.range (g + 1)).map fun k => endN (k + 1) (r.map (sgn p.1 p.2))) = md at hml
      have sl : (r.map (sgn p.1 p.2)).length ≤ 1000 := by rw [List.length_map]; exact rl
      have s1 : 1 ≤ (r.map (sgn p.1 p.2)).length := by rw [List.length_map]; exact r1
      generalize hs : r.map (sgn p.1 p.2) = s at sl s1
      have hc := evComp (S := S) (c := callN tbl S 11) (vs := [6]) (tg := .one 6) (it := .rng2 (.int 1) (.bin .add (.var 8) (.int 2))) (elt := .idx (.call 43 (.cons (.var 12) (.cons (.var 6) .nil))) (.neg (.int 1))) (ρ := [some (false, .scr), some (false, .mref 0), some (false, .int h), some (false, .tup (iD r)), some (false, .int a), some (false, .int b), u6, u7, some (false, .int g), some (true, .lst (iD md)), some (false, .int p.1), some (false, .int p.2), some (false, .lst (iD s)), none])
        (fun k : Nat => D.int (1 + (k : Nat))) (fun k => D.int (endN (k + 1) s)) (xs := List.range (g + 1)) (by
          rw [e_rng2P (a := 1) (b := (g : Int) + 2) (by simp only [runFn, startE, evSs, evEs, v_non, v_bl, v_int, v_str, v_var, v_glob, v_bin, v_neg, v_not, v_cmp, v_chain, v_isC, v_andL, v_orL, v_ite, v_tup, v_lst, v_idx, v_slice, v_rev, v_call, v_callD, v_callK, v_b1, v_mm, v_isi, v_lrange, v_dget, v_didx, w_assign, w_par, w_unpack, w_append, w_expr, w_ite, w_ret, w_cont, w_raise, w_aug, w_augIdx, evAnd, evOr, evO, evC, evT, look, put, puts, tgPut, wipeE, thaw, lk, lks, lkT, lost, lostT, newL, bindTo, ownL, sc_non, sc_bl, sc_int, sc_str, sc_tup, sc_lst, sc_scr, sc_mref, flat_lst, flat_int, flat_tup, flat_bl, flat_non, flat_mref, flat_scr, isL_lst, isL_tup, isL_int, isL_bl, isL_non, isL_scr, isL_mref, isL_str, opt_some, no_bind, tyD, truth, x_lt, x_le, x_gt, x_ge, x_eqI, x_neI, x_eqL, x_neL, x_eqT, x_neT, x_eqS, binD, negD, isD, idxD, q1_lenL, q1_lenT, q1_lenS, q1_sumL, q1_sumT, q1_abs, q1_listL, q1_listT, q1_tupleL, q1_tupleT, q1_intI, q1_intB, q1_all, q1_min, q1_max, items, fin, pure_bind, bind_assoc, optI, sliceD, List.set_cons_succ, List.set_cons_zero, List.getElem?_cons_succ, List.getElem?_cons_zero, List.getElem?_nil, Option.bind_some, Option.map_some, Option.map_none, List.length_map, List.length_cons, List.length_nil, List.map_cons, List.map_nil, List.cons_append, List.nil_append, List.append_nil, List.replicate_succ, List.replicate_zero, Nat.reduceAdd, Nat.reduceSub, Nat.reduceLeDiff, Nat.reduceLT, if_true, if_false, ite_true, ite_false, Bool.or_true, Bool.or_false, Bool.true_or, Bool.false_or, Bool.and_true, Bool.true_and, Bool.and_false, Bool.false_and, Bool.not_true, Bool.not_false, List.all_cons, List.all_nil, Bool.false_eq_true, reduceIte]) (by simp only [runFn, startE, evSs, evEs, v_non, v_bl, v_int, v_str, v_var, v_glob, v_bin, v_neg, v_not, v_cmp, v_chain, v_isC, v_andL, v_orL, v_ite, v_tup, v_lst, v_idx, v_slice, v_rev, v_call, v_callD, v_callK, v_b1, v_mm, v_isi, v_lrange, v_dget, v_didx, w_assign, w_par, w_unpack, w_append, w_expr, w_ite, w_ret, w_cont, w_raise, w_aug, w_augIdx, evAnd, evOr, evO, evC, evT, look, put, puts, tgPut, wipeE, thaw, lk, lks, lkT, lost, lostT, newL, bindTo, ownL, sc_non, sc_bl, sc_int, sc_str, sc_tup, sc_lst, sc_scr, sc_mref, flat_lst, flat_int, flat_tup, flat_bl, flat_non, flat_mref, flat_scr, isL_lst, isL_tup, isL_int, isL_bl, isL_non, isL_scr, isL_mref, isL_str, opt_some, no_bind, tyD, truth, x_lt, x_le, x_gt, x_ge, x_eqI, x_neI, x_eqL, x_neL, x_eqT, x_neT, x_eqS, binD, negD, isD, idxD, q1_lenL, q1_lenT, q1_lenS, q1_sumL, q1_sumT, q1_abs, q1_listL, q1_listT, q1_tupleL, q1_tupleT, q1_intI, q1_intB, q1_all, q1_min, q1_max, items, fin, pure_bind, bind_assoc, optI, sliceD, List.set_cons_succ, List.set_cons_zero, List.getElem?_cons_succ, List.getElem?_cons_zero, List.getElem?_nil, Option.bind_some, Option.map_some, Option.map_none, List.length_map, List.length_cons, List.length_nil, List.map_cons, List.map_nil, List.cons_append, List.nil_append, List.append_nil, List.replicate_succ, List.replicate_zero, Nat.reduceAdd, Nat.reduceSub, Nat.reduceLeDiff, Nat.reduceLT, if_true, if_false, ite_true, ite_false, Bool.or_true, Bool.or_false, Bool.true_or, Bool.false_or, Bool.and_true, Bool.true_and, Bool.and_false, Bool.false_and, Bool.not_true, Bool.not_false, List.all_cons, List.all_nil, Bool.false_eq_true, reduceIte]) (by omega) (by omega) (by omega) (by omega), show ((g : Int) + 2 - 1).toNat = g + 1 by omega]) (fun k hk => ⟨_, rfl, by
          have hk := List.mem_range.mp hk
          simp only [runFn, startE, evSs, evEs, v_non, v_bl, v_int, v_str, v_var, v_glob, v_bin, v_neg, v_not, v_cmp, v_chain, v_isC, v_andL, v_orL, v_ite, v_tup, v_lst, v_idx, v_slice, v_rev, v_call, v_callD, v_callK, v_b1, v_mm, v_isi, v_lrange, v_dget, v_didx, w_assign, w_par, w_unpack, w_append, w_expr, w_ite, w_ret, w_cont, w_raise, w_aug, w_augIdx, evAnd, evOr, evO, evC, evT, look, put, puts, tgPut, wipeE, thaw, lk, lks, lkT, lost, lostT, newL, bindTo, ownL, sc_non, sc_bl, sc_int, sc_str, sc_tup, sc_lst, sc_scr, sc_mref, flat_lst, flat_int, flat_tup, flat_bl, flat_non, flat_mref, flat_scr, isL_lst, isL_tup, isL_int, isL_bl, isL_non, isL_scr, isL_mref, isL_str, opt_some, no_bind, tyD, truth, x_lt, x_le, x_gt, x_ge, x_eqI, x_neI, x_eqL, x_neL, x_eqT, x_neT, x_eqS, binD, negD, isD, idxD, q1_lenL, q1_lenT, q1_lenS, q1_sumL, q1_sumT, q1_abs, q1_listL, q1_listT, q1_tupleL, q1_tupleT, q1_intI, q1_intB, q1_all, q1_min, q1_max, items, fin, pure_bind, bind_assoc, optI, sliceD, List.set_cons_succ, List.set_cons_zero, List.getElem?_cons_succ, List.getElem?_cons_zero, List.getElem?_nil, Option.bind_some, Option.map_some, Option.map_none, List.length_map, List.length_cons, List.length_nil, List.map_cons, List.map_nil, List.cons_append, List.nil_append, List.append_nil, List.replicate_succ, List.replicate_zero, Nat.reduceAdd, Nat.reduceSub, Nat.reduceLeDiff, Nat.reduceLT, if_true, if_false, ite_true, ite_false, Bool.or_true, Bool.or_false, Bool.true_or, Bool.false_or, Bool.and_true, Bool.true_and, Bool.and_false, Bool.false_and, Bool.not_true, Bool.not_false, List.all_cons, List.all_nil, Bool.false_eq_true, reduceIte, put, wipeE, thaw]
          rw [e_sums_so sl (by omega) (by omega), show ((1 : Int) + (k : Nat)).toNat = k + 1 by omega]
          simp only [runFn, startE, evSs, evEs, v_non, v_bl, v_int, v_str, v_var, v_glob, v_bin, v_neg, v_not, v_cmp, v_chain, v_isC, v_andL, v_orL, v_ite, v_tup, v_lst, v_idx, v_slice, v_rev, v_call, v_callD, v_callK, v_b1, v_mm, v_isi, v_lrange, v_dget, v_didx, w_assign, w_par, w_unpack, w_append, w_expr, w_ite, w_ret, w_cont, w_raise, w_aug, w_augIdx, evAnd, evOr, evO, evC, evT, look, put, puts, tgPut, wipeE, thaw, lk, lks, lkT, lost, lostT, newL, bindTo, ownL, sc_non, sc_bl, sc_int, sc_str, sc_tup, sc_lst, sc_scr, sc_mref, flat_lst, flat_int, flat_tup, flat_bl, flat_non, flat_mref, flat_scr, isL_lst, isL_tup, isL_int, isL_bl, isL_non, isL_scr, isL_mref, isL_str, opt_some, no_bind, tyD, truth, x_lt, x_le, x_gt, x_ge, x_eqI, x_neI, x_eqL, x_neL, x_eqT, x_neT, x_eqS, binD, negD, isD, idxD, q1_lenL, q1_lenT, q1_lenS, q1_sumL, q1_sumT, q1_abs, q1_listL, q1_listT, q1_tupleL, q1_tupleT, q1_intI, q1_intB, q1_all, q1_min, q1_max, items, fin, pure_bind, bind_assoc, optI, sliceD, List.set_cons_succ, List.set_cons_zero, List.getElem?_cons_succ, List.getElem?_cons_zero, List.getElem?_nil, Option.bind_some, Option.map_some, Option.map_none, List.length_map, List.length_cons, List.length_nil, List.map_cons, List.map_nil, List.cons_append, List.nil_append, List.append_nil, List.replicate_succ, List.replicate_zero, Nat.reduceAdd, Nat.reduceSub, Nat.reduceLeDiff, Nat.reduceLT, if_true, if_false, ite_true, ite_false, Bool.or_true, Bool.or_false, Bool.true_or, Bool.false_or, Bool.and_true, Bool.true_and, Bool.and_false, Bool.false_and, Bool.not_true, Bool.not_false, List.all_cons, List.all_nil, Bool.false_eq_true, reduceIte]
          have hsl : 1 ≤ (sumN (k + 1) s).length := by rw [sumN_len]; exact s1
          rw [lastI hsl, sumN_len]
          rfl⟩) (by rw [List.length_range]; omega)
      have hd2 : ((List.range (g + 1)).map fun k => D.int (endN (k + 1) s)) = iD ((List.range (g + 1)).map fun k => endN (k + 1) s) := by
        show _ = List.map D.int _
        rw [List.map_map]
        rfl
      rw [hd2] at hc
      have hz : (iD md).length + (iD ((List.range (g + 1)).map fun k => endN (k + 1) s)).length ≤ 1000000 := by
        rw [List.length_map, List.length_map, List.length_map, List.length_range]
        omega
      refine .of (seqR (ρ1 := [some (false, .scr), some (false, .mref 0), some (false, .int h), some (false, .tup (iD r)), some (false, .int a), some (false, .int b), u6, u7, some (false, .int g), some (true, .lst (iD (md ++ (List.range (g + 1)).map fun k => endN (k + 1) s))), some (false, .int p.1), some (false, .int p.2), some (false, .lst (iD s)), none]) (μ1 := tw L) (by
        simp only [evS, hc, opt_some, pure_bind, bind_assoc, bindTo, sc_ints, lost, lostT, thaw, lkT, lk, lks, newL, sc_non, sc_bl, sc_int, sc_str, sc_tup, sc_lst, sc_scr, sc_mref, flat_lst, flat_int, flat_tup, flat_bl, flat_non, flat_mref, flat_scr, isL_lst, isL_tup, isL_int, isL_bl, isL_non, isL_scr, isL_mref, isL_str, List.set_cons_succ, List.set_cons_zero, List.getElem?_cons_succ, List.getElem?_cons_zero, List.getElem?_nil, Option.bind_some, Option.map_some, Option.map_none, List.length_map, List.length_cons, List.length_nil, List.map_cons, List.map_nil, List.cons_append, List.nil_append, List.append_nil, List.replicate_succ, List.replicate_zero, Nat.reduceAdd, Nat.reduceSub, Nat.reduceLeDiff, Nat.reduceLT, if_true, if_false, ite_true, ite_false, Bool.or_true, Bool.or_false, Bool.true_or, Bool.false_or, Bool.and_true, Bool.true_and, Bool.and_false, Bool.false_and, Bool.not_true, Bool.not_false, List.all_cons, List.all_nil, Bool.false_eq_true, reduceIte, ownL, List.not_mem_nil, decide_false]
        rw [if_pos (by simpa using hz), cat_iD]
        rfl)) ?_
      refine .nil ⟨rfl, u6, u7, some (false, .int p.1), some (false, .int p.2), some (false, .lst (iD s)), ?_⟩
      simp only [List.flatMap_cons, List.flatMap_nil, List.append_nil, hs]
    · obtain ⟨rfl, u6, u7, u10, u11, u12, rfl⟩ := hj
      rw [List.length_map, List.take_length]
      have hlen : ((pairs h).flatMap fun p => (List.range (g + 1)).map fun k => endN (k + 1) (r.map (sgn p.1 p.2))).length ≤ 16 * 6 := by
        have hpl := pairs_len h2
        have : ∀ l : List (Int × Int), (l.flatMap fun p => (List.range (g + 1)).map fun k => endN (k + 1) (r.map (sgn p.1 p.2))).length = l.length * (g + 1) := by
          intro l
          induction l with
          | nil => simp
          | cons x l ih => rw [List.flatMap_cons, List.length_append, ih, List.length_map, List.length_range, List.length_cons, Nat.succ_mul]; omega
        rw [this]
        exact Nat.mul_le_mul hpl (by omega)
      have hzz := zeros_ends (h := h) (r := r) (g := g)
      generalize ((pairs h).flatMap fun p => (List.range (g + 1)).map fun k => endN (k + 1) (r.map (sgn p.1 p.2))) = ends at hlen hzz
      have hc := evCompF (S := S) (c := callN tbl S 11) (vs := [13]) (tg := .one 13) (it := .seq (.var 9)) (cd := .cmp .ne (.var 13) (.int 0)) (elt := .var 13) (ρ := [some (false, .scr), some (false, .mref 0), some (false, .int h), some (false, .tup (iD r)), some (false, .int a), some (false, .int b), u6, u7, some (false, .int g), some (true, .lst (iD ends)), u10, u11, u12, none])
        D.int D.int (fun x => !decide (x = 0)) (xs := ends) (by simp only [runFn, startE, evSs, evEs, v_non, v_bl, v_int, v_str, v_var, v_glob, v_bin, v_neg, v_not, v_cmp, v_chain, v_isC, v_andL, v_orL, v_ite, v_tup, v_lst, v_idx, v_slice, v_rev, v_call, v_callD, v_callK, v_b1, v_mm, v_isi, v_lrange, v_dget, v_didx, w_assign, w_par, w_unpack, w_append, w_expr, w_ite, w_ret, w_cont, w_raise, w_aug, w_augIdx, evAnd, evOr, evO, evC, evT, look, put, puts, tgPut, wipeE, thaw, lk, lks, lkT, lost, lostT, newL, bindTo, ownL, sc_non, sc_bl, sc_int, sc_str, sc_tup, sc_lst, sc_scr, sc_mref, flat_lst, flat_int, flat_tup, flat_bl, flat_non, flat_mref, flat_scr, isL_lst, isL_tup, isL_int, isL_bl, isL_non, isL_scr, isL_mref, isL_str, opt_some, no_bind, tyD, truth, x_lt, x_le, x_gt, x_ge, x_eqI, x_neI, x_eqL, x_neL, x_eqT, x_neT, x_eqS, binD, negD, isD, idxD, q1_lenL, q1_lenT, q1_lenS, q1_sumL, q1_sumT, q1_abs, q1_listL, q1_listT, q1_tupleL, q1_tupleT, q1_intI, q1_intB, q1_all, q1_min, q1_max, items, fin, pure_bind, bind_assoc, optI, sliceD, List.set_cons_succ, List.set_cons_zero, List.getElem?_cons_succ, List.getElem?_cons_zero, List.getElem?_nil, Option.bind_some, Option.map_some, Option.map_none, List.length_map, List.length_cons, List.length_nil, List.map_cons, List.map_nil, List.cons_append, List.nil_append, List.append_nil, List.replicate_succ, List.replicate_zero, Nat.reduceAdd, Nat.reduceSub, Nat.reduceLeDiff, Nat.reduceLT, if_true, if_false, ite_true, ite_false, Bool.or_true, Bool.or_false, Bool.true_or, Bool.false_or, Bool.and_true, Bool.true_and, Bool.and_false, Bool.false_and, Bool.not_true, Bool.not_false, List.all_cons, List.all_nil, Bool.false_eq_true, reduceIte]) (fun x hx => ⟨_, rfl, by simp only [runFn, startE, evSs, evEs, v_non, v_bl, v_int, v_str, v_var, v_glob, v_bin, v_neg, v_not, v_cmp, v_chain, v_isC, v_andL, v_orL, v_ite, v_tup, v_lst, v_idx, v_slice, v_rev, v_call, v_callD, v_callK, v_b1, v_mm, v_isi, v_lrange, v_dget, v_didx, w_assign, w_par, w_unpack, w_append, w_expr, w_ite, w_ret, w_cont, w_raise, w_aug, w_augIdx, evAnd, evOr, evO, evC, evT, look, put, puts, tgPut, wipeE, thaw, lk, lks, lkT, lost, lostT, newL, bindTo, ownL, sc_non, sc_bl, sc_int, sc_str, sc_tup, sc_lst, sc_scr, sc_mref, flat_lst, flat_int, flat_tup, flat_bl, flat_non, flat_mref, flat_scr, isL_lst, isL_tup, isL_int, isL_bl, isL_non, isL_scr, isL_mref, isL_str, opt_some, no_bind, tyD, truth, x_lt, x_le, x_gt, x_ge, x_eqI, x_neI, x_eqL, x_neL, x_eqT, x_neT, x_eqS, binD, negD, isD, idxD, q1_lenL, q1_lenT, q1_lenS, q1_sumL, q1_sumT, q1_abs, q1_listL, q1_listT, q1_tupleL, q1_tupleT, q1_intI, q1_intB, q1_all, q1_min, q1_max, items, fin, pure_bind, bind_assoc, optI, sliceD, List.set_cons_succ, List.set_cons_zero, List.getElem?_cons_succ, List.getElem?_cons_zero, List.getElem?_nil, Option.bind_some, Option.map_some, Option.map_none, List.length_map, List.length_cons, List.length_nil, List.map_cons, List.map_nil, List.cons_append, List.nil_append, List.append_nil, List.replicate_succ, List.replicate_zero, Nat.reduceAdd, Nat.reduceSub, Nat.reduceLeDiff, Nat.reduceLT, if_true, if_false, ite_true, ite_false, Bool.or_true, Bool.or_false, Bool.true_or, Bool.false_or, Bool.and_true, Bool.true_and, Bool.and_false, Bool.false_and, Bool.not_true, Bool.not_false, List.all_cons, List.all_nil, Bool.false_eq_true, reduceIte, put, wipeE, thaw], fun _ => by simp only [runFn, startE, evSs, evEs, v_non, v_bl, v_int, v_str, v_var, v_glob, v_bin, v_neg, v_not, v_cmp, v_chain, v_isC, v_andL, v_orL, v_ite, v_tup, v_lst, v_idx, v_slice, v_rev, v_call, v_callD, v_callK, v_b1, v_mm, v_isi, v_lrange, v_dget, v_didx, w_assign, w_par, w_unpack, w_append, w_expr, w_ite, w_ret, w_cont, w_raise, w_aug, w_augIdx, evAnd, evOr, evO, evC, evT, look, put, puts, tgPut, wipeE, thaw, lk, lks, lkT, lost, lostT, newL, bindTo, ownL, sc_non, sc_bl, sc_int, sc_str, sc_tup, sc_lst, sc_scr, sc_mref, flat_lst, flat_int, flat_tup, flat_bl, flat_non, flat_mref, flat_scr, isL_lst, isL_tup, isL_int, isL_bl, isL_non, isL_scr, isL_mref, isL_str, opt_some, no_bind, tyD, truth, x_lt, x_le, x_gt, x_ge, x_eqI, x_neI, x_eqL, x_neL, x_eqT, x_neT, x_eqS, binD, negD, isD, idxD, q1_lenL, q1_lenT, q1_lenS, q1_sumL, q1_sumT, q1_abs, q1_listL, q1_listT, q1_tupleL, q1_tupleT, q1_intI, q1_intB, q1_all, q1_min, q1_max, items, fin, pure_bind, bind_assoc, optI, sliceD, List.set_cons_succ, List.set_cons_zero, List.getElem?_cons_succ, List.getElem?_cons_zero, List.getElem?_nil, Option.bind_some, Option.map_some, Option.map_none, List.length_map, List.length_cons, List.length_nil, List.map_cons, List.map_nil, List.cons_append, List.nil_append, List.append_nil, List.replicate_succ, List.replicate_zero, Nat.reduceAdd, Nat.reduceSub, Nat.reduceLeDiff, Nat.reduceLT, if_true, if_false, ite_true, ite_false, Bool.or_true, Bool.or_false, Bool.true_or, Bool.false_or, Bool.and_true, Bool.true_and, Bool.and_false, Bool.false_and, Bool.not_true, Bool.not_false, List.all_cons, List.all_nil, Bool.false_eq_true, reduceIte, put, wipeE, thaw]⟩) (by omega)
      refine .of (ifN (μ1 := tw L) (by
        simp only [runFn, startE, evSs, evEs, v_non, v_bl, v_int, v_str, v_var, v_glob, v_bin, v_neg, v_not, v_cmp, v_chain, v_isC, v_andL, v_orL, v_ite, v_tup, v_lst, v_idx, v_slice, v_rev, v_call, v_callD, v_callK, v_b1, v_mm, v_isi, v_lrange, v_dget, v_didx, w_assign, w_par, w_unpack, w_append, w_expr, w_ite, w_ret, w_cont, w_raise, w_aug, w_augIdx, evAnd, evOr, evO, evC, evT, look, put, puts, tgPut, wipeE, thaw, lk, lks, lkT, lost, lostT, newL, bindTo, ownL, sc_non, sc_bl, sc_int, sc_str, sc_tup, sc_lst, sc_scr, sc_mref, flat_lst, flat_int, flat_tup, flat_bl, flat_non, flat_mref, flat_scr, isL_lst, isL_tup, isL_int, isL_bl, isL_non, isL_scr, isL_mref, isL_str, opt_some, no_bind, tyD, truth, x_lt, x_le, x_gt, x_ge, x_eqI, x_neI, x_eqL, x_neL, x_eqT, x_neT, x_eqS, binD, negD, isD, idxD, q1_lenL, q1_lenT, q1_lenS, q1_sumL, q1_sumT, q1_abs, q1_listL, q1_listT, q1_tupleL, q1_tupleT, q1_intI, q1_intB, q1_all, q1_min, q1_max, items, fin, pure_bind, bind_assoc, optI, sliceD, List.set_cons_succ, List.set_cons_zero, List.getElem?_cons_succ, List.getElem?_cons_zero, List.getElem?_nil, Option.bind_some, Option.map_some, Option.map_none, List.length_map, List.length_cons, List.length_nil, List.map_cons, List.map_nil, List.cons_append, List.nil_append, List.append_nil, List.replicate_succ, List.replicate_zero, Nat.reduceAdd, Nat.reduceSub, Nat.reduceLeDiff, Nat.reduceLT, if_true, if_false, ite_true, ite_false, Bool.or_true, Bool.or_false, Bool.true_or, Bool.false_or, Bool.and_true, Bool.true_and, Bool.and_false, Bool.false_and, Bool.not_true, Bool.not_false, List.all_cons, List.all_nil, Bool.false_eq_true, reduceIte, hc, Nat.zero_le]
        rw [x_eqL0, zeros_filter, hzz, e_is_even h1 h2 g0 (by omega) (by omega), Int.toNat_natCast]
        simp only [runFn, startE, evSs, evEs, v_non, v_bl, v_int, v_str, v_var, v_glob, v_bin, v_neg, v_not, v_cmp, v_chain, v_isC, v_andL, v_orL, v_ite, v_tup, v_lst, v_idx, v_slice, v_rev, v_call, v_callD, v_callK, v_b1, v_mm, v_isi, v_lrange, v_dget, v_didx, w_assign, w_par, w_unpack, w_append, w_expr, w_ite, w_ret, w_cont, w_raise, w_aug, w_augIdx, evAnd, evOr, evO, evC, evT, look, put, puts, tgPut, wipeE, thaw, lk, lks, lkT, lost, lostT, newL, bindTo, ownL, sc_non, sc_bl, sc_int, sc_str, sc_tup, sc_lst, sc_scr, sc_mref, flat_lst, flat_int, flat_tup, flat_bl, flat_non, flat_mref, flat_scr, isL_lst, isL_tup, isL_int, isL_bl, isL_non, isL_scr, isL_mref, isL_str, opt_some, no_bind, tyD, truth, x_lt, x_le, x_gt, x_ge, x_eqI, x_neI, x_eqL, x_neL, x_eqT, x_neT, x_eqS, binD, negD, isD, idxD, q1_lenL, q1_lenT, q1_lenS, q1_sumL, q1_sumT, q1_abs, q1_listL, q1_listT, q1_tupleL, q1_tupleT, q1_intI, q1_intB, q1_all, q1_min, q1_max, items, fin, pure_bind, bind_assoc, optI, sliceD, List.set_cons_succ, List.set_cons_zero, List.getElem?_cons_succ, List.getElem?_cons_zero, List.getElem?_nil, Option.bind_some, Option.map_some, Option.map_none, List.length_map, List.length_cons, List.length_nil, List.map_cons, List.map_nil, List.cons_append, List.nil_append, List.append_nil, List.replicate_succ, List.replicate_zero, Nat.reduceAdd, Nat.reduceSub, Nat.reduceLeDiff, Nat.reduceLT, if_true, if_false, ite_true, ite_false, Bool.or_true, Bool.or_false, Bool.true_or, Bool.false_or, Bool.and_true, Bool.true_and, Bool.and_false, Bool.false_and, Bool.not_true, Bool.not_false, List.all_cons, List.all_nil, Bool.false_eq_true, reduceIte, e_same_truth, beq_self_eq_true]
        rfl)) ?_
      exact .nil ⟨rfl, _, _, _, _, _, _, _, rfl⟩
  obtain ⟨rfl, u6, u7, u8, u9, u10, u11, u12, rfl⟩ := hj
  refine .of (setR (d := .int (-1)) (μ1 := tw L) (by simp only [runFn, startE, evSs, evEs, v_non, v_bl, v_int, v_str, v_var, v_glob, v_bin, v_neg, v_not, v_cmp, v_chain, v_isC, v_andL, v_orL, v_ite, v_tup, v_lst, v_idx, v_slice, v_rev, v_call, v_callD, v_callK, v_b1, v_mm, v_isi, v_lrange, v_dget, v_didx, w_assign, w_par, w_unpack, w_append, w_expr, w_ite, w_ret, w_cont, w_raise, w_aug, w_augIdx, evAnd, evOr, evO, evC, evT, look, put, puts, tgPut, wipeE, thaw, lk, lks, lkT, lost, lostT, newL, bindTo, ownL, sc_non, sc_bl, sc_int, sc_str, sc_tup, sc_lst, sc_scr, sc_mref, flat_lst, flat_int, flat_tup, flat_bl, flat_non, flat_mref, flat_scr, isL_lst, isL_tup, isL_int, isL_bl, isL_non, isL_scr, isL_mref, isL_str, opt_some, no_bind, tyD, truth, x_lt, x_le, x_gt, x_ge, x_eqI, x_neI, x_eqL, x_neL, x_eqT, x_neT, x_eqS, binD, negD, isD, idxD, q1_lenL, q1_lenT, q1_lenS, q1_sumL, q1_sumT, q1_abs, q1_listL, q1_listT, q1_tupleL, q1_tupleT, q1_intI, q1_intB, q1_all, q1_min, q1_max, items, fin, pure_bind, bind_assoc, optI, sliceD, List.set_cons_succ, List.set_cons_zero, List.getElem?_cons_succ, List.getElem?_cons_zero, List.getElem?_nil, Option.bind_some, Option.map_some, Option.map_none, List.length_map, List.length_cons, List.length_nil, List.map_cons, List.map_nil, List.cons_append, List.nil_append, List.append_nil, List.replicate_succ, List.replicate_zero, Nat.reduceAdd, Nat.reduceSub, Nat.reduceLeDiff, Nat.reduceLT, if_true, if_false, ite_true, ite_false, Bool.or_true, Bool.or_false, Bool.true_or, Bool.false_or, Bool.and_true, Bool.true_and, Bool.and_false, Bool.false_and, Bool.not_true, Bool.not_false, List.all_cons, List.all_nil, Bool.false_eq_true, reduceIte]; rfl)) ?_
  simp only [bindTo, sc_ints, lost, lostT, thaw, lkT, lk, lks, newL, sc_non, sc_bl, sc_int, sc_str, sc_tup, sc_lst, sc_scr, sc_mref, flat_lst, flat_int, flat_tup, flat_bl, flat_non, flat_mref, flat_scr, isL_lst, isL_tup, isL_int, isL_bl, isL_non, isL_scr, isL_mref, isL_str, List.set_cons_succ, List.set_cons_zero, List.getElem?_cons_succ, List.getElem?_cons_zero, List.getElem?_nil, Option.bind_some, Option.map_some, Option.map_none, List.length_map, List.length_cons, List.length_nil, List.map_cons, List.map_nil, List.cons_append, List.nil_append, List.append_nil, List.replicate_succ, List.replicate_zero, Nat.reduceAdd, Nat.reduceSub, Nat.reduceLeDiff, Nat.reduceLT, if_true, if_false, ite_true, ite_false, Bool.or_true, Bool.or_false, Bool.true_or, Bool.false_or, Bool.and_true, Bool.true_and, Bool.and_false, Bool.false_and, Bool.not_true, Bool.not_false, List.all_cons, List.all_nil, Bool.false_eq_true, reduceIte]
  obtain ⟨ρ', μ', e1, hj1, _, hj2⟩ := whileR (S := S) (c := callN tbl S 11) (ss := .cons (.ret (.call 38 (.cons (.call 39 (.cons (.var 2) (.cons (.var 3) .nil))) (.cons (.var 7) .nil)))) .nil) (n := 1000) (m := N) (e := .call 40 (.cons (.var 2) (.cons (.var 3) (.cons (.bin .add (.var 7) (.int 1)) .nil)))) (body := .cons (.assign 7 (.bin .add (.var 7) (.int 1))) .nil) (ρ := [some (false, .scr), some (false, .mref 0), some (false, .int h), some (false, .tup (iD r)), some (false, .int a), some (false, .int b), u6, some (false, .int (-1)), u8, u9, u10, u11, u12, none]) (μ := tw L)
    (fun m ρ ν => ν = tw L ∧ m ≤ N ∧ ρ = [some (false, .scr), some (false, .mref 0), some (false, .int h), some (false, .tup (iD r)), some (false, .int a), some (false, .int b), u6, some (false, .int ((N : Int) - 1 - m)), u8, u9, u10, u11, u12, none]) ⟨rfl, Nat.le_refl _, by rw [show (N : Int) - 1 - N = -1 by omega]⟩ (by omega)
    (fun m ρ ν hj => by
      obtain ⟨rfl, hm, rfl⟩ := hj
      refine ⟨?_, [some (false, .scr), some (false, .mref 0), some (false, .int h), some (false, .tup (iD r)), some (false, .int a), some (false, .int b), u6, some (false, .int ((N : Int) - 1 - m)), u8, u9, u10, u11, u12, none], tw L, ?_, rfl, by omega, rfl⟩
      · simp only [runFn, startE, evSs, evEs, v_non, v_bl, v_int, v_str, v_var, v_glob, v_bin, v_neg, v_not, v_cmp, v_chain, v_isC, v_andL, v_orL, v_ite, v_tup, v_lst, v_idx, v_slice, v_rev, v_call, v_callD, v_callK, v_b1, v_mm, v_isi, v_lrange, v_dget, v_didx, w_assign, w_par, w_unpack, w_append, w_expr, w_ite, w_ret, w_cont, w_raise, w_aug, w_augIdx, evAnd, evOr, evO, evC, evT, look, put, puts, tgPut, wipeE, thaw, lk, lks, lkT, lost, lostT, newL, bindTo, ownL, sc_non, sc_bl, sc_int, sc_str, sc_tup, sc_lst, sc_scr, sc_mref, flat_lst, flat_int, flat_tup, flat_bl, flat_non, flat_mref, flat_scr, isL_lst, isL_tup, isL_int, isL_bl, isL_non, isL_scr, isL_mref, isL_str, opt_some, no_bind, tyD, truth, x_lt, x_le, x_gt, x_ge, x_eqI, x_neI, x_eqL, x_neL, x_eqT, x_neT, x_eqS, binD, negD, isD, idxD, q1_lenL, q1_lenT, q1_lenS, q1_sumL, q1_sumT, q1_abs, q1_listL, q1_listT, q1_tupleL, q1_tupleT, q1_intI, q1_intB, q1_all, q1_min, q1_max, items, fin, pure_bind, bind_assoc, optI, sliceD, List.set_cons_succ, List.set_cons_zero, List.getElem?_cons_succ, List.getElem?_cons_zero, List.getElem?_nil, Option.bind_some, Option.map_some, Option.map_none, List.length_map, List.length_cons, List.length_nil, List.map_cons, List.map_nil, List.cons_append, List.nil_append, List.append_nil, List.replicate_succ, List.replicate_zero, Nat.reduceAdd, Nat.reduceSub, Nat.reduceLeDiff, Nat.reduceLT, if_true, if_false, ite_true, ite_false, Bool.or_true, Bool.or_false, Bool.true_or, Bool.false_or, Bool.and_true, Bool.true_and, Bool.and_false, Bool.false_and, Bool.not_true, Bool.not_false, List.all_cons, List.all_nil, Bool.false_eq_true, reduceIte]
        rw [e_even_so (by omega) (by omega) rl (by omega) (by omega), even_same (by omega) r1, n3 _ (by omega)]
        rfl
      · simp only [runFn, startE, evSs, evEs, v_non, v_bl, v_int, v_str, v_var, v_glob, v_bin, v_neg, v_not, v_cmp, v_chain, v_isC, v_andL, v_orL, v_ite, v_tup, v_lst, v_idx, v_slice, v_rev, v_call, v_callD, v_callK, v_b1, v_mm, v_isi, v_lrange, v_dget, v_didx, w_assign, w_par, w_unpack, w_append, w_expr, w_ite, w_ret, w_cont, w_raise, w_aug, w_augIdx, evAnd, evOr, evO, evC, evT, look, put, puts, tgPut, wipeE, thaw, lk, lks, lkT, lost, lostT, newL, bindTo, ownL, sc_non, sc_bl, sc_int, sc_str, sc_tup, sc_lst, sc_scr, sc_mref, flat_lst, flat_int, flat_tup, flat_bl, flat_non, flat_mref, flat_scr, isL_lst, isL_tup, isL_int, isL_bl, isL_non, isL_scr, isL_mref, isL_str, opt_some, no_bind, tyD, truth, x_lt, x_le, x_gt, x_ge, x_eqI, x_neI, x_eqL, x_neL, x_eqT, x_neT, x_eqS, binD, negD, isD, idxD, q1_lenL, q1_lenT, q1_lenS, q1_sumL, q1_sumT, q1_abs, q1_listL, q1_listT, q1_tupleL, q1_tupleT, q1_intI, q1_intB, q1_all, q1_min, q1_max, items, fin, pure_bind, bind_assoc, optI, sliceD, List.set_cons_succ, List.set_cons_zero, List.getElem?_cons_succ, List.getElem?_cons_zero, List.getElem?_nil, Option.bind_some, Option.map_some, Option.map_none, List.length_map, List.length_cons, List.length_nil, List.map_cons, List.map_nil, List.cons_append, List.nil_append, List.append_nil, List.replicate_succ, List.replicate_zero, Nat.reduceAdd, Nat.reduceSub, Nat.reduceLeDiff, Nat.reduceLT, if_true, if_false, ite_true, ite_false, Bool.or_true, Bool.or_false, Bool.true_or, Bool.false_or, Bool.and_true, Bool.true_and, Bool.and_false, Bool.false_and, Bool.not_true, Bool.not_false, List.all_cons, List.all_nil, Bool.false_eq_true, reduceIte]
        rw [show (N : Int) - 1 - ((m + 1 : Nat) : Int) + 1 = (N : Int) - 1 - m by omega]
        rfl)
    (fun ρ ν hj => by
      obtain ⟨rfl, _, rfl⟩ := hj
      simp only [runFn, startE, evSs, evEs, v_non, v_bl, v_int, v_str, v_var, v_glob, v_bin, v_neg, v_not, v_cmp, v_chain, v_isC, v_andL, v_orL, v_ite, v_tup, v_lst, v_idx, v_slice, v_rev, v_call, v_callD, v_callK, v_b1, v_mm, v_isi, v_lrange, v_dget, v_didx, w_assign, w_par, w_unpack, w_append, w_expr, w_ite, w_ret, w_cont, w_raise, w_aug, w_augIdx, evAnd, evOr, evO, evC, evT, look, put, puts, tgPut, wipeE, thaw, lk, lks, lkT, lost, lostT, newL, bindTo, ownL, sc_non, sc_bl, sc_int, sc_str, sc_tup, sc_lst, sc_scr, sc_mref, flat_lst, flat_int, flat_tup, flat_bl, flat_non, flat_mref, flat_scr, isL_lst, isL_tup, isL_int, isL_bl, isL_non, isL_scr, isL_mref, isL_str, opt_some, no_bind, tyD, truth, x_lt, x_le, x_gt, x_ge, x_eqI, x_neI, x_eqL, x_neL, x_eqT, x_neT, x_eqS, binD, negD, isD, idxD, q1_lenL, q1_lenT, q1_lenS, q1_sumL, q1_sumT, q1_abs, q1_listL, q1_listT, q1_tupleL, q1_tupleT, q1_intI, q1_intB, q1_all, q1_min, q1_max, items, fin, pure_bind, bind_assoc, optI, sliceD, List.set_cons_succ, List.set_cons_zero, List.getElem?_cons_succ, List.getElem?_cons_zero, List.getElem?_nil, Option.bind_some, Option.map_some, Option.map_none, List.length_map, List.length_cons, List.length_nil, List.map_cons, List.map_nil, List.cons_append, List.nil_append, List.append_nil, List.replicate_succ, List.replicate_zero, Nat.reduceAdd, Nat.reduceSub, Nat.reduceLeDiff, Nat.reduceLT, if_true, if_false, ite_true, ite_false, Bool.or_true, Bool.or_false, Bool.true_or, Bool.false_or, Bool.and_true, Bool.true_and, Bool.and_false, Bool.false_and, Bool.not_true, Bool.not_false, List.all_cons, List.all_nil, Bool.false_eq_true, reduceIte]
      rw [e_even_so (by omega) (by omega) rl (by omega) (by omega), even_same (by omega) r1, show ((N : Int) - 1 - (0 : Nat) + 1).toNat = N by omega, n2]
      rfl)
  subst hj1 hj2
  refine .of e1 ?_
  refine .ret (μ1 := tw L) ?_
  simp only [runFn, startE, evSs, evEs, v_non, v_bl, v_int, v_str, v_var, v_glob, v_bin, v_neg, v_not, v_cmp, v_chain, v_isC, v_andL, v_orL, v_ite, v_tup, v_lst, v_idx, v_slice, v_rev, v_call, v_callD, v_callK, v_b1, v_mm, v_isi, v_lrange, v_dget, v_didx, w_assign, w_par, w_unpack, w_append, w_expr, w_ite, w_ret, w_cont, w_raise, w_aug, w_augIdx, evAnd, evOr, evO, evC, evT, look, put, puts, tgPut, wipeE, thaw, lk, lks, lkT, lost, lostT, newL, bindTo, ownL, sc_non, sc_bl, sc_int, sc_str, sc_tup, sc_lst, sc_scr, sc_mref, flat_lst, flat_int, flat_tup, flat_bl, flat_non, flat_mref, flat_scr, isL_lst, isL_tup, isL_int, isL_bl, isL_non, isL_scr, isL_mref, isL_str, opt_some, no_bind, tyD, truth, x_lt, x_le, x_gt, x_ge, x_eqI, x_neI, x_eqL, x_neL, x_eqT, x_neT, x_eqS, binD, negD, isD, idxD, q1_lenL, q1_lenT, q1_lenS, q1_sumL, q1_sumT, q1_abs, q1_listL, q1_listT, q1_tupleL, q1_tupleT, q1_intI, q1_intB, q1_all, q1_min, q1_max, items, fin, pure_bind, bind_assoc, optI, sliceD, List.set_cons_succ, List.set_cons_zero, List.getElem?_cons_succ, List.getElem?_cons_zero, List.getElem?_nil, Option.bind_some, Option.map_some, Option.map_none, List.length_map, List.length_cons, List.length_nil, List.map_cons, List.map_nil, List.cons_append, List.nil_append, List.append_nil, List.replicate_succ, List.replicate_zero, Nat.reduceAdd, Nat.reduceSub, Nat.reduceLeDiff, Nat.reduceLT, if_true, if_false, ite_true, ite_false, Bool.or_true, Bool.or_false, Bool.true_or, Bool.false_or, Bool.and_true, Bool.true_and, Bool.and_false, Bool.false_and, Bool.not_true, Bool.not_false, List.all_cons, List.all_nil, Bool.false_eq_true, reduceIte]
  rw [run_bind (e_evenness h1 h2 g0 (by omega) n2 n3)]
  simp only [runFn, startE, evSs, evEs, v_non, v_bl, v_int, v_str, v_var, v_glob, v_bin, v_neg, v_not, v_cmp, v_chain, v_isC, v_andL, v_orL, v_ite, v_tup, v_lst, v_idx, v_slice, v_rev, v_call, v_callD, v_callK, v_b1, v_mm, v_isi, v_lrange, v_dget, v_didx, w_assign, w_par, w_unpack, w_append, w_expr, w_ite, w_ret, w_cont, w_raise, w_aug, w_augIdx, evAnd, evOr, evO, evC, evT, look, put, puts, tgPut, wipeE, thaw, lk, lks, lkT, lost, lostT, newL, bindTo, ownL, sc_non, sc_bl, sc_int, sc_str, sc_tup, sc_lst, sc_scr, sc_mref, flat_lst, flat_int, flat_tup, flat_bl, flat_non, flat_mref, flat_scr, isL_lst, isL_tup, isL_int, isL_bl, isL_non, isL_scr, isL_mref, isL_str, opt_some, no_bind, tyD, truth, x_lt, x_le, x_gt, x_ge, x_eqI, x_neI, x_eqL, x_neL, x_eqT, x_neT, x_eqS, binD, negD, isD, idxD, q1_lenL, q1_lenT, q1_lenS, q1_sumL, q1_sumT, q1_abs, q1_listL, q1_listT, q1_tupleL, q1_tupleT, q1_intI, q1_intB, q1_all, q1_min, q1_max, items, fin, pure_bind, bind_assoc, optI, sliceD, List.set_cons_succ, List.set_cons_zero, List.getElem?_cons_succ, List.getElem?_cons_zero, List.getElem?_nil, Option.bind_some, Option.map_some, Option.map_none, List.length_map, List.length_cons, List.length_nil, List.map_cons, List.map_nil, List.cons_append, List.nil_append, List.append_nil, List.replicate_succ, List.replicate_zero, Nat.reduceAdd, Nat.reduceSub, Nat.reduceLeDiff, Nat.reduceLT, if_true, if_false, ite_true, ite_false, Bool.or_true, Bool.or_false, Bool.true_or, Bool.false_or, Bool.and_true, Bool.true_and, Bool.and_false, Bool.false_and, Bool.not_true, Bool.not_false, List.all_cons, List.all_nil, Bool.false_eq_true, reduceIte, e_same_number]
  rw [show (N : Int) - 1 - ((0 : Nat) : Int) = (N : Int) - 1 by omega, decide_eq_true rfl]
  rfl
end
end Ev

set_option Elab.async false
set_option linter.all false
set_option maxRecDepth 100000
set_option maxHeartbeats 0
namespace Ev.K03
open PySem PySem.Spec L2 PyProof.Rows
def top (i : Nat) : Stmt := PySem.Challenge.pw_evenrows_k03_whole_sums.main.body.getD i (.Pass ⟨0, 0, 0, 0⟩)
def d_is_whole : FDef := ⟨"is_whole", 0, ["thing", "low", "high"], ["thing", "low", "high"], none, top 9⟩
def d_need_hands : FDef := ⟨"need_hands", 2, ["hands"], ["hands"], none, top 10⟩
def d_good_row : FDef := ⟨"good_row", 1, ["hands", "thing", "one"], ["hands", "thing"], none, top 11⟩
def d_need_row : FDef := ⟨"need_row", 3, ["hands", "row"], ["hands", "row"], none, top 12⟩
def d_need_two : FDef := ⟨"need_two", 5, ["hands", "row", "one", "other"], ["hands", "row", "one", "other"], none, top 13⟩
def d_signs_of : FDef := ⟨"signs_of", 4, ["row", "one", "other", "hand"], ["row", "one", "other"], none, top 14⟩
def d_pairs_of : FDef := ⟨"pairs_of", 30, ["hands", "one", "other"], ["hands"], none, top 15⟩
def d_summed : FDef := ⟨"summed", 28, ["numbers", "made", "total", "one"], ["numbers"], none, top 18⟩
def d_sums_of : FDef := ⟨"sums_of", 29, ["row", "one", "other", "order", "made", "turn"], ["row", "one", "other", "order"], none, top 19⟩
def d_sums : FDef := ⟨"sums", 44, ["hands", "row", "one", "other", "order"], ["hands", "row", "one", "other", "order"], some ("order", 1), top 20⟩
def d_two_even : FDef := ⟨"two_even", 31, ["row", "one", "other", "degree", "made", "turn"], ["row", "one", "other", "degree"], none, top 21⟩
def d_even_of : FDef := ⟨"even_of", 32, ["hands", "row", "degree", "one", "other"], ["hands", "row", "degree"], none, top 22⟩
def d_is_even : FDef := ⟨"is_even", 41, ["hands", "row", "degree"], ["hands", "row", "degree"], none, top 23⟩
def d_evenness : FDef := ⟨"evenness", 39, ["hands", "row", "degree"], ["hands", "row"], none, top 24⟩
def d_law_cell_at : FDef := ⟨"_law_cell_at", 10, ["script", "k", "spare", "again"], ["script", "k"], none, top 26⟩
def d_law_mixed : FDef := ⟨"_law_mixed", 11, ["script", "k", "reach", "spun"], ["script", "k", "reach"], none, top 27⟩
def d_law_draw : FDef := ⟨"_law_draw", 12, ["script", "town", "reach"], ["script", "town", "reach"], none, top 28⟩
def d_law_same_number : FDef := ⟨"_law_same_number", 38, ["got", "due"], ["got", "due"], none, top 29⟩
def d_law_same_truth : FDef := ⟨"_law_same_truth", 25, ["got", "due"], ["got", "due"], none, top 30⟩
def d_law_some_row : FDef := ⟨"_law_some_row", 19, ["script", "town", "hands", "reach", "place"], ["script", "town", "hands", "reach"], none, top 31⟩
def d_law_order_of : FDef := ⟨"_law_order_of", 35, ["script", "town", "many", "left", "made"], ["script", "town", "many"], none, top 32⟩
def d_law_rest : FDef := ⟨"_law_rest", 33, ["number", "many"], ["number", "many"], none, top 33⟩
def d_law_put : FDef := ⟨"_law_put", 34, ["hands", "row", "other", "made", "turn", "one"], ["hands", "row", "other"], none, top 34⟩
def d_law_even_row : FDef := ⟨"_law_even_row", 36, ["script", "town", "hands", "degree", "made", "again"], ["script", "town", "hands", "degree"], none, top 35⟩
def d_law_near_even : FDef := ⟨"_law_near_even", 45, ["script", "town", "hands", "degree", "kind", "made", "one", "other"], ["script", "town", "hands", "degree"], none, top 36⟩
def d_law_signs_so : FDef := ⟨"_law_signs_so", 13, ["row", "one", "other", "hand"], ["row", "one", "other"], none, top 37⟩
def d_law_sums_so : FDef := ⟨"_law_sums_so", 43, ["numbers", "times", "made", "again", "at"], ["numbers", "times"], none, top 38⟩
def d_law_power : FDef := ⟨"_law_power", 22, ["number", "many", "made", "again"], ["number", "many"], none, top 39⟩
def d_law_moments_so : FDef := ⟨"_law_moments_so", 37, ["hands", "row", "degree", "made", "hand", "own", "place", "k"], ["hands", "row", "degree"], none, top 40⟩
def d_law_even_so : FDef := ⟨"_law_even_so", 40, ["hands", "row", "degree", "rows", "own"], ["hands", "row", "degree"], none, top 41⟩
def d_law_pairs : FDef := ⟨"_law_pairs", 42, ["hands", "made", "one", "other"], ["hands"], none, top 42⟩
def d_law : FDef := ⟨"law", 903, ["script", "town", "hands", "row", "one", "other", "times", "due", "degree", "ends_there", "a", "b", "signs_there", "end"], ["script"], none, top 43⟩
def fds : List FDef := [d_is_whole, d_need_hands, d_good_row, d_need_row, d_need_two, d_signs_of, d_pairs_of, d_summed, d_sums_of, d_sums, d_two_even, d_even_of, d_is_even, d_evenness, d_law_cell_at, d_law_mixed, d_law_draw, d_law_same_number, d_law_same_truth, d_law_some_row, d_law_order_of, d_law_rest, d_law_put, d_law_even_row, d_law_near_even, d_law_signs_so, d_law_sums_so, d_law_power, d_law_moments_so, d_law_even_so, d_law_pairs, d_law]
def P : PCtx := ⟨fds.map fun d => (d.x, (d.id, d.ps.length, d.dk)), [("LONG", .int 64), ("MOST", .int 9)], ["isinstance", "int", "bool", "tuple", "all", "len", "range", "min", "list", "sum"]⟩
theorem ck : fds.all (ckFn P tbl) = true := by decide +kernel
theorem b_is_whole : BindEq d_is_whole := fun _ _ _ _ _ _ us hl => match us, hl with | [_, _, _], _ => rfl
theorem b_need_hands : BindEq d_need_hands := fun _ _ _ _ _ _ us hl => match us, hl with | [_], _ => rfl
theorem b_good_row : BindEq d_good_row := fun _ _ _ _ _ _ us hl => match us, hl with | [_, _], _ => rfl
theorem b_need_row : BindEq d_need_row := fun _ _ _ _ _ _ us hl => match us, hl with | [_, _], _ => rfl
theorem b_need_two : BindEq d_need_two := fun _ _ _ _ _ _ us hl => match us, hl with | [_, _, _, _], _ => rfl
theorem b_signs_of : BindEq d_signs_of := fun _ _ _ _ _ _ us hl => match us, hl with | [_, _, _], _ => rfl
theorem b_pairs_of : BindEq d_pairs_of := fun _ _ _ _ _ _ us hl => match us, hl with | [_], _ => rfl
theorem b_summed : BindEq d_summed := fun _ _ _ _ _ _ us hl => match us, hl with | [_], _ => rfl
theorem b_sums_of : BindEq d_sums_of := fun _ _ _ _ _ _ us hl => match us, hl with | [_, _, _, _], _ => rfl
theorem b_sums : BindEq d_sums := ⟨by simp [d_sums], fun D _ _ _ _ _ us ks h1 h2 => match us, ks, h1, h2 with | [_, _, _, _], [_], _, _ => ⟨_, _, _, _, _, _, rfl, rfl, rfl⟩, fun D _ _ _ _ _ us ws h1 h2 => match us, ws, h1, h2 with | [_, _, _, _], [_], _, _ => rfl⟩
theorem b_two_even : BindEq d_two_even := fun _ _ _ _ _ _ us hl => match us, hl with | [_, _, _, _], _ => rfl
theorem b_even_of : BindEq d_even_of := fun _ _ _ _ _ _ us hl => match us, hl with | [_, _, _], _ => rfl
theorem b_is_even : BindEq d_is_even := fun _ _ _ _ _ _ us hl => match us, hl with | [_, _, _], _ => rfl
theorem b_evenness : BindEq d_evenness := fun _ _ _ _ _ _ us hl => match us, hl with | [_, _], _ => rfl
theorem b_law_cell_at : BindEq d_law_cell_at := fun _ _ _ _ _ _ us hl => match us, hl with | [_, _], _ => rfl
theorem b_law_mixed : BindEq d_law_mixed := fun _ _ _ _ _ _ us hl => match us, hl with | [_, _, _], _ => rfl
theorem b_law_draw : BindEq d_law_draw := fun _ _ _ _ _ _ us hl => match us, hl with | [_, _, _], _ => rfl
theorem b_law_same_number : BindEq d_law_same_number := fun _ _ _ _ _ _ us hl => match us, hl with | [_, _], _ => rfl
theorem b_law_same_truth : BindEq d_law_same_truth := fun _ _ _ _ _ _ us hl => match us, hl with | [_, _], _ => rfl
theorem b_law_some_row : BindEq d_law_some_row := fun _ _ _ _ _ _ us hl => match us, hl with | [_, _, _, _], _ => rfl
theorem b_law_order_of : BindEq d_law_order_of := fun _ _ _ _ _ _ us hl => match us, hl with | [_, _, _], _ => rfl
theorem b_law_rest : BindEq d_law_rest := fun _ _ _ _ _ _ us hl => match us, hl with | [_, _], _ => rfl
theorem b_law_put : BindEq d_law_put := fun _ _ _ _ _ _ us hl => match us, hl with | [_, _, _], _ => rfl
theorem b_law_even_row : BindEq d_law_even_row := fun _ _ _ _ _ _ us hl => match us, hl with | [_, _, _, _], _ => rfl
theorem b_law_near_even : BindEq d_law_near_even := fun _ _ _ _ _ _ us hl => match us, hl with | [_, _, _, _], _ => rfl
theorem b_law_signs_so : BindEq d_law_signs_so := fun _ _ _ _ _ _ us hl => match us, hl with | [_, _, _], _ => rfl
theorem b_law_sums_so : BindEq d_law_sums_so := fun _ _ _ _ _ _ us hl => match us, hl with | [_, _], _ => rfl
theorem b_law_power : BindEq d_law_power := fun _ _ _ _ _ _ us hl => match us, hl with | [_, _], _ => rfl
theorem b_law_moments_so : BindEq d_law_moments_so := fun _ _ _ _ _ _ us hl => match us, hl with | [_, _, _], _ => rfl
theorem b_law_even_so : BindEq d_law_even_so := fun _ _ _ _ _ _ us hl => match us, hl with | [_, _, _], _ => rfl
theorem b_law_pairs : BindEq d_law_pairs := fun _ _ _ _ _ _ us hl => match us, hl with | [_], _ => rfl
theorem b_law : BindEq d_law := fun _ _ _ _ _ _ us hl => match us, hl with | [_], _ => rfl
theorem binds : ∀ d ∈ fds, BindEq d := List.forall_mem_cons.mpr ⟨b_is_whole, List.forall_mem_cons.mpr ⟨b_need_hands, List.forall_mem_cons.mpr ⟨b_good_row, List.forall_mem_cons.mpr ⟨b_need_row, List.forall_mem_cons.mpr ⟨b_need_two, List.forall_mem_cons.mpr ⟨b_signs_of, List.forall_mem_cons.mpr ⟨b_pairs_of, List.forall_mem_cons.mpr ⟨b_summed, List.forall_mem_cons.mpr ⟨b_sums_of, List.forall_mem_cons.mpr ⟨b_sums, List.forall_mem_cons.mpr ⟨b_two_even, List.forall_mem_cons.mpr ⟨b_even_of, List.forall_mem_cons.mpr ⟨b_is_even, List.forall_mem_cons.mpr ⟨b_evenness, List.forall_mem_cons.mpr ⟨b_law_cell_at, List.forall_mem_cons.mpr ⟨b_law_mixed, List.forall_mem_cons.mpr ⟨b_law_draw, List.forall_mem_cons.mpr ⟨b_law_same_number, List.forall_mem_cons.mpr ⟨b_law_same_truth, List.forall_mem_cons.mpr ⟨b_law_some_row, List.forall_mem_cons.mpr ⟨b_law_order_of, List.forall_mem_cons.mpr ⟨b_law_rest, List.forall_mem_cons.mpr ⟨b_law_put, List.forall_mem_cons.mpr ⟨b_law_even_row, List.forall_mem_cons.mpr ⟨b_law_near_even, List.forall_mem_cons.mpr ⟨b_law_signs_so, List.forall_mem_cons.mpr ⟨b_law_sums_so, List.forall_mem_cons.mpr ⟨b_law_power, List.forall_mem_cons.mpr ⟨b_law_moments_so, List.forall_mem_cons.mpr ⟨b_law_even_so, List.forall_mem_cons.mpr ⟨b_law_pairs, List.forall_mem_cons.mpr ⟨b_law, fun _ h => nomatch h⟩⟩⟩⟩⟩⟩⟩⟩⟩⟩⟩⟩⟩⟩⟩⟩⟩⟩⟩⟩⟩⟩⟩⟩⟩⟩⟩⟩⟩⟩⟩⟩
def fa : List He.Fa := [.glo "is_whole", .glo "need_hands", .glo "good_row", .glo "need_row", .glo "need_two", .glo "signs_of", .glo "pairs_of", .glo "summed", .glo "sums_of", .glo "sums", .glo "two_even", .glo "even_of", .glo "is_even", .glo "evenness", .glo "_law_cell_at", .glo "_law_mixed", .glo "_law_draw", .glo "_law_same_number", .glo "_law_same_truth", .glo "_law_some_row", .glo "_law_order_of", .glo "_law_rest", .glo "_law_put", .glo "_law_even_row", .glo "_law_near_even", .glo "_law_signs_so", .glo "_law_sums_so", .glo "_law_power", .glo "_law_moments_so", .glo "_law_even_so", .glo "_law_pairs", .glo "law", .free "isinstance", .free "int", .free "bool", .free "tuple", .free "all", .free "len", .free "range", .free "min", .free "list", .free "sum", .int "LONG" 64, .int "MOST" 9]
def fn : List He.DefD := fds.map FDef.dd
def ln0 : List Str := ["TurnError", "NoHands", "NoRow", "NoHand", "NoOrder", "NoDegree", "LONG", "is_whole", "need_hands", "good_row", "need_row", "need_two", "signs_of", "pairs_of", "MOST", "summed", "sums_of", "sums", "two_even", "even_of"]
def ln1 : List Str := ["is_even", "evenness", "_law_cell_at", "_law_mixed", "_law_draw", "_law_same_number", "_law_same_truth", "_law_some_row", "_law_order_of", "_law_rest", "_law_put", "_law_even_row", "_law_near_even", "_law_signs_so", "_law_sums_so", "_law_power", "_law_moments_so", "_law_even_so", "_law_pairs"]
abbrev loose : List Str := ln0 ++ ln1
abbrev R : PySem.W.OpenRow := PySem.W.OpenLaw.row PySem.Challenge.rw_evenrows_k03_whole_sums
abbrev hk : PySem.W.Hook := He.hookD 4 fa fn
def ob (s : PySem.W.SharedT) : He.AlD := He.obsDG 4 fa fn (HandSHeadRun.getT s)
theorem ob_eq (s : PySem.W.SharedT) : ob s = hk.obs s.abs := He.obsDG_eq (HandSHeadRun.getT_eq s)
theorem main : ∀ S : List Int, S.length ≤ 63 → ∃ μ, callN tbl S 12 903 [.scr] [] = .ok (.bl true) μ := fun _ h => main03 h
theorem run (w : World) : HandSHeadRun.RunEq R (PySem.W.view R.prog [43]) hk ob 6000 loose w := by
  intro os
  kernel_rfl
theorem facts {Pg : Program} {w : World} {K : PySem.W.Frag} {h : Heap} {mg : Str → Option Value} {f : Addr} (X : K.In h) (G : h.Ns mainGlobals mg) (hfa : mg ("law" : Str) = some (.ref f)) (c : He.SaysD fa fn K) :
    ∃ fd : FuncData, (∀ (s : Shared) (v : Value), BindsTo s fd ⟨[v], []⟩ [("script", v)]) ∧ ∀ base : Heap, K.In base → base.Ns mainGlobals mg → FnOk Pg w K mg base CX0 12 f fd ["script"] (spF K (fun S => callN tbl S 12) 903 1) := by
  have hF : ∀ d ∈ fds, ∃ fa fd, FnP K d fa fd ∧ mg d.x = some (.ref fa) := by
    exact List.forall_mem_cons.mpr ⟨(c.def_ 0 (d := d_is_whole.dd) rfl).elim fun fd F => ⟨_, fd, F, He.glo_ok X G (c.fact 0 (f := .glo "is_whole") rfl)⟩, List.forall_mem_cons.mpr ⟨(c.def_ 1 (d := d_need_hands.dd) rfl).elim fun fd F => ⟨_, fd, F, He.glo_ok X G (c.fact 1 (f := .glo "need_hands") rfl)⟩, List.forall_mem_cons.mpr ⟨(c.def_ 2 (d := d_good_row.dd) rfl).elim fun fd F => ⟨_, fd, F, He.glo_ok X G (c.fact 2 (f := .glo "good_row") rfl)⟩, List.forall_mem_cons.mpr ⟨(c.def_ 3 (d := d_need_row.dd) rfl).elim fun fd F => ⟨_, fd, F, He.glo_ok X G (c.fact 3 (f := .glo "need_row") rfl)⟩, List.forall_mem_cons.mpr ⟨(c.def_ 4 (d := d_need_two.dd) rfl).elim fun fd F => ⟨_, fd, F, He.glo_ok X G (c.fact 4 (f := .glo "need_two") rfl)⟩, List.forall_mem_cons.mpr ⟨(c.def_ 5 (d := d_signs_of.dd) rfl).elim fun fd F => ⟨_, fd, F, He.glo_ok X G (c.fact 5 (f := .glo "signs_of") rfl)⟩, List.forall_mem_cons.mpr ⟨(c.def_ 6 (d := d_pairs_of.dd) rfl).elim fun fd F => ⟨_, fd, F, He.glo_ok X G (c.fact 6 (f := .glo "pairs_of") rfl)⟩, List.forall_mem_cons.mpr ⟨(c.def_ 7 (d := d_summed.dd) rfl).elim fun fd F => ⟨_, fd, F, He.glo_ok X G (c.fact 7 (f := .glo "summed") rfl)⟩, List.forall_mem_cons.mpr ⟨(c.def_ 8 (d := d_sums_of.dd) rfl).elim fun fd F => ⟨_, fd, F, He.glo_ok X G (c.fact 8 (f := .glo "sums_of") rfl)⟩, List.forall_mem_cons.mpr ⟨(c.def_ 9 (d := d_sums.dd) rfl).elim fun fd F => ⟨_, fd, F, He.glo_ok X G (c.fact 9 (f := .glo "sums") rfl)⟩, List.forall_mem_cons.mpr ⟨(c.def_ 10 (d := d_two_even.dd) rfl).elim fun fd F => ⟨_, fd, F, He.glo_ok X G (c.fact 10 (f := .glo "two_even") rfl)⟩, List.forall_mem_cons.mpr ⟨(c.def_ 11 (d := d_even_of.dd) rfl).elim fun fd F => ⟨_, fd, F, He.glo_ok X G (c.fact 11 (f := .glo "even_of") rfl)⟩, List.forall_mem_cons.mpr ⟨(c.def_ 12 (d := d_is_even.dd) rfl).elim fun fd F => ⟨_, fd, F, He.glo_ok X G (c.fact 12 (f := .glo "is_even") rfl)⟩, List.forall_mem_cons.mpr ⟨(c.def_ 13 (d := d_evenness.dd) rfl).elim fun fd F => ⟨_, fd, F, He.glo_ok X G (c.fact 13 (f := .glo "evenness") rfl)⟩, List.forall_mem_cons.mpr ⟨(c.def_ 14 (d := d_law_cell_at.dd) rfl).elim fun fd F => ⟨_, fd, F, He.glo_ok X G (c.fact 14 (f := .glo "_law_cell_at") rfl)⟩, List.forall_mem_cons.mpr ⟨(c.def_ 15 (d := d_law_mixed.dd) rfl).elim fun fd F => ⟨_, fd, F, He.glo_ok X G (c.fact 15 (f := .glo "_law_mixed") rfl)⟩, List.forall_mem_cons.mpr ⟨(c.def_ 16 (d := d_law_draw.dd) rfl).elim fun fd F => ⟨_, fd, F, He.glo_ok X G (c.fact 16 (f := .glo "_law_draw") rfl)⟩, List.forall_mem_cons.mpr ⟨(c.def_ 17 (d := d_law_same_number.dd) rfl).elim fun fd F => ⟨_, fd, F, He.glo_ok X G (c.fact 17 (f := .glo "_law_same_number") rfl)⟩, List.forall_mem_cons.mpr ⟨(c.def_ 18 (d := d_law_same_truth.dd) rfl).elim fun fd F => ⟨_, fd, F, He.glo_ok X G (c.fact 18 (f := .glo "_law_same_truth") rfl)⟩, List.forall_mem_cons.mpr ⟨(c.def_ 19 (d := d_law_some_row.dd) rfl).elim fun fd F => ⟨_, fd, F, He.glo_ok X G (c.fact 19 (f := .glo "_law_some_row") rfl)⟩, List.forall_mem_cons.mpr ⟨(c.def_ 20 (d := d_law_order_of.dd) rfl).elim fun fd F => ⟨_, fd, F, He.glo_ok X G (c.fact 20 (f := .glo "_law_order_of") rfl)⟩, List.forall_mem_cons.mpr ⟨(c.def_ 21 (d := d_law_rest.dd) rfl).elim fun fd F => ⟨_, fd, F, He.glo_ok X G (c.fact 21 (f := .glo "_law_rest") rfl)⟩, List.forall_mem_cons.mpr ⟨(c.def_ 22 (d := d_law_put.dd) rfl).elim fun fd F => ⟨_, fd, F, He.glo_ok X G (c.fact 22 (f := .glo "_law_put") rfl)⟩, List.forall_mem_cons.mpr ⟨(c.def_ 23 (d := d_law_even_row.dd) rfl).elim fun fd F => ⟨_, fd, F, He.glo_ok X G (c.fact 23 (f := .glo "_law_even_row") rfl)⟩, List.forall_mem_cons.mpr ⟨(c.def_ 24 (d := d_law_near_even.dd) rfl).elim fun fd F => ⟨_, fd, F, He.glo_ok X G (c.fact 24 (f := .glo "_law_near_even") rfl)⟩, List.forall_mem_cons.mpr ⟨(c.def_ 25 (d := d_law_signs_so.dd) rfl).elim fun fd F => ⟨_, fd, F, He.glo_ok X G (c.fact 25 (f := .glo "_law_signs_so") rfl)⟩, List.forall_mem_cons.mpr ⟨(c.def_ 26 (d := d_law_sums_so.dd) rfl).elim fun fd F => ⟨_, fd, F, He.glo_ok X G (c.fact 26 (f := .glo "_law_sums_so") rfl)⟩, List.forall_mem_cons.mpr ⟨(c.def_ 27 (d := d_law_power.dd) rfl).elim fun fd F => ⟨_, fd, F, He.glo_ok X G (c.fact 27 (f := .glo "_law_power") rfl)⟩, List.forall_mem_cons.mpr ⟨(c.def_ 28 (d := d_law_moments_so.dd) rfl).elim fun fd F => ⟨_, fd, F, He.glo_ok X G (c.fact 28 (f := .glo "_law_moments_so") rfl)⟩, List.forall_mem_cons.mpr ⟨(c.def_ 29 (d := d_law_even_so.dd) rfl).elim fun fd F => ⟨_, fd, F, He.glo_ok X G (c.fact 29 (f := .glo "_law_even_so") rfl)⟩, List.forall_mem_cons.mpr ⟨(c.def_ 30 (d := d_law_pairs.dd) rfl).elim fun fd F => ⟨_, fd, F, He.glo_ok X G (c.fact 30 (f := .glo "_law_pairs") rfl)⟩, List.forall_mem_cons.mpr ⟨(c.def_ 31 (d := d_law.dd) rfl).elim fun fd F => ⟨_, fd, F, He.glo_ok X G (c.fact 31 (f := .glo "law") rfl)⟩, fun _ h => nomatch h⟩⟩⟩⟩⟩⟩⟩⟩⟩⟩⟩⟩⟩⟩⟩⟩⟩⟩⟩⟩⟩⟩⟩⟩⟩⟩⟩⟩⟩⟩⟩⟩
  have hblt : ∀ x ∈ P.blt, mg x = none := by
    exact List.forall_mem_cons.mpr ⟨He.free_ok X G (c.fact 32 (f := .free "isinstance") rfl), List.forall_mem_cons.mpr ⟨He.free_ok X G (c.fact 33 (f := .free "int") rfl), List.forall_mem_cons.mpr ⟨He.free_ok X G (c.fact 34 (f := .free "bool") rfl), List.forall_mem_cons.mpr ⟨He.free_ok X G (c.fact 35 (f := .free "tuple") rfl), List.forall_mem_cons.mpr ⟨He.free_ok X G (c.fact 36 (f := .free "all") rfl), List.forall_mem_cons.mpr ⟨He.free_ok X G (c.fact 37 (f := .free "len") rfl), List.forall_mem_cons.mpr ⟨He.free_ok X G (c.fact 38 (f := .free "range") rfl), List.forall_mem_cons.mpr ⟨He.free_ok X G (c.fact 39 (f := .free "min") rfl), List.forall_mem_cons.mpr ⟨He.free_ok X G (c.fact 40 (f := .free "list") rfl), List.forall_mem_cons.mpr ⟨He.free_ok X G (c.fact 41 (f := .free "sum") rfl), fun _ h => nomatch h⟩⟩⟩⟩⟩⟩⟩⟩⟩⟩
  have hgls : ∀ q ∈ P.gls, q.2.sc = true ∧ ∃ u v, mg q.1 = some u ∧ RelV v u ∧ ∀ sa ph A H, Rep sa ph A H v q.2 := by
    exact List.forall_mem_cons.mpr ⟨⟨rfl, (He.int_ok X G (c.fact 42 (f := .int "LONG" 64) rfl)).elim fun t e => ⟨_, .int 64, e, ⟨t, rfl⟩, fun _ _ _ _ => .int _⟩⟩, List.forall_mem_cons.mpr ⟨⟨rfl, (He.int_ok X G (c.fact 43 (f := .int "MOST" 9) rfl)).elim fun t e => ⟨_, .int 9, e, ⟨t, rfl⟩, fun _ _ _ _ => .int _⟩⟩, fun _ h => nomatch h⟩⟩
  obtain ⟨fd, F⟩ := c.def_ 31 (d := d_law.dd) rfl
  have e := hfa.symm.trans (He.glo_ok X G (c.fact 31 (f := .glo "law") rfl))
  cases e
  have b := FunD.bindsA (ps := ["script"]) F b_law
  exact ⟨fd, fun s v => b s [v] rfl, fun base _ _ => prog_ok fds rfl (List.all_eq_true.mp ck) binds hF hblt (fun x d h => hgls (x, d) (lookup_mem h)) 12 d_law (List.mem_of_getElem? (i := 31) rfl) _ fd F⟩
end Ev.K03
open PySem PySem.W PySem.Calls PyProof.Rows in
theorem PySem.Challenge.cw_evenrows_k03_whole_sums_holds : PySem.Challenge.rw_evenrows_k03_whole_sums.Holds := by
  w_on; o_law
  refine HandSHeadRun.head_any (r := OpenLaw.row PySem.Challenge.rw_evenrows_k03_whole_sums) (q := view (OpenLaw.row PySem.Challenge.rw_evenrows_k03_whole_sums).prog [43]) (H := Ev.K03.hk) (ob := Ev.K03.ob) (M := 6000) (loose := Ev.K03.loose) (d := HandSHeadRun.topDef (OpenLaw.row PySem.Challenge.rw_evenrows_k03_whole_sums).prog 43) (kwd := []) Ev.K03.ob_eq
    (by kernel_rfl) (fun s => by kernel_rfl) Ev.K03.run (by kernel_rfl) (by kernel_rfl) (by kernel_rfl) (by rfl) (by first | assumption | decide +kernel) (by decide +kernel) ⟨rfl, rfl, rfl, rfl, rfl, by decide +kernel⟩ ?hw ?hc
  case hw => w_witness2
  case hc =>
    refine L2.walk_ofE (l := PySem.Challenge.rw_evenrows_k03_whole_sums) (n := 63) (k := 12) (x := "script") (CX := L2.CX0) rfl (by decide) (by kernel_rfl) ⟨rfl, by decide, by decide⟩ ?F (fun _ _ _ _ z => z)
    intro w mg fa h Y G hmg0
    obtain ⟨K, KX, c⟩ := Y
    have hmg : mg ("law" : PySem.Str) = some (.ref fa) := by
      have e : (HandSHeadRun.topDef (OpenLaw.row PySem.Challenge.rw_evenrows_k03_whole_sums).prog 43).name = ("law" : PySem.Str) := by kernel_rfl
      rw [← e]
      exact hmg0
    obtain ⟨fd, hb, hF⟩ := Ev.K03.facts (Pg := (PySem.Challenge.rw_evenrows_k03_whole_sums).prog) (w := w) KX G hmg c
    refine ⟨K, fd, _, KX, hb, fun H a ns hl ho hS => ?_, hF⟩
    obtain ⟨μ, ev⟩ := Ev.K03.main ns hl
    exact Ev.law_sp ho hS ev
