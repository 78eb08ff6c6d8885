import PyProof.Rows.All
import Wide.All
import OpenK.AllK
import Wide.FinOn
import HandS.Words
import HandS.Head0
import HandS.Head1
import HandS.Head2
import HandS.HeadEnd
import HandS.HeadHook1
import HandS.HeadHook2
import HandS.ForMost
import KE.DataMinMax
import HandS.Zip
import HandS.TupAny
import HandS.TupMul
import HandS.Style
import HandS.IsInst
import HandS.Defaults
import HandS.Conv
import HandS.SortInts
import KE.KTupSum
import KE.GoesEnum
import HandS.Exc
import HandS.NoneIn
import HandS.Deep
import HandS.CallSlots
import HandS.OwnEq
import HandS.ExcOwn
import HandS.WordsExc
import HandS.HotCalls
import HandS.ExcIs
import HandS.MakeKwOnly
import PySem.Challenge.RW_evenrows_k25_tables_refused
set_option Elab.async false
set_option linter.all false
set_option maxRecDepth 100000
set_option maxHeartbeats 4000000
namespace Ev
open PySem L2 PyProof.Rows
/-! ### what the head's run needs -/
def entI (e : DictEntry) : Option (Int × Int × Int) := match e.key, e.val with
  | .int k _, .int v _ => some (k, e.hash, v)
  | _, _ => none
def whNms : List Str := ["NoHands", "NoRow", "NoHand", "NoWorths", "NoOrder", "NoBound", "NotEven", "TooLong", "NoDegree", "NoPlaces", "NoText", "Done", "Nothing"]
structure FDef where
  x : Str
  id : Nat
  N : List Str
  ps : List Str
  dk : Option (Str × Int)
  st : Stmt
  kx : Bool
  mt : Bool := false
def tabC (K : PySem.W.Frag) : Addr := He.ga K "Table"
/-- the def's own name: not the global's where the top binds it once more -/
def FDef.nm (d : FDef) : Str := match d.st with
  | .FunctionDef n _ _ _ _ _ _ _ _ _ => n
  | _ => d.x
def FDef.kwd (d : FDef) : List (Str × He.Dv) := match d.dk with
  | none => []
  | some (k, v) => [(k, .int v)]
def FDef.kws (d : FDef) : List (Str × V) := match d.dk with
  | none => []
  | some (k, v) => [(k, .int v)]
def FDef.qual (d : FDef) : Str := if d.mt then ("Table." : Str) ++ d.nm else d.nm
def FDef.at_ (d : FDef) : Str × Option Str := if d.mt then (("Table" : Str), some d.x) else (d.x, none)
def FDef.dd (d : FDef) : He.DefD := ⟨d.at_, d.nm, d.qual, defArgs d.st, defBody d.st, defScope d.st, [], d.kwd⟩
/-! ### a Hook with one more look -/
def hookB (n : Nat) (fa : List He.Fa) (fn : List He.DefD) (B : PySem.W.Frag → Bool) : PySem.W.Hook where
  α := He.AlD × Bool
  obs := fun s => (He.obsD fa fn (He.frG s.heap.get? (He.asD s.heap.get? n)), B (He.frG s.heap.get? (He.asD s.heap.get? n)))
  val := fun _ => (He.valD fn, true)
  says := fun _ h => ∃ K : PySem.W.Frag, K.In h ∧ He.SaysD fa fn K ∧ B K = true
  of := fun _ _ e => ⟨_, He.frG_in, (Prod.mk.inj e).1, (Prod.mk.inj e).2⟩
  keeps := fun _ _ _ ⟨K, hK, c⟩ k => ⟨K, PySem.W.Frag.In.keeps hK k, c⟩
def obsBG (n : Nat) (fa : List He.Fa) (fn : List He.DefD) (B : PySem.W.Frag → Bool) (g : Addr → Option Obj) : He.AlD × Bool := (He.obsD fa fn (He.frG g (He.asD g n)), B (He.frG g (He.asD g n)))
theorem obsBG_eq {n : Nat} {fa : List He.Fa} {fn : List He.DefD} {B : PySem.W.Frag → Bool} {g : Addr → Option Obj} {s : Shared} (h : ∀ a, g a = s.heap.get? a) : obsBG n fa fn B g = (hookB n fa fn B).obs s := by
  have e : g = s.heap.get? := funext h
  rw [e]
  rfl
def entsB (es : List (Option (Int × Int × Int))) (kvs : List (Int × Int)) : Bool := decide (es = kvs.map fun p => some (p.1, hashInt p.1, p.2))
def dctB (K : PySem.W.Frag) (q : Str × List (Int × Int)) : Bool := match K.lookup (He.ga K q.1) with
  | some ⟨.type c, none, .dict es _, sl⟩ => decide (c = "dict") && (sl.isEmpty && entsB (es.toList.map entI) q.2)
  | _ => false
def ovB (a b : Option (Option Value)) : Bool := decide (a = b)
def excCB (K : PySem.W.Frag) (D : Addr) : Bool :=
  ovB (PySem.W.findIn K (.ref D) "__getattribute__") (some (some (.builtin "BaseException.__getattribute__"))) && (ovB (PySem.W.findIn K (.ref D) "__getattr__") (some none) && (decide (PySem.W.subIn K (.ref D) (.type "BaseException") = some true) && (PySem.W.hasDictIn K D && (ovB (PySem.W.findIn K (.ref D) "__class__") (some (some (.builtin "object.__class__"))) &&
    (ovB (PySem.W.specialIn K (.builtin "object.__class__") "__get__") (some (some (.builtin "getset_descriptor.__get__"))) && (decide (PySem.W.takesIn K (.builtin "object.__class__") = some true) && decide (PySem.W.mroIn K D (.type "object") = some true)))))))
def whB (K : PySem.W.Frag) : Bool := whNms.all fun x => excCB K (He.ga K x) && (decide (PySem.W.kitOne K (.ref (He.ga K x)) (.type "ValueError") = some true) && (decide (PySem.W.exmOne K (.ref (He.ga K x)) (.ref (He.ga K "TurnError")) = some true) && whNms.all fun y => decide (PySem.W.kitOne K (.ref (He.ga K x)) (.ref (He.ga K y)) = some (y == x))))
/-- the class of the instances -/
def tabB (K : PySem.W.Frag) : Bool :=
  ovB (PySem.W.findIn K (.ref (tabC K)) "__class__") (some (some (.builtin "object.__class__"))) && (ovB (PySem.W.specialIn K (.builtin "object.__class__") "__get__") (some (some (.builtin "getset_descriptor.__get__"))) && (decide (PySem.W.takesIn K (.builtin "object.__class__") = some true) &&
    (decide (PySem.W.mroIn K (tabC K) (.type "object") = some true) && (decide (PySem.W.kitOne K (.ref (tabC K)) (.ref (tabC K)) = some true) && (decide (PySem.W.kitOne K (.type "str") (.ref (tabC K)) = some false) && decide (PySem.W.subIn K (.type "str") (.ref (tabC K)) = some false))))))
end Ev

set_option Elab.async false
set_option linter.all false
set_option maxRecDepth 100000
set_option maxHeartbeats 0
namespace Ev.K25
open PySem PySem.Spec L2 PyProof.Rows
def top (i : Nat) : Stmt := PySem.Challenge.pw_evenrows_k25_tables_refused.main.body.getD i (.Pass ⟨0, 0, 0, 0⟩)
def d_is_whole : FDef := ⟨"is_whole", 0, ["thing", "low", "high"], ["thing", "low", "high"], none, top 18, false, false⟩
def d_is_any_whole : FDef := ⟨"is_any_whole", 6, ["thing"], ["thing"], none, top 19, false, false⟩
def d_need_hands : FDef := ⟨"need_hands", 2, ["hands"], ["hands"], none, top 20, true, false⟩
def d_good_row : FDef := ⟨"good_row", 1, ["hands", "thing", "one"], ["hands", "thing"], none, top 21, false, false⟩
def d_need_row : FDef := ⟨"need_row", 3, ["hands", "row"], ["hands", "row"], none, top 22, true, false⟩
def d_need_two : FDef := ⟨"need_two", 5, ["hands", "row", "one", "other"], ["hands", "row", "one", "other"], none, top 23, true, false⟩
def d_signs_of : FDef := ⟨"signs_of", 4, ["row", "one", "other", "hand"], ["row", "one", "other"], none, top 24, false, false⟩
def d_are_places : FDef := ⟨"are_places", 68, ["row", "one", "other"], ["row", "one", "other"], none, top 28, false, false⟩
def d_exchange_of : FDef := ⟨"exchange_of", 67, ["row", "one", "other", "made"], ["row", "one", "other"], none, top 29, false, false⟩
def d_differences_of : FDef := ⟨"differences_of", 20, ["worths", "order", "made", "turn", "one", "later"], ["worths", "order"], none, top 31, false, false⟩
def d_go_on : FDef := ⟨"go_on", 80, ["worths", "places", "order", "made", "place", "later", "step"], ["worths", "places", "order"], none, top 33, false, false⟩
def d_need_count : FDef := ⟨"need_count", 79, ["worths", "order"], ["worths", "order"], none, top 34, true, false⟩
def d_need_reach : FDef := ⟨"need_reach", 81, ["worths", "order", "bound"], ["worths", "order", "bound"], none, top 35, true, false⟩
def d_tails_of : FDef := ⟨"tails_of", 82, ["numbers", "order", "made", "turn", "total", "later", "one"], ["numbers", "order"], none, top 36, false, false⟩
def d_foreseen_of : FDef := ⟨"foreseen_of", 83, ["row", "told", "one", "other", "order", "bound", "signs", "worths", "lead", "sign", "worth", "far", "tail"], ["row", "told", "one", "other", "order", "bound"], none, top 37, false, false⟩
def d_law_same_truth : FDef := ⟨"_law_same_truth", 25, ["got", "due"], ["got", "due"], none, top 42, false, false⟩
def d_law_ask : FDef := ⟨"_law_ask", 105, ["what", "table", "one", "two", "three", "four", "e"], ["what", "table", "one", "two", "three", "four"], none, top 44, false, false⟩
def d_law_through : FDef := ⟨"_law_through", 104, ["table", "one", "other", "worth", "again"], ["table"], none, top 45, false, false⟩
def d_law : FDef := ⟨"law", 925, ["script", "town", "table", "off", "one", "other"], ["script"], none, top 46, false, false⟩
def d_Table___init__ : FDef := ⟨"__init__", 130, ["self", "hands", "row"], ["self", "hands", "row"], none, inClass (top 40) 0, false, true⟩
def d_Table_call : FDef := ⟨"call", 133, ["self", "name", "how"], ["self", "name", "how"], none, inClass (top 40) 1, false, true⟩
def d_Table_tell : FDef := ⟨"tell", 126, ["self", "worth", "row", "told"], ["self", "worth"], none, inClass (top 40) 2, true, true⟩
def d_Table_exchange : FDef := ⟨"exchange", 127, ["self", "one", "other", "row", "told"], ["self", "one", "other"], none, inClass (top 40) 3, true, true⟩
def d_Table_worths : FDef := ⟨"worths", 132, ["self"], ["self"], none, inClass (top 40) 5, false, true⟩
def d_Table_row : FDef := ⟨"row", 128, ["self"], ["self"], none, inClass (top 40) 6, false, true⟩
def d_Table_next : FDef := ⟨"next", 131, ["self", "row", "told"], ["self"], none, inClass (top 40) 7, false, true⟩
def d_Table_foresee : FDef := ⟨"foresee", 125, ["self", "one", "other", "order", "bound", "row", "told"], ["self", "one", "other", "order", "bound"], some ("bound", 1), inClass (top 40) 9, true, true⟩
def d_Table_back : FDef := ⟨"back", 124, ["self"], ["self"], none, inClass (top 40) 10, true, true⟩
def d_Table___eq__ : FDef := ⟨"__eq__", 129, ["self", "other"], ["self", "other"], none, inClass (top 40) 12, false, true⟩
def fds : List FDef := [d_is_whole, d_is_any_whole, d_need_hands, d_good_row, d_need_row, d_need_two, d_signs_of, d_are_places, d_exchange_of, d_differences_of, d_go_on, d_need_count, d_need_reach, d_tails_of, d_foreseen_of, d_law_same_truth, d_law_ask, d_law_through, d_law, d_Table___init__, d_Table_call, d_Table_tell, d_Table_exchange, d_Table_worths, d_Table_row, d_Table_next, d_Table_foresee, d_Table_back, d_Table___eq__]
def dcts : List (Str × List (Int × Int)) := []
def d_which : FDef := ⟨"_law_which", 0, ["e", "own"], ["e"], none, top 43, false, false⟩
def fa : List He.Fa := [.glo "is_whole", .glo "is_any_whole", .glo "need_hands", .glo "good_row", .glo "need_row", .glo "need_two", .glo "signs_of", .glo "are_places", .glo "exchange_of", .glo "differences_of", .glo "go_on", .glo "need_count", .glo "need_reach", .glo "tails_of", .glo "foreseen_of", .glo "_law_same_truth", .glo "_law_ask", .glo "_law_through", .glo "law", .meth "Table" "__init__", .meth "Table" "call", .meth "Table" "tell", .meth "Table" "exchange", .meth "Table" "worths", .meth "Table" "row", .meth "Table" "next", .meth "Table" "foresee", .meth "Table" "back", .meth "Table" "__eq__", .free "isinstance", .free "int", .free "bool", .free "tuple", .free "all", .free "len", .free "list", .free "range", .free "zip", .free "min", .free "sum", .free "abs", .free "ValueError", .int "LONG" 64, .int "ORDERS" 4, .int "BOUND" 99, .glo "NoHands", .exc "NoHands", .glo "NoRow", .exc "NoRow", .glo "NoHand", .exc "NoHand", .glo "NoOrder", .exc "NoOrder", .glo "NoBound", .exc "NoBound", .glo "Done", .exc "Done", .glo "NoWorths", .exc "NoWorths", .glo "NoPlaces", .exc "NoPlaces", .glo "Nothing", .exc "Nothing", .glo "TurnError", .glo "NoHands", .glo "NoRow", .glo "NoHand", .glo "NoWorths", .glo "NoOrder", .glo "NoBound", .glo "NotEven", .glo "TooLong", .glo "NoDegree", .glo "NoPlaces", .glo "NoText", .glo "Done", .glo "Nothing", .glo "_law_which", .glo "Table", .cls "Table", .noat "Table" "hands", .noat "Table" "how", .noat "Table" "past", .noat "Table" "calls", .mkr "Table"]
def fn : List He.DefD := fds.map FDef.dd ++ [d_which.dd]
def ln0 : List Str := ["_wall", "TurnError", "NoHands", "NoRow", "NoHand", "NoWorths", "NoOrder", "NoBound", "NotEven", "TooLong", "NoDegree", "NoPlaces", "NoText", "Done", "Nothing", "LONG", "is_whole", "is_any_whole", "need_hands", "good_row"]
def ln1 : List Str := ["need_row", "need_two", "signs_of", "ORDERS", "BOUND", "are_places", "exchange_of", "differences_of", "go_on", "need_count", "need_reach", "tails_of", "foreseen_of", "LETTERS", "Table", "_law_same_truth", "_law_which", "_law_ask", "_law_through"]
abbrev loose : List Str := ln0 ++ ln1
abbrev R : PySem.W.OpenRow := PySem.W.OpenLaw.row PySem.Challenge.rw_evenrows_k25_tables_refused
def lookB (K : PySem.W.Frag) : Bool := dcts.all (dctB K) && (whB K && tabB K)
abbrev hk : PySem.W.Hook := hookB 4 fa fn lookB
def ob (s : PySem.W.SharedT) : He.AlD × Bool := obsBG 4 fa fn lookB (HandSHeadRun.getT s)
theorem ob_eq (s : PySem.W.SharedT) : ob s = hk.obs s.abs := obsBG_eq (HandSHeadRun.getT_eq s)
theorem run_f (w : World) : (fun w : World => HandSHeadRun.RunEq R (PySem.W.view R.prog [46]) hk ob 8000 loose w) (w.withFollow "special-get-raises" false) := by intro os; kernel_rfl
theorem run_t (w : World) : (fun w : World => HandSHeadRun.RunEq R (PySem.W.view R.prog [46]) hk ob 8000 loose w) (w.withFollow "special-get-raises" true) := by intro os; kernel_rfl
theorem run (w : World) : HandSHeadRun.RunEq R (PySem.W.view R.prog [46]) hk ob 8000 loose w := PySem.W.byRow2 "special-get-raises" (P := fun w => HandSHeadRun.RunEq R (PySem.W.view R.prog [46]) hk ob 8000 loose w) run_f run_t w
end Ev.K25
set_option Elab.async false
set_option linter.all false
set_option maxRecDepth 100000
set_option maxHeartbeats 4000000
namespace Ev
open PySem

/-! ### plain data -/
inductive D where
  | non | bl (b : Bool) | int (i : Int) | str (s : Str)
  | tup (ds : List D) | lst (ds : List D)
  | scr | mref (n : Nat)
  deriving Inhabited

def D.sc : D → Bool
  | .non | .bl _ | .int _ | .str _ => true
  | _ => false
def D.isL : D → Bool
  | .lst _ => true
  | _ => false
/-- scalars alone, or a list of scalars -/
def D.flat : D → Bool
  | .lst ds => ds.all D.sc
  | d => d.sc

mutual
def deq : D → D → Bool
  | .non, .non => true
  | .bl a, .bl b => a == b
  | .bl a, .int j => (if a then 1 else 0) == j
  | .int i, .bl b => i == (if b then 1 else 0)
  | .int i, .int j => i == j
  | .str x, .str y => x == y
  | .lst xs, .lst ys => deqs xs ys
  | .tup xs, .tup ys => deqs xs ys
  | _, _ => false
def deqs : List D → List D → Bool
  | [], [] => true
  | x :: xs, y :: ys => deq x y && deqs xs ys
  | _, _ => false
end
mutual
/-- no list within, nor the script -/
def nol : D → Bool
  | .tup ds => nols ds
  | .lst _ => false
  | .scr => false
  | _ => true
def nols : List D → Bool
  | [] => true
  | d :: ds => nol d && nols ds
end
/-- comparable data: no script, no object; at most n deep; texts within the line -/
def sh : Nat → D → Bool
  | _, .non => true
  | _, .bl _ => true
  | _, .int _ => true
  | _, .str x => PySem.PyData.strOk x
  | n + 1, .lst ds => ds.all (sh n)
  | n + 1, .tup ds => ds.all (sh n)
  | _, _ => false

/-! ### the store and the monad -/
/-- an object: a list; an instance with its attributes -/
inductive MO where
  | lst (ds : List D)
  | ins (fs : List (Str × D))
  deriving Inhabited
abbrev Mu := List MO
inductive R (α : Type) where
  | ok (a : α) (μ : Mu)
  | ex (c : Nat) (μ : Mu)
  | bad
def M (α : Type) := Mu → R α
namespace M
variable {α β : Type}
def ret (a : α) : M α := fun μ => .ok a μ
def bnd (x : M α) (f : α → M β) : M β := fun μ => match x μ with
  | .ok a μ' => f a μ'
  | .ex c μ' => .ex c μ'
  | .bad => .bad
def no : M α := fun _ => .bad
def err (c : Nat) : M α := fun μ => .ex c μ
/-- what is raised becomes a value -/
def grab (x : M α) (f : Nat → Option α) : M α := fun μ => match x μ with
  | .ok a μ' => .ok a μ'
  | .ex c μ' => (match f c with
    | some a => .ok a μ'
    | none => .bad)
  | .bad => .bad
def opt : Option α → M α
  | some a => ret a
  | none => no
end M
instance : Monad M where
  pure := M.ret
  bind := M.bnd
instance : LawfulMonad M := LawfulMonad.mk' M
  (id_map := fun x => by
    funext μ
    show M.bnd x (fun a => M.ret a) μ = x μ
    unfold M.bnd
    cases x μ <;> rfl)
  (pure_bind := fun a f => rfl)
  (bind_assoc := fun x f g => by
    funext μ
    show M.bnd (M.bnd x f) g μ = M.bnd x (fun a => M.bnd (f a) g) μ
    unfold M.bnd
    cases x μ <;> rfl)
  (bind_pure_comp := fun f x => rfl)
theorem bind_ok {α β : Type} {x : M α} {f : α → M β} {μ μ' : Mu} {b : β} (h : (x >>= f) μ = .ok b μ') : ∃ a μ1, x μ = .ok a μ1 ∧ f a μ1 = .ok b μ' := by
  have h : M.bnd x f μ = .ok b μ' := h
  unfold M.bnd at h
  cases e : x μ with
  | ok a μ1 => rw [e] at h; exact ⟨a, μ1, rfl, h⟩
  | ex c μ1 => rw [e] at h; cases h
  | bad => rw [e] at h; cases h
theorem pure_ok {α : Type} {a b : α} {μ μ' : Mu} (h : (pure a : M α) μ = .ok b μ') : a = b ∧ μ = μ' := by
  have h : (R.ok a μ : R α) = .ok b μ' := h
  cases h
  exact ⟨rfl, rfl⟩
theorem opt_ok {α : Type} {o : Option α} {b : α} {μ μ' : Mu} (h : M.opt o μ = .ok b μ') : o = some b ∧ μ = μ' := by
  cases o with
  | none => cases h
  | some a => cases h; exact ⟨rfl, rfl⟩

/-! ### the language -/
inductive BOp where
  | add | sub | mul | fdiv | mod | pow
  deriving DecidableEq
inductive COp where
  | eq | ne | lt | le | gt | ge
  deriving DecidableEq
inductive B1 where
  | len | sum | abs | list | tuple | int | all | sorted | min | max | minT | minP
  deriving DecidableEq
inductive Ty where
  | int | bool | str | tuple | list
  deriving DecidableEq
inductive IsC where
  | non | tru | fls
  deriving DecidableEq
inductive Tg where
  | one (i : Nat)
  | many (is : List Nat)
  deriving DecidableEq
mutual
inductive IE where
  | non | bl (b : Bool) | int (i : Int) | str (s : Str)
  | var (i : Nat)
  | glob (x : Str) (d : D)
  | bin (o : BOp) (a b : IE)
  | neg (a : IE) | not (a : IE)
  | cmp (o : COp) (a b : IE)
  | chain (o o' : COp) (a b c : IE)
  | isC (n : Bool) (c : IsC) (a : IE)
  | andL (es : IEs) | orL (es : IEs)
  | ite (c a b : IE)
  | tup (es : IEs) | lst (es : IEs)
  | idx (a i : IE)
  | slice (a : IE) (lo hi : IO)
  | rev (a : IE)
  | call (f : Nat) (es : IEs)
  | callD (f : Nat) (es : IEs) (d : D)
  | callF (f : Nat) (a : IE) (es : IEs)
  | nin (a b : IE)
  | callK (f : Nat) (es : IEs) (k : Str) (e : IE)
  | callL (fs : List (Str × Nat × Option Int)) (i : IE) (es : IEs)
  | make (f : Nat) (es : IEs)
  | fld (a : Nat) (x : Str)
  | meth (f : Nat) (m : Str) (a : Nat) (es : IEs)
  | methD (f : Nat) (m : Str) (a : Nat) (es : IEs) (d : D)
  | methK (f : Nat) (m : Str) (a : Nat) (es : IEs) (k : Str) (e : IE)
  | popF (a : Nat) (x : Str)
  | nilF (a : Nat) (x : Str)
  | isiT (a : IE)
  | eqM (f : Nat) (a b : IE)
  | callLK (fs : List (Str × Nat × Option Int)) (i : IE) (es : IEs) (k : Str) (e : IE)
  | b1 (o : B1) (a : IE)
  | mm (mx : Bool) (a b : IE)
  | isi (t : Ty) (a : IE)
  | lrange (a : IE)
  | gidx (x : Str) (kvs : List (Int × Int)) (i : IE)
  | lcount (x : Nat) (b : IE)
  | lindex (x : Nat) (b : IE)
  | dget (kvs : IEs) (k d : IE)
  | didx (kvs : IEs) (k : IE)
  | comp (vs : List Nat) (tg : Tg) (it : IT) (cond : IO) (elt : IE)
  | comp2 (vs vs1 : List Nat) (tg : Tg) (it : IT) (tg1 : Tg) (it1 : IT) (elt : IE)
inductive IEs where
  | nil
  | cons (e : IE) (es : IEs)
inductive IO where
  | none
  | some (e : IE)
inductive IT where
  | seq (a : IE)
  | rng1 (a : IE)
  | rng2 (a b : IE)
  | zip (a b : IE)
  | enum (a : IE)
end
mutual
inductive IS where
  | assign (i : Nat) (e : IE)
  | newRef (i : Nat)
  | unpack (is : List Nat) (e : IE)
  | par (i j : Nat) (a b : IE)
  | setIdx (x : Nat) (k e : IE)
  | swap2 (x : Nat) (k1 k2 e1 e2 : IE)
  | aug (i : Nat) (e : IE)
  | augIdx (x : Nat) (k e : IE)
  | append (x : Nat) (e : IE)
  | extend (x : Nat) (e : IE)
  | appPop (x y : Nat) (e : IE)
  | expr (e : IE)
  | ite (c : IE) (a b : ISs)
  | for_ (tg : Tg) (it : IT) (body : ISs)
  | while_ (n : Nat) (c : IE) (body : ISs)
  | ret (e : IE)
  | raise (c : Nat)
  | cont
  | stuck
  | opq (i : Nat)
  | setF (a : Nat) (x : Str) (e : IE)
  | newF (a : Nat) (x : Str)
  | appF (a : Nat) (x : Str) (e : IE)
  | tryW (i : Nat) (body : ISs)
inductive ISs where
  | nil
  | cons (s : IS) (ss : ISs)
end
structure Fn where
  params : Nat
  slots : Nat
  body : ISs

/-! ### operations on data -/
def binD : BOp → D → D → Option D
  | .add, .int i, .int j => some (.int (i + j))
  | .add, .tup xs, .tup ys => if xs.length + ys.length ≤ 1000000 then some (.tup (xs ++ ys)) else none
  | .add, .lst xs, .lst ys => if xs.length + ys.length ≤ 1000000 then some (.lst (xs ++ ys)) else none
  | .sub, .int i, .int j => some (.int (i - j))
  | .mul, .int i, .int j => if (-(2 ^ 64) < i ∧ i < 2 ^ 64) ∨ (-(2 ^ 64) < j ∧ j < 2 ^ 64) then some (.int (i * j)) else none
  | .mul, .lst xs, .int k => if 0 ≤ k ∧ k ≤ 1000 ∧ xs.length ≤ 1000 then some (.lst (List.replicate k.toNat xs).flatten) else none
  | .mul, .tup xs, .int k => if xs ≠ [] ∧ 1 ≤ k ∧ k ≤ 1000 ∧ xs.length ≤ 1000 then some (.tup (List.replicate k.toNat xs).flatten) else none
  | .fdiv, .int i, .int j => if 0 < j ∧ j < 1073741824 then some (.int (i / j)) else none
  | .mod, .int i, .int j => if 0 < j then some (.int (i % j)) else none
  | .pow, .int i, .int j => if 0 ≤ j ∧ j ≤ 1000000 ∧ i.natAbs < 2 ^ 64 then some (.int (i ^ j.toNat)) else none
  | _, _, _ => none
def negD : D → Option D
  | .int i => some (.int (-i))
  | _ => none
def ordI : COp → Int → Int → Bool
  | .lt, i, j => decide (i < j)
  | .le, i, j => decide (i ≤ j)
  | .gt, i, j => decide (j < i)
  | .ge, i, j => decide (j ≤ i)
  | .eq, i, j => decide (i = j)
  | .ne, i, j => !decide (i = j)
/-- comparisons; the script alone with a list that is written empty -/
def cmpD (S : List Int) : COp → D → D → Option D
  | .eq, .scr, .lst [] => some (.bl S.isEmpty)
  | .eq, a, b => if sh 8 a && sh 8 b then some (.bl (deq a b)) else none
  | .ne, a, b => if sh 8 a && sh 8 b then some (.bl (!deq a b)) else none
  | o, .int i, .int j => some (.bl (ordI o i j))
  | _, _, _ => none
def ninD (x y : D) : Option D := match y with
  | .lst ds => if sh 8 x && sh 8 (.lst ds) then some (.bl (!ds.any fun z => deq z x)) else none
  | _ => none
def isD : Bool → IsC → D → Option D
  | n, .non, .scr => some (.bl n)
  | n, .non, d => some (.bl (match d with | .non => !n | _ => n))
  | n, .tru, .bl b => some (.bl (if n then !b else b))
  | n, .fls, .bl b => some (.bl (if n then b else !b))
  | _, _, _ => none
def truth : D → Option Bool
  | .bl b => some b
  | _ => none
def items : D → Option (List D)
  | .lst xs => some xs
  | .tup xs => some xs
  | _ => none
def intsOf : List D → Option (List Int)
  | [] => some []
  | .int i :: ds => (intsOf ds).map (i :: ·)
  | _ :: _ => none
def tD (t : Int × Int × Int) : D := .tup [.int t.1, .int t.2.1, .int t.2.2]
def tripsOf : List D → Option (List (Int × Int × Int))
  | [] => some []
  | .tup [.int a, .int b, .int c] :: ds => (tripsOf ds).map ((a, b, c) :: ·)
  | _ :: _ => none
def tpP (t : Int × Int × Int) : PySem.PyData := .tuple [.int t.1, .int t.2.1, .int t.2.2]
def minF (t : Int × Int × Int) (ts : List (Int × Int × Int)) : Int × Int × Int := ts.foldl (fun a y => if PySem.W.dataLt (tpP y) (tpP a) = true then y else a) t
def minT : List (Int × Int × Int) → Option (Int × Int × Int)
  | [] => none
  | t :: ts => some (minF t ts)
def pD (t : Int × List Int) : D := .tup [.int t.1, .tup (t.2.map .int)]
def prsOf : List D → Option (List (Int × List Int))
  | [] => some []
  | .tup [.int a, .tup r] :: ds => (intsOf r).bind fun is => (prsOf ds).map ((a, is) :: ·)
  | _ :: _ => none
def pP (t : Int × List Int) : PySem.PyData := .tuple [.int t.1, .tuple (t.2.map .int)]
def minPF (t : Int × List Int) (ts : List (Int × List Int)) : Int × List Int := ts.foldl (fun a y => if PySem.W.dataLt (pP y) (pP a) = true then y else a) t
def minP : List (Int × List Int) → Option (Int × List Int)
  | [] => none
  | t :: ts => some (minPF t ts)
def blsOf : List D → Option (List Bool)
  | [] => some []
  | .bl i :: ds => (blsOf ds).map (i :: ·)
  | _ :: _ => none
/-! the order of tuples -/
mutual
def dlt : D → D → Option Bool
  | .int i, .int j => some (decide (i < j))
  | .tup xs, .tup ys => dlts xs ys
  | _, _ => none
def dlts : List D → List D → Option Bool
  | [], [] => some false
  | [], _ :: _ => some true
  | _ :: _, [] => some false
  | x :: xs, y :: ys => if deq x y then dlts xs ys else dlt x y
end
def minI : List Int → Option Int
  | [] => none
  | [x] => some x
  | x :: y :: r => (minI (y :: r)).map fun m => if m < x then m else x
def maxI : List Int → Option Int
  | [] => none
  | [x] => some x
  | x :: y :: r => (maxI (y :: r)).map fun m => if x < m then m else x
def insI (x : Int) : List Int → List Int
  | [] => [x]
  | y :: r => if x ≤ y then x :: y :: r else y :: insI x r
def sortI : List Int → List Int
  | [] => []
  | x :: r => insI x (sortI r)
def muLst (μ : Mu) (n : Nat) : Option (List D) := match μ[n]? with
  | some (.lst ds) => some ds
  | _ => none
def muIns (μ : Mu) (n : Nat) : Option (List (Str × D)) := match μ[n]? with
  | some (.ins fs) => some fs
  | _ => none
/-- an instance's attributes -/
def fldsM : D → M (List (Str × D))
  | .mref n => fun μ => match muIns μ n with
    | some fs => .ok fs μ
    | none => .bad
  | _ => M.no
/-- a list object's items -/
def itsM : D → M (List D)
  | .mref n => fun μ => match muLst μ n with
    | some ds => .ok ds μ
    | none => .bad
  | _ => M.no
def putFd (x : Str) (d : D) : List (Str × D) → List (Str × D)
  | [] => [(x, d)]
  | (y, e) :: r => if y = x then (y, d) :: r else (y, e) :: putFd x d r
/-- an object is set -/
def setM (o : D) (mo : MO) : M Unit := match o with
  | .mref n => fun μ => .ok () (μ.set n mo)
  | _ => M.no
def newM (mo : MO) : M D := fun μ => .ok (.mref μ.length) (μ ++ [mo])
def fldM (o : D) (x : Str) : M D := fldsM o >>= fun fs => M.opt (fs.lookup x)
def noFld (o : D) (x : Str) : M Unit := fldsM o >>= fun fs => if (fs.lookup x).isNone = true then pure () else M.no
def setFld (o : D) (x : Str) (d : D) : M Unit := fldsM o >>= fun fs => if nol d && decide (fs.length < 1000) then setM o (.ins (putFd x d fs)) else M.no
def eqChk (x y : D) : M Unit := fldsM x >>= fun _ => match y with
  | .mref _ => fldsM y >>= fun _ => pure ()
  | .str _ => pure ()
  | _ => M.no
def noneTo (r o : D) : M D := match r with
  | .non => pure o
  | _ => M.no
def lenM (S : List Int) : D → M D
  | .lst ds => pure (.int ds.length)
  | .tup ds => pure (.int ds.length)
  | .scr => pure (.int S.length)
  | .mref n => fun μ => match muLst μ n with
    | some ds => .ok (.int ds.length) μ
    | none => .bad
  | _ => M.no
def b1M (S : List Int) : B1 → D → M D
  | .len, d => lenM S d
  | .sum, d => M.opt ((items d).bind fun xs => (intsOf xs).map fun is => .int is.sum)
  | .abs, .int i => pure (.int (if i < 0 then -i else i))
  | .list, d => M.opt ((items d).map .lst)
  | .tuple, d => M.opt ((items d).map .tup)
  | .int, .int i => pure (.int i)
  | .int, .bl b => pure (.int (if b then 1 else 0))
  | .all, .lst xs => M.opt ((blsOf xs).map fun bs => .bl (bs.all id))
  | .sorted, d => M.opt ((items d).bind fun xs => (intsOf xs).bind fun is => if is.length < 64 then some (.lst ((sortI is).map .int)) else none)
  | .min, .lst xs => M.opt ((intsOf xs).bind fun is => (minI is).map .int)
  | .minT, .lst xs => M.opt ((tripsOf xs).bind fun ts => (minT ts).map tD)
  | .minP, .lst xs => M.opt ((prsOf xs).bind fun ts => (minP ts).map pD)
  | .max, .lst xs => M.opt ((intsOf xs).bind fun is => (maxI is).map .int)
  | _, _ => M.no
def idxD (S : List Int) : D → D → Option D
  | .lst xs, .int i => L2.atI xs i
  | .tup xs, .int i => L2.atI xs i
  | .scr, .int i => (L2.atI S i).map .int
  | .str z, .int i => if z.length ≤ 1000000 then (L2.atI z.cps.toList i).map fun c => .str ⟨#[c]⟩ else none
  | _, _ => none
def cutD (xs : List D) (lo hi : Option Int) : List D := (xs.drop (HT.sIx xs.length 0 lo)).take (HT.sIx xs.length xs.length hi - HT.sIx xs.length 0 lo)
def sliceD (d : D) (lo hi : Option Int) : Option D := match d with
  | .lst xs => some (.lst (cutD xs lo hi))
  | .tup xs => some (.tup (cutD xs lo hi))
  | _ => none
def revD : D → Option D
  | .lst xs => some (.lst xs.reverse)
  | .tup xs => some (.tup xs.reverse)
  | _ => none
def tyD : D → Ty → Option Bool
  | .non, _ => some false
  | .bl _, .bool => some true
  | .bl _, .int => some true
  | .bl _, _ => some false
  | .int _, .int => some true
  | .int _, _ => some false
  | .str _, .str => some true
  | .str _, _ => some false
  | .tup _, .tuple => some true
  | .tup _, _ => some false
  | .lst _, .list => some true
  | .lst _, _ => some false
  | _, _ => none
def keyD : D → Option L2.Key
  | .int i => some (.inl i)
  | _ => none
def rngD (lo hi : Int) : List D := (List.range (hi - lo).toNat).map fun k => .int (lo + (k : Nat))
def small62 (i : Int) : Bool := decide (-(2 ^ 62) ≤ i ∧ i < 2 ^ 62)
/-- the pairs of a display of scalars by int keys: a later one wins -/
def dlook (kvs : List (Int × D)) (k : Int) : Option D := kvs.foldl (fun acc kv => if k = kv.1 then some kv.2 else acc) none
def dgetD (kvs : List (Int × D)) : D → D → Option D
  | .int k, d => some ((dlook kvs k).getD d)
  | _, _ => none
def didxD (kvs : List (Int × D)) : D → Option D
  | .int k => dlook kvs k
  | _ => none
def fnAt (fs : List (Str × Nat × Option Int)) : D → Option (Str × Nat × Option Int)
  | .int j => L2.atI fs j
  | _ => none
def dfl : Option Int → List D
  | none => []
  | some d => [.int d]
def lcountD (l x : D) : Option D := match l with
  | .lst ds => if sh 8 x && sh 8 (.lst ds) then some (.int ((ds.countP fun z => deq z x : Nat) : Int)) else none
  | _ => none
def lindexD (l x : D) : Option D := match l with
  | .lst ds => if sh 8 x && sh 8 (.lst ds) then (ds.findIdx? fun z => deq z x).map fun (j : Nat) => .int ((j : Nat) : Int) else none
  | _ => none
def gidxD (kvs : List (Int × Int)) : D → Option D
  | .int k => (kvs.lookup k).map .int
  | _ => none
def pairD : D → D → Option (Int × D)
  | .int k, d => if d.sc then some (k, d) else none
  | _, _ => none

/-! ### environments -/
abbrev Env := List (Option (Bool × D))
def look (ρ : Env) (i : Nat) : Option D := match ρ[i]? with
  | some (some (_, d)) => some d
  | _ => none
def put (ρ : Env) (i : Nat) (d : D) : Env := ρ.set i (some (false, d))
def puts (ρ : Env) : List Nat → List D → Option Env
  | [], [] => some ρ
  | i :: is, d :: ds => puts (put ρ i d) is ds
  | _, _ => none
def tgPut (ρ : Env) : Tg → D → Option Env
  | .one i, d => some (put ρ i d)
  | .many is, .tup ds => puts ρ is ds
  | .many is, .lst ds => puts ρ is ds
  | .many _, _ => none
def wipeE (ρ : Env) : List Nat → Env
  | [] => ρ
  | v :: vs => (wipeE ρ vs).set v none
/-- a slot is no longer owned -/
def thaw (ρ : Env) : List Nat → Env
  | [] => ρ
  | i :: is => thaw (match ρ[i]? with
    | some (some (_, d)) => ρ.set i (some (false, d))
    | _ => ρ) is
def ownL (ρ : Env) (i : Nat) : Option (List D) := match ρ[i]? with
  | some (some (true, .lst ds)) => some ds
  | _ => none

/-! ### which slots may be reached from a value, and which values are new lists -/
mutual
def lk : IE → List Nat
  | .var i => [i]
  | .bin _ a b => lk a ++ lk b
  | .andL es => lks es
  | .orL es => lks es
  | .ite _ a b => lk a ++ lk b
  | .tup es => lks es
  | .lst es => lks es
  | .idx a _ => lk a
  | .slice a _ _ => lk a
  | .rev a => lk a
  | .call _ es => lks es
  | .callD _ es _ => lks es
  | .callF _ _ es => lks es
  | .callK _ es _ e => lks es ++ lk e
  | .callL _ _ es => lks es
  | .callLK _ _ es _ e => lks es ++ lk e
  | .meth _ _ _ es => lks es
  | .methD _ _ _ es _ => lks es
  | .methK _ _ _ es _ e => lks es ++ lk e
  | .eqM _ a b => lk a ++ lk b
  | .b1 _ a => lk a
  | .dget _ _ d => lk d
  | .comp _ _ it _ elt => lkT it ++ lk elt
  | .comp2 _ _ _ it _ it1 elt => lkT it ++ (lkT it1 ++ lk elt)
  | _ => []
def lks : IEs → List Nat
  | .nil => []
  | .cons e es => lk e ++ lks es
def lkT : IT → List Nat
  | .seq a => lk a
  | .zip a b => lk a ++ lk b
  | .enum a => lk a
  | _ => []
end
def newL : IE → Bool
  | .lst _ => true
  | .comp _ _ _ _ _ => true
  | .comp2 _ _ _ _ _ _ _ => true
  | .b1 .list _ => true
  | .b1 .sorted _ => true
  | .slice _ _ _ => true
  | .rev _ => true
  | .bin _ _ _ => true
  | .lrange _ => true
  | _ => false
def lost (e : IE) (d : D) : List Nat := if d.sc || (newL e && d.flat) then [] else lk e
def lostT (it : IT) (ds : List D) : List Nat := match it with
  | .seq a => if newL a && ds.all D.sc then [] else lk a
  | it => lkT it
def bindTo (ρ : Env) (i : Nat) (e : IE) (d : D) : Env := (thaw ρ (lost e d)).set i (some (newL e && d.isL, d))

/-! ### the evaluator -/
inductive Fl where
  | next
  | ret (d : D)
  | cont
def compM (f : D → M (Option D)) : List D → M (List D)
  | [] => pure []
  | x :: xs => do
    let r ← f x
    let rs ← compM f xs
    pure (match r with | some d => d :: rs | none => rs)
def compM2 (f : D → M (List D)) : List D → M (List D)
  | [] => pure []
  | x :: xs => do
    let r ← f x
    let rs ← compM2 f xs
    pure (r ++ rs)
def optI : Option D → Option (Option Int)
  | none => some none
  | some (.int i) => some (some i)
  | _ => none
section
variable (S : List Int) (call : Nat → List D → M D)
mutual
def evE : IE → Env → M D
  | .non, _ => pure .non
  | .bl b, _ => pure (.bl b)
  | .int i, _ => pure (.int i)
  | .str s, _ => pure (.str s)
  | .var i, ρ => M.opt (look ρ i)
  | .glob _ d, _ => pure d
  | .bin o a b, ρ => evE a ρ >>= fun x => evE b ρ >>= fun y => M.opt (binD o x y)
  | .neg a, ρ => evE a ρ >>= fun x => M.opt (negD x)
  | .not a, ρ => evE a ρ >>= fun x => M.opt (truth x) >>= fun b => pure (.bl (!b))
  | .cmp o a b, ρ => evE a ρ >>= fun x => evE b ρ >>= fun y => M.opt (cmpD S o x y)
  | .chain o o' a b c, ρ => evE a ρ >>= fun x => evE b ρ >>= fun y => M.opt (cmpD S o x y) >>= fun t => M.opt (truth t) >>= fun k =>
      if k = true then evE c ρ >>= fun z => M.opt (cmpD S o' y z) else pure (.bl false)
  | .isC n c a, ρ => evE a ρ >>= fun x => M.opt (isD n c x)
  | .andL es, ρ => evAnd es ρ
  | .orL es, ρ => evOr es ρ
  | .ite c a b, ρ => evE c ρ >>= fun x => M.opt (truth x) >>= fun k => if k = true then evE a ρ else evE b ρ
  | .tup es, ρ => evEs es ρ >>= fun ds => if ds.length ≤ 1000 then pure (.tup ds) else M.no
  | .lst es, ρ => evEs es ρ >>= fun ds => if ds.length ≤ 1000 then pure (.lst ds) else M.no
  | .idx a i, ρ => evE a ρ >>= fun x => evE i ρ >>= fun y => M.opt (idxD S x y)
  | .slice a lo hi, ρ => evE a ρ >>= fun x => evO lo ρ >>= fun l => M.opt (optI l) >>= fun l => evO hi ρ >>= fun h => M.opt (optI h) >>= fun h => M.opt (sliceD x l h)
  | .rev a, ρ => evE a ρ >>= fun x => M.opt (revD x)
  | .call f es, ρ => evEs es ρ >>= fun ds => call f ds
  | .callD f es d, ρ => evEs es ρ >>= fun ds => call f (ds ++ [d])
  | .nin a b, ρ => evE a ρ >>= fun x => evE b ρ >>= fun y => M.opt (ninD x y)
  | .callF f a es, ρ => evE a ρ >>= fun x => if (x.flat && x.isL) = true then evEs es ρ >>= fun ds => call f (x :: ds) else M.no
  | .callK f es _ e, ρ => evEs es ρ >>= fun ds => evE e ρ >>= fun d => call f (ds ++ [d])
  | .callL fs i es, ρ => evE i ρ >>= fun j => M.opt (fnAt fs j) >>= fun p => evEs es ρ >>= fun ds => call p.2.1 (ds ++ dfl p.2.2)
  | .callLK fs i es _ e, ρ => evE i ρ >>= fun j => M.opt (fnAt fs j) >>= fun p => evEs es ρ >>= fun ds => evE e ρ >>= fun d => call p.2.1 (ds ++ [d])
  | .make f es, ρ => evEs es ρ >>= fun ds => newM (.ins []) >>= fun o => call f (o :: ds) >>= fun r => noneTo r o
  | .fld a x, ρ => M.opt (look ρ a) >>= fun o => fldM o x
  | .meth f m a es, ρ => M.opt (look ρ a) >>= fun o => noFld o m >>= fun _ => evEs es ρ >>= fun ds => call f (o :: ds)
  | .methD f m a es d, ρ => M.opt (look ρ a) >>= fun o => noFld o m >>= fun _ => evEs es ρ >>= fun ds => call f (o :: (ds ++ [d]))
  | .methK f m a es _ e, ρ => M.opt (look ρ a) >>= fun o => noFld o m >>= fun _ => evEs es ρ >>= fun ds => evE e ρ >>= fun d => call f (o :: (ds ++ [d]))
  | .popF a x, ρ => M.opt (look ρ a) >>= fun o => fldM o x >>= fun l => itsM l >>= fun ds => M.opt ds.getLast? >>= fun d => setM l (.lst ds.dropLast) >>= fun _ => pure d
  | .nilF a x, ρ => M.opt (look ρ a) >>= fun o => fldM o x >>= fun l => itsM l >>= fun ds => if sh 8 (.lst ds) = true then pure (.bl ds.isEmpty) else M.no
  | .isiT a, ρ => evE a ρ >>= fun x => (match x with
      | .mref n => fldsM x >>= fun _ => pure (.bl true)
      | .str _ => pure (.bl false)
      | _ => M.no)
  | .eqM f a b, ρ => evE a ρ >>= fun x => evE b ρ >>= fun y => eqChk x y >>= fun _ => call f [x, y]
  | .b1 o a, ρ => evE a ρ >>= fun x => b1M S o x
  | .mm mx a b, ρ => evE a ρ >>= fun x => evE b ρ >>= fun y => M.opt (match x, y with
      | .int i, .int j => some (.int (if mx then (if j > i then j else i) else (if j < i then j else i)))
      | _, _ => none)
  | .isi t a, ρ => evE a ρ >>= fun x => M.opt ((tyD x t).map .bl)
  | .lrange a, ρ => evE a ρ >>= fun x => M.opt (match x with
      | .int i => if 0 ≤ i ∧ i ≤ 1000 then some (.lst (rngD 0 i)) else none
      | _ => none)
  | .lcount x b, ρ => M.opt (look ρ x) >>= fun l => evE b ρ >>= fun y => M.opt (lcountD l y)
  | .lindex x b, ρ => M.opt (look ρ x) >>= fun l => evE b ρ >>= fun y => M.opt (lindexD l y)
  | .gidx _ kvs k, ρ => evE k ρ >>= fun x => M.opt (gidxD kvs x)
  | .dget kvs k d, ρ => evPs kvs ρ >>= fun kvs => evE k ρ >>= fun x => evE d ρ >>= fun y => M.opt (dgetD kvs x y)
  | .didx kvs k, ρ => evPs kvs ρ >>= fun kvs => evE k ρ >>= fun x => M.opt (didxD kvs x)
  | .comp vs tg it cond elt, ρ => evT it ρ >>= fun ds => compM (fun d => M.opt (tgPut (thaw (wipeE ρ vs) (lkT it)) tg d) >>= fun ρ1 =>
      evC cond ρ1 >>= fun k => if k = true then evE elt ρ1 >>= fun x => pure (some x) else pure none) ds >>= fun rs => if rs.length ≤ 1000000 then pure (.lst rs) else M.no
  | .comp2 vs vs1 tg it tg1 it1 elt, ρ => evT it ρ >>= fun ds => compM2 (fun d => M.opt (tgPut (thaw (wipeE ρ vs) (lkT it)) tg d) >>= fun ρ1 =>
      evT it1 ρ1 >>= fun es => compM (fun e => M.opt (tgPut (thaw (wipeE ρ1 vs1) (lkT it1)) tg1 e) >>= fun ρ2 => evE elt ρ2 >>= fun x => pure (some x)) es) ds >>= fun rs => if rs.length ≤ 1000000 then pure (.lst rs) else M.no
def evEs : IEs → Env → M (List D)
  | .nil, _ => pure []
  | .cons e es, ρ => evE e ρ >>= fun d => evEs es ρ >>= fun ds => pure (d :: ds)
def evPs : IEs → Env → M (List (Int × D))
  | .nil, _ => pure []
  | .cons k (.cons v r), ρ => evE k ρ >>= fun x => evE v ρ >>= fun y => M.opt (pairD x y) >>= fun p => evPs r ρ >>= fun ps => pure (p :: ps)
  | .cons _ .nil, _ => M.no
def evAnd : IEs → Env → M D
  | .nil, _ => M.no
  | .cons e .nil, ρ => evE e ρ
  | .cons e es, ρ => evE e ρ >>= fun x => M.opt (truth x) >>= fun k => if k = true then evAnd es ρ else pure (.bl false)
def evOr : IEs → Env → M D
  | .nil, _ => M.no
  | .cons e .nil, ρ => evE e ρ
  | .cons e es, ρ => evE e ρ >>= fun x => M.opt (truth x) >>= fun k => if k = true then pure (.bl true) else evOr es ρ
def evO : IO → Env → M (Option D)
  | .none, _ => pure none
  | .some e, ρ => evE e ρ >>= fun d => pure (some d)
def evC : IO → Env → M Bool
  | .none, _ => pure true
  | .some e, ρ => evE e ρ >>= fun x => M.opt (truth x)
def evT : IT → Env → M (List D)
  | .seq a, ρ => evE a ρ >>= fun x => M.opt (items x)
  | .rng1 a, ρ => evE a ρ >>= fun x => M.opt (match x with | .int i => if small62 i then some (rngD 0 i) else none | _ => none)
  | .rng2 a b, ρ => evE a ρ >>= fun x => evE b ρ >>= fun y => M.opt (match x, y with | .int i, .int j => if small62 i && small62 j then some (rngD i j) else none | _, _ => none)
  | .zip a b, ρ => evE a ρ >>= fun x => evE b ρ >>= fun y => M.opt ((items x).bind fun xs => (items y).map fun ys => (xs.zip ys).map fun p => .tup [p.1, p.2])
  | .enum a, ρ => evE a ρ >>= fun x => M.opt (match x with | .lst xs => some (xs.mapIdx fun k d => .tup [.int (k : Nat), d]) | .tup xs => some (xs.mapIdx fun k d => .tup [.int (k : Nat), d]) | _ => none)
end
def forM (step : D → Env → M (Fl × Env)) : List D → Env → M (Fl × Env)
  | [], ρ => pure (.next, ρ)
  | x :: xs, ρ => step x ρ >>= fun p => match p.1 with
    | .next => forM step xs p.2
    | .cont => forM step xs p.2
    | .ret d => pure (.ret d, p.2)
def whileM (test : Env → M Bool) (step : Env → M (Fl × Env)) : Nat → Env → M (Fl × Env)
  | 0, _ => M.no
  | n + 1, ρ => test ρ >>= fun k => if k = true then step ρ >>= fun p => match p.1 with
      | .next => whileM test step n p.2
      | .cont => whileM test step n p.2
      | .ret d => pure (.ret d, p.2)
    else pure (.next, ρ)
def setD (ds : List D) (k : D) (v : D) : Option (List D) := match k with
  | .int i => (L2.ixN ds.length i).map fun j => ds.set j v
  | _ => none
def muSet (n : Nat) (f : List D → Option (List D)) : M Unit := fun μ => match muLst μ n with
  | some ds => (match f ds with
    | some es => .ok () (μ.set n (.lst es))
    | none => .bad)
  | none => .bad
def litE : IE → Bool
  | .int _ => true
  | _ => false
/-- x.append(d) -/
def appTo (ρ : Env) (x : Nat) (e : IE) (d : D) : M Env := match ρ[x]? with
  | some (some (true, .lst ds)) => if x ∉ lost e d ∧ ds.length < 1000000 then pure ((thaw ρ (lost e d)).set x (some (true, .lst (ds ++ [d])))) else M.no
  | some (some (_, .mref n)) => if d.sc && litE e then (fun μ => match muLst μ n with
      | some ds => if ds.length < 1000000 then .ok ρ (μ.set n (.lst (ds ++ [d]))) else .bad
      | none => .bad) else M.no
  | _ => M.no
mutual
def evS : IS → Env → M (Fl × Env)
  | .assign i e, ρ => evE S call e ρ >>= fun d => pure (.next, bindTo ρ i e d)
  | .newRef i, ρ => fun μ => .ok (.next, ρ.set i (some (false, .mref μ.length))) (μ ++ [.lst []])
  | .unpack is e, ρ => evE S call e ρ >>= fun d => M.opt (tgPut (thaw ρ (lost e d)) (.many is) d) >>= fun ρ1 => pure (.next, ρ1)
  | .par i j a b, ρ => evE S call a ρ >>= fun x => evE S call b ρ >>= fun y => pure (.next, bindTo (bindTo ρ j b y) i a x)
  | .setIdx x k e, ρ => evE S call e ρ >>= fun d => evE S call k ρ >>= fun j => M.opt (ownL ρ x) >>= fun ds => M.opt (setD ds j d) >>= fun es =>
      if x ∉ lost e d then pure (.next, (thaw ρ (lost e d)).set x (some (true, .lst es))) else M.no
  | .swap2 x k1 k2 e1 e2, ρ => evE S call e1 ρ >>= fun d1 => evE S call e2 ρ >>= fun d2 => evE S call k1 ρ >>= fun j1 => M.opt (ownL ρ x) >>= fun ds => M.opt (setD ds j1 d1) >>= fun es =>
      evE S call k2 (ρ.set x (some (true, .lst es))) >>= fun j2 => M.opt (setD es j2 d2) >>= fun fs => if d1.sc && d2.sc then pure (.next, ρ.set x (some (true, .lst fs))) else M.no
  | .aug i e, ρ => M.opt (look ρ i) >>= fun x => evE S call e ρ >>= fun y => M.opt (match x, y with
      | .int a, .int b => some (Fl.next, ρ.set i (some (false, .int (a + b))))
      | _, _ => none)
  | .augIdx x k e, ρ => evE S call k ρ >>= fun j => M.opt (ownL ρ x) >>= fun ds => M.opt (idxD S (.lst ds) j) >>= fun a => evE S call e ρ >>= fun b => M.opt (match a, b with
      | .int a, .int b => (setD ds j (.int (a + b))).map fun es => (Fl.next, ρ.set x (some (true, .lst es)))
      | _, _ => none)
  | .append x e, ρ => evE S call e ρ >>= fun d => appTo ρ x e d >>= fun ρ1 => pure (.next, ρ1)
  | .extend x e, ρ => evE S call e ρ >>= fun d => M.opt (ownL ρ x) >>= fun ds => (match d with
      | .lst es => if newL e && !(x ∈ lost e d) && decide (ds.length + es.length ≤ 1000000) then pure (Fl.next, (thaw ρ (lost e d)).set x (some (true, .lst (ds ++ es)))) else M.no
      | _ => M.no)
  | .appPop x y e, ρ => evE S call e ρ >>= fun j => M.opt (ownL ρ y) >>= fun ds => M.opt (ownL ρ x) >>= fun xs => M.opt (idxD S (.lst ds) j) >>= fun d => (match j with
      | .int k => (match L2.ixN ds.length k with
        | some n => if d.sc && x != y && decide (xs.length < 1000000) && decide (ds.length ≤ 1000000) then pure (Fl.next, (ρ.set y (some (true, .lst (ds.eraseIdx n)))).set x (some (true, .lst (xs ++ [d])))) else M.no
        | none => M.no)
      | _ => M.no)
  | .expr e, ρ => evE S call e ρ >>= fun _ => pure (.next, ρ)
  | .ite c a b, ρ => evE S call c ρ >>= fun x => M.opt (truth x) >>= fun k => if k = true then evSs a ρ else evSs b ρ
  | .for_ tg it body, ρ => evT S call it ρ >>= fun ds => forM (fun d ρ => M.opt (tgPut ρ tg d) >>= fun ρ1 => evSs body ρ1) ds (thaw ρ (lostT it ds))
  | .while_ n c body, ρ => whileM (fun ρ => evE S call c ρ >>= fun x => M.opt (truth x)) (fun ρ => evSs body ρ) n ρ
  | .ret e, ρ => evE S call e ρ >>= fun d => pure (.ret d, ρ)
  | .raise c, _ => M.err c
  | .cont, ρ => pure (.cont, ρ)
  | .stuck, _ => M.no
  | .setF a x e, ρ => evE S call e ρ >>= fun d => M.opt (look ρ a) >>= fun o => setFld o x d >>= fun _ => pure (.next, ρ)
  | .newF a x, ρ => newM (.lst []) >>= fun d => M.opt (look ρ a) >>= fun o => setFld o x d >>= fun _ => pure (.next, ρ)
  | .appF a x e, ρ => M.opt (look ρ a) >>= fun o => fldM o x >>= fun l => itsM l >>= fun _ => evE S call e ρ >>= fun d => itsM l >>= fun ds => if nol d && decide (ds.length < 1000000) then setM l (.lst (ds ++ [d])) >>= fun _ => pure (.next, ρ) else M.no
  | .opq i, ρ => if i < ρ.length then pure (.next, ρ.set i none) else M.no
  | .tryW _ body, ρ => M.grab (evSs body ρ) fun c => if 1 ≤ c ∧ c ≤ 13 then some (.ret (.tup [.str (PySem.Str.ofString "refused"), .int ((c : Int) - 1)]), ρ.map fun _ => none) else none
def evSs : ISs → Env → M (Fl × Env)
  | .nil, ρ => pure (.next, ρ)
  | .cons s ss, ρ => evS s ρ >>= fun p => match p.1 with
    | .next => evSs ss p.2
    | .cont => pure p
    | .ret _ => pure p
end
end
end Ev

set_option Elab.async false
set_option linter.all false
set_option maxRecDepth 100000
set_option maxHeartbeats 4000000
namespace Ev
open PySem L2

/-! ### how data lies in the abstract heap -/
/-- where the script lies, and the class of the instances -/
structure Sa where
  a : Addr
  C : Addr
/-- fixed through a def's run: the fragment, the script and where it lies, what must not be reached (the callers' own lists), heap and objects at the entry -/
structure Fx where
  K : PySem.W.Frag
  S : List Int
  sa : Sa
  B : Addr → Prop
  H0 : Hp
  ph0 : List Addr
  held : List (V × D)

mutual
/-- v is d: no list at an address of A, nor an object's -/
inductive Rep (sa : Sa) (ph : List Addr) (A : Addr → Prop) (H : Hp) : V → D → Prop
  | non : Rep sa ph A H .non .non
  | bl (b : Bool) : Rep sa ph A H (.bl b) (.bl b)
  | int (i : Int) : Rep sa ph A H (.int i) (.int i)
  | str (x : Str) : Rep sa ph A H (.str x) (.str x)
  | tup {a : Addr} {vs : List V} {ds : List D} : H a = some (.tup vs) → Reps sa ph A H vs ds → Rep sa ph A H (.ref a) (.tup ds)
  | lst {a : Addr} {vs : List V} {ds : List D} : H a = some (.lst vs) → ¬ A a → a ∉ ph → Reps sa ph A H vs ds → Rep sa ph A H (.ref a) (.lst ds)
  | scr : Rep sa ph A H (.ref sa.a) .scr
  | mref {n : Nat} {a : Addr} : ph[n]? = some a → Rep sa ph A H (.ref a) (.mref n)
inductive Reps (sa : Sa) (ph : List Addr) (A : Addr → Prop) (H : Hp) : List V → List D → Prop
  | nil : Reps sa ph A H [] []
  | cons {v : V} {vs : List V} {d : D} {ds : List D} : Rep sa ph A H v d → Reps sa ph A H vs ds → Reps sa ph A H (v :: vs) (d :: ds)
end

section
variable {sa : Sa} {ph ph' : List Addr} {A A' : Addr → Prop} {H H' : Hp}
mutual
theorem Rep.mono (hT : ∀ a vs, H a = some (.tup vs) → H' a = some (.tup vs)) (hL : ∀ a vs, H a = some (.lst vs) → ¬ A a → a ∉ ph → H' a = some (.lst vs) ∧ ¬ A' a ∧ a ∉ ph') (hp : ∀ (n : Nat) (a : Addr), ph[n]? = some a → ph'[n]? = some a) :
    ∀ (d : D) (v : V), Rep sa ph A H v d → Rep sa ph' A' H' v d
  | .non, _, h => by cases h; exact .non
  | .bl b, _, h => by cases h; exact .bl b
  | .int i, _, h => by cases h; exact .int i
  | .str x, _, h => by cases h; exact .str x
  | .tup ds, _, h => by
    cases h with
    | tup e r => exact .tup (hT _ _ e) (Reps.mono hT hL hp ds _ r)
  | .lst ds, _, h => by
    cases h with
    | lst e n1 n2 r =>
      obtain ⟨x, y, z⟩ := hL _ _ e n1 n2
      exact .lst x y z (Reps.mono hT hL hp ds _ r)
  | .scr, _, h => by cases h; exact .scr
  | .mref n, _, h => by
    cases h with
    | mref e => exact .mref (hp _ _ e)
theorem Reps.mono (hT : ∀ a vs, H a = some (.tup vs) → H' a = some (.tup vs)) (hL : ∀ a vs, H a = some (.lst vs) → ¬ A a → a ∉ ph → H' a = some (.lst vs) ∧ ¬ A' a ∧ a ∉ ph') (hp : ∀ (n : Nat) (a : Addr), ph[n]? = some a → ph'[n]? = some a) :
    ∀ (ds : List D) (vs : List V), Reps sa ph A H vs ds → Reps sa ph' A' H' vs ds
  | [], _, h => by cases h; exact .nil
  | d :: ds, _, h => by
    cases h with
    | cons a b => exact .cons (Rep.mono hT hL hp d _ a) (Reps.mono hT hL hp ds _ b)
end
theorem Rep.weaken (h : ∀ a, A' a → A a) {v : V} {d : D} (r : Rep sa ph A H v d) : Rep sa ph A' H v d :=
  Rep.mono (fun _ _ e => e) (fun a _ e n m => ⟨e, fun z => n (h a z), m⟩) (fun _ _ e => e) d v r
theorem Reps.weaken (h : ∀ a, A' a → A a) {vs : List V} {ds : List D} (r : Reps sa ph A H vs ds) : Reps sa ph A' H vs ds :=
  Reps.mono (fun _ _ e => e) (fun a _ e n m => ⟨e, fun z => n (h a z), m⟩) (fun _ _ e => e) ds vs r
/-- scalars avoid everything -/
theorem Rep.scal {v : V} {d : D} (hd : d.sc = true) (r : Rep sa ph A H v d) : Rep sa ph' A' H' v d := by
  cases r <;> first | exact .non | exact .bl _ | exact .int _ | exact .str _ | (simp [D.sc] at hd)
theorem Reps.scal : ∀ {vs : List V} {ds : List D}, ds.all D.sc = true → Reps sa ph A H vs ds → Reps sa ph' A' H' vs ds
  | _, _, _, .nil => .nil
  | _, _, h, .cons a b => by
    rw [List.all_cons, Bool.and_eq_true] at h
    exact .cons (a.scal h.1) (Reps.scal h.2 b)
theorem Reps.length : ∀ {vs : List V} {ds : List D}, Reps sa ph A H vs ds → vs.length = ds.length
  | _, _, .nil => rfl
  | _, _, .cons _ b => congrArg Nat.succ b.length
theorem Reps.get : ∀ {vs : List V} {ds : List D} {i : Nat} {d : D}, Reps sa ph A H vs ds → ds[i]? = some d → ∃ v, vs[i]? = some v ∧ Rep sa ph A H v d
  | _, _, _, _, .nil, e => by simp at e
  | _, _, 0, _, .cons a _, e => by simp at e; subst e; exact ⟨_, rfl, a⟩
  | _, _, i + 1, d, .cons _ b, e => by
    obtain ⟨v, h1, h2⟩ := Reps.get (i := i) (d := d) b (by simpa using e)
    exact ⟨v, by simpa using h1, h2⟩
theorem Reps.getV : ∀ {vs : List V} {ds : List D} {i : Nat} {v : V}, Reps sa ph A H vs ds → vs[i]? = some v → ∃ d, ds[i]? = some d ∧ Rep sa ph A H v d
  | _, _, _, _, .nil, e => by simp at e
  | _, _, 0, _, .cons a _, e => by simp at e; subst e; exact ⟨_, rfl, a⟩
  | _, _, i + 1, d, .cons _ b, e => by
    obtain ⟨v, h1, h2⟩ := Reps.getV (i := i) (v := d) b (by simpa using e)
    exact ⟨v, by simpa using h1, h2⟩
theorem Reps.append : ∀ {xs ys : List V} {ds es : List D}, Reps sa ph A H xs ds → Reps sa ph A H ys es → Reps sa ph A H (xs ++ ys) (ds ++ es)
  | _, _, _, _, .nil, s => s
  | _, _, _, _, .cons r t, s => .cons r (Reps.append t s)
theorem Reps.take : ∀ {xs : List V} {ds : List D} (n : Nat), Reps sa ph A H xs ds → Reps sa ph A H (xs.take n) (ds.take n)
  | _, _, 0, _ => .nil
  | _, _, _ + 1, .nil => .nil
  | _, _, n + 1, .cons r t => .cons r (Reps.take n t)
theorem Reps.drop : ∀ {xs : List V} {ds : List D} (n : Nat), Reps sa ph A H xs ds → Reps sa ph A H (xs.drop n) (ds.drop n)
  | _, _, 0, r => r
  | _, _, _ + 1, .nil => .nil
  | _, _, n + 1, .cons _ t => Reps.drop n t
theorem Reps.reverse : ∀ {xs : List V} {ds : List D}, Reps sa ph A H xs ds → Reps sa ph A H xs.reverse ds.reverse
  | _, _, .nil => .nil
  | _, _, .cons r t => by
    rw [List.reverse_cons, List.reverse_cons]
    exact (Reps.reverse t).append (.cons r .nil)
theorem Reps.rep {xs : List V} {ds : List D} (h : Reps sa ph A H xs ds) : ∀ k : Nat, Reps sa ph A H (List.replicate k xs).flatten (List.replicate k ds).flatten
  | 0 => .nil
  | k + 1 => by
    rw [List.replicate_succ, List.replicate_succ, List.flatten_cons, List.flatten_cons]
    exact h.append (Reps.rep h k)
theorem Reps.set : ∀ {xs : List V} {ds : List D} {v : V} {d : D} (i : Nat), Reps sa ph A H xs ds → Rep sa ph A H v d → Reps sa ph A H (xs.set i v) (ds.set i d)
  | _, _, _, _, _, .nil, _ => .nil
  | _, _, _, _, 0, .cons _ t, r => .cons r t
  | _, _, _, _, i + 1, .cons q t, r => .cons q (Reps.set i t r)
theorem Reps.erase : ∀ {xs : List V} {ds : List D} (i : Nat), Reps sa ph A H xs ds → Reps sa ph A H (xs.eraseIdx i) (ds.eraseIdx i)
  | _, _, _, .nil => .nil
  | _, _, 0, .cons _ t => t
  | _, _, i + 1, .cons q t => .cons q (Reps.erase i t)
theorem Reps.intsV : ∀ {xs : List V} {ds : List D} {is : List Int}, Reps sa ph A H xs ds → intsOf ds = some is → xs = is.map V.int
  | _, _, _, .nil, e => by simp [intsOf] at e; subst e; rfl
  | _, _, is, .cons (d := d) r t, e => by
    cases d <;> simp only [intsOf] at e <;> first
      | (cases e; done)
      | (cases r
         obtain ⟨js, h1, h2⟩ := Option.map_eq_some_iff.mp e
         rw [Reps.intsV t h1, ← h2]
         rfl)
theorem Reps.blsV : ∀ {xs : List V} {ds : List D} {is : List Bool}, Reps sa ph A H xs ds → blsOf ds = some is → xs = is.map V.bl
  | _, _, _, .nil, e => by simp [blsOf] at e; subst e; rfl
  | _, _, is, .cons (d := d) r t, e => by
    cases d <;> simp only [blsOf] at e <;> first
      | (cases e; done)
      | (cases r
         obtain ⟨js, h1, h2⟩ := Option.map_eq_some_iff.mp e
         rw [Reps.blsV t h1, ← h2]
         rfl)
theorem Reps.ofInts : ∀ (is : List Int), Reps sa ph A H (is.map V.int) (is.map D.int)
  | [] => .nil
  | i :: is => .cons (.int i) (Reps.ofInts is)
theorem intsOf_map : ∀ (is : List Int), intsOf (is.map D.int) = some is
  | [] => rfl
  | i :: is => by simp [intsOf, intsOf_map is]
end

/-! ### the state -/
/-- what frozen data must not reach: the callers' own lists, and the own lists of the slots but those in L -/
def Av (F : Fx) (own : Nat → Option Addr) (L : List Nat) (a : Addr) : Prop := F.B a ∨ ∃ i, own i = some a ∧ i ∉ L
/-- an object: its data hold no list -/
def MoR (sa : Sa) (ph : List Addr) (H : Hp) (a : Addr) : MO → Prop
  | .lst ds => ∃ vs, H a = some (.lst vs) ∧ Reps sa ph (fun _ => True) H vs ds
  | .ins fs => ∃ dx gs, H a = some (.ins sa.C dx gs) ∧ gs.map (·.1) = fs.map (·.1) ∧ Reps sa ph (fun _ => True) H (gs.map (·.2)) (fs.map (·.2))
theorem MoR.mono {sa : Sa} {ph ph' : List Addr} {H H' : Hp} {a : Addr} {mo : MO} (r : MoR sa ph H a mo) (h : ∀ o, H a = some o → H' a = some o) (hr : ∀ {v : List V} {d : List D}, Reps sa ph (fun _ => True) H v d → Reps sa ph' (fun _ => True) H' v d) : MoR sa ph' H' a mo := by
  cases mo with
  | lst ds => obtain ⟨vs, e, r⟩ := r; exact ⟨vs, h _ e, hr r⟩
  | ins fs => obtain ⟨dx, gs, e, e2, r⟩ := r; exact ⟨dx, gs, h _ e, e2, hr r⟩
structure MuOk (sa : Sa) (ph : List Addr) (H : Hp) (μ : Mu) : Prop where
  len : ph.length = μ.length
  nd : ph.Nodup
  mo : ∀ (n : Nat) (a : Addr) (mo : MO), ph[n]? = some a → μ[n]? = some mo → MoR sa ph H a mo
def ScrR (K : PySem.W.Frag) (S : List Int) (sa : Sa) (H : Hp) : Prop := sa.C = tabC K ∧ ((∃ ob, H sa.a = some (.frz ob (.lst (S.map V.int)))) ∨ ∀ H', SqL K H' sa.a (S.map V.int))
def SlotR (F : Fx) (own : Nat → Option Addr) (ph : List Addr) (H : Hp) (i : Nat) (v : V) : Bool → D → Prop
  | true, d => ∃ p vs ds, v = .ref p ∧ d = .lst ds ∧ own i = some p ∧ H p = some (.lst vs) ∧ Reps F.sa ph (Av F own []) H vs ds
  | false, d => Rep F.sa ph (Av F own []) H v d
structure Stt (F : Fx) (own : Nat → Option Addr) (ph : List Addr) (ρ : Env) (μ : Mu) (σ : L2.St) (H : Hp) : Prop where
  slots : ∀ (i : Nat) (b : Bool) (d : D), ρ[i]? = some (some (b, d)) → ∃ v, σ[i]? = some (some v) ∧ SlotR F own ph H i v b d
  lenE : ρ.length = σ.length
  mu : MuOk F.sa ph H μ
  fr : ∀ a o, F.H0 a = some o → a ∉ F.ph0 → H a = some o
  old : ∀ a o, F.H0 a = some o → H a ≠ none
  phx : ∃ nw, ph = F.ph0 ++ nw ∧ ∀ a ∈ nw, F.H0 a = none
  onew : ∀ i p, own i = some p → F.H0 p = none
  ophi : ∀ i p, own i = some p → p ∉ ph
  oinj : ∀ i j p, own i = some p → own j = some p → i = j
  oreal : ∀ i p, own i = some p → ∃ vs, H p = some (.lst vs)
  bdom : ∀ a, F.B a → H a ≠ none
  bphi : ∀ a, F.B a → a ∉ ph
  onb : ∀ i p, own i = some p → ¬ F.B p
  scr : ScrR F.K F.S F.sa H
  held : ∀ p ∈ F.held, Rep F.sa ph (Av F own []) H p.1 p.2

/-- the heap has grown: all but the objects is as it was -/
structure Grow (ph : List Addr) (H : Hp) (ph' : List Addr) (H' : Hp) : Prop where
  keep : ∀ a o, H a = some o → a ∉ ph → H' a = some o
  ext : ∃ nw, ph' = ph ++ nw ∧ ∀ a ∈ nw, H a = none
  old : ∀ a o, H a = some o → ∃ o', H' a = some o'
theorem Grow.refl (ph : List Addr) (H : Hp) : Grow ph H ph H := ⟨fun _ _ h _ => h, ⟨[], by simp, by simp⟩, fun _ o h => ⟨o, h⟩⟩
theorem Grow.sub {ph ph' : List Addr} {H H' : Hp} (g : Grow ph H ph' H') {a : Addr} (h : a ∈ ph) : a ∈ ph' := by
  obtain ⟨nw, rfl, _⟩ := g.ext
  exact List.mem_append_left _ h
theorem Grow.notin {ph ph' : List Addr} {H H' : Hp} (g : Grow ph H ph' H') {a : Addr} {o : HO} (e : H a = some o) (h : a ∉ ph) : a ∉ ph' := by
  obtain ⟨nw, rfl, hn⟩ := g.ext
  intro q
  rcases List.mem_append.mp q with q | q
  · exact h q
  · rw [hn a q] at e; cases e
theorem Grow.idx {ph ph' : List Addr} {H H' : Hp} (g : Grow ph H ph' H') {n : Nat} {a : Addr} (e : ph[n]? = some a) : ph'[n]? = some a := by
  obtain ⟨nw, rfl, hn⟩ := g.ext
  rw [List.getElem?_append_left]
  · exact e
  · exact (List.getElem?_eq_some_iff.mp e).1
theorem Grow.trans {ph ph1 ph2 : List Addr} {H H1 H2 : Hp} (g : Grow ph H ph1 H1) (k : Grow ph1 H1 ph2 H2) : Grow ph H ph2 H2 := by
  refine ⟨fun a o e n => k.keep a o (g.keep a o e n) (g.notin e n), ?_, fun a o e => ?_⟩
  · obtain ⟨nw, e1, h1⟩ := g.ext
    obtain ⟨nw', e2, h2⟩ := k.ext
    refine ⟨nw ++ nw', by rw [e2, e1, List.append_assoc], fun a ha => ?_⟩
    rcases List.mem_append.mp ha with q | q
    · exact h1 a q
    · cases e : H a with
      | none => rfl
      | some o =>
        obtain ⟨o', e'⟩ := g.old a o e
        rw [h2 a q] at e'; cases e'
  · obtain ⟨o', e'⟩ := g.old a o e
    exact k.old a o' e'
theorem MuOk.obj {sa : Sa} {ph : List Addr} {H : Hp} {μ : Mu} (M : MuOk sa ph H μ) {a : Addr} (h : a ∈ ph) : (∃ vs, H a = some (.lst vs)) ∨ ∃ C dx gs, H a = some (.ins C dx gs) := by
  obtain ⟨n, hn, e⟩ := List.mem_iff_getElem.mp h
  have hm : n < μ.length := by rw [← M.len]; exact hn
  have r := M.mo n a μ[n] (by rw [List.getElem?_eq_getElem hn, e]) (List.getElem?_eq_getElem hm)
  cases q : μ[n] with
  | lst ds => rw [q] at r; obtain ⟨vs, e, _⟩ := r; exact .inl ⟨vs, e⟩
  | ins fs => rw [q] at r; obtain ⟨dx, gs, e, _⟩ := r; exact .inr ⟨_, dx, gs, e⟩
theorem MuOk.here {sa : Sa} {ph : List Addr} {H : Hp} {μ : Mu} (M : MuOk sa ph H μ) {a : Addr} (h : a ∈ ph) : H a ≠ none := fun z => by
  rcases M.obj h with ⟨vs, e⟩ | ⟨C, dx, gs, e⟩ <;> (rw [z] at e; cases e)
theorem MuOk.noT {sa : Sa} {ph : List Addr} {H : Hp} {μ : Mu} (M : MuOk sa ph H μ) : ∀ a ∈ ph, ∀ vs, H a ≠ some (.tup vs) := fun a h vs e => by
  rcases M.obj h with ⟨ws, e'⟩ | ⟨C, dx, gs, e'⟩ <;> (rw [e] at e'; cases e')
theorem Grow.rep {sa : Sa} {A : Addr → Prop} {ph ph' : List Addr} {H H' : Hp} {μ : Mu} {v : V} {d : D} (g : Grow ph H ph' H') (M : MuOk sa ph H μ) (r : Rep sa ph A H v d) : Rep sa ph' A H' v d :=
  Rep.mono (fun a vs e => g.keep a _ e fun q => M.noT a q vs e) (fun a vs e n m => ⟨g.keep a _ e m, n, g.notin e m⟩) (fun _ _ e => g.idx e) d v r
theorem Grow.reps {sa : Sa} {A : Addr → Prop} {ph ph' : List Addr} {H H' : Hp} {μ : Mu} {v : List V} {d : List D} (g : Grow ph H ph' H') (M : MuOk sa ph H μ) (r : Reps sa ph A H v d) : Reps sa ph' A H' v d :=
  Reps.mono (fun a vs e => g.keep a _ e fun q => M.noT a q vs e) (fun a vs e n m => ⟨g.keep a _ e m, n, g.notin e m⟩) (fun _ _ e => g.idx e) d v r
/-- .. and one more address is to be kept clear of -/
theorem Grow.repsN {sa : Sa} {A A' : Addr → Prop} {ph ph' : List Addr} {H H' : Hp} {μ : Mu} {v : List V} {d : List D} (g : Grow ph H ph' H') (M : MuOk sa ph H μ) (hA : ∀ a, A' a → A a ∨ H a = none) (r : Reps sa ph A H v d) : Reps sa ph' A' H' v d :=
  Reps.mono (fun a vs e => g.keep a _ e fun q => M.noT a q vs e) (fun a vs e n m => ⟨g.keep a _ e m, (fun z => (hA a z).elim n fun q => by rw [q] at e; cases e), g.notin e m⟩) (fun _ _ e => g.idx e) d v r
theorem Grow.repN {sa : Sa} {A A' : Addr → Prop} {ph ph' : List Addr} {H H' : Hp} {μ : Mu} {v : V} {d : D} (g : Grow ph H ph' H') (M : MuOk sa ph H μ) (hA : ∀ a, A' a → A a ∨ H a = none) (r : Rep sa ph A H v d) : Rep sa ph' A' H' v d :=
  Rep.mono (fun a vs e => g.keep a _ e fun q => M.noT a q vs e) (fun a vs e n m => ⟨g.keep a _ e m, (fun z => (hA a z).elim n fun q => by rw [q] at e; cases e), g.notin e m⟩) (fun _ _ e => g.idx e) d v r
theorem Grow.new {ph : List Addr} {H : Hp} {p : Addr} {o : HO} (h : H p = none) : Grow ph H ph (upd H p o) :=
  ⟨fun a u e _ => by rw [upd_ne (ne_of_none e h)]; exact e, ⟨[], by simp, by simp⟩, fun a u e => ⟨u, by rw [upd_ne (ne_of_none e h)]; exact e⟩⟩
theorem ScrR.grow {K : PySem.W.Frag} {S : List Int} {sa : Sa} {ph ph' : List Addr} {H H' : Hp} {μ : Mu} (s : ScrR K S sa H) (g : Grow ph H ph' H') (M : MuOk sa ph H μ) : ScrR K S sa H' := by
  obtain ⟨hc, s⟩ := s
  refine ⟨hc, ?_⟩
  rcases s with ⟨ob, e⟩ | s
  · refine .inl ⟨ob, g.keep _ _ e fun q => ?_⟩
    rcases M.obj q with ⟨vs, e'⟩ | ⟨C, dx, gs, e'⟩ <;> (rw [e] at e'; cases e')
  · exact .inr s
theorem ScrR.sq {K : PySem.W.Frag} {S : List Int} {sa : Sa} {H : Hp} (s : ScrR K S sa H) : SqL K H sa.a (S.map V.int) := by
  rcases s.2 with ⟨ob, e⟩ | s
  · exact .inl (.inr ⟨ob, e⟩)
  · exact s H
section
variable {F : Fx} {own : Nat → Option Addr} {ph ph' : List Addr} {ρ : Env} {μ μ' : Mu} {σ : L2.St} {H H' : Hp}
theorem Stt.dom (I : Stt F own ph ρ μ σ H) {L : List Nat} {a : Addr} (h : Av F own L a) : H a ≠ none := by
  rcases h with h | ⟨i, h, _⟩
  · exact I.bdom a h
  · obtain ⟨vs, e⟩ := I.oreal i a h
    rw [e]; exact fun z => by cases z
theorem Stt.avphi (I : Stt F own ph ρ μ σ H) {L : List Nat} {a : Addr} (h : Av F own L a) : a ∉ ph := by
  rcases h with h | ⟨i, h, _⟩
  · exact I.bphi a h
  · exact I.ophi i a h
/-- behind a step that grows the heap -/
theorem Stt.grow (I : Stt F own ph ρ μ σ H) (g : Grow ph H ph' H') (M : MuOk F.sa ph' H' μ') : Stt F own ph' ρ μ' σ H' := by
  refine ⟨fun i b d e => ?_, I.lenE, M, fun a o e n => ?_, fun a o e => ?_, ?_, I.onew, fun i p e => ?_, I.oinj, fun i p e => ?_, fun a ha => ?_, fun a ha => ?_, I.onb, I.scr.grow g I.mu, fun p hp => g.rep I.mu (I.held p hp)⟩
  · obtain ⟨v, e1, r⟩ := I.slots i b d e
    refine ⟨v, e1, ?_⟩
    cases b with
    | false => exact g.rep I.mu r
    | true =>
      obtain ⟨q, vs, ds, h1, h2, h3, h4, h5⟩ := r
      exact ⟨q, vs, ds, h1, h2, h3, g.keep _ _ h4 (I.ophi i q h3), g.reps I.mu h5⟩
  · refine g.keep a o (I.fr a o e n) fun q => ?_
    obtain ⟨nw, e2, hn⟩ := I.phx
    rw [e2] at q
    rcases List.mem_append.mp q with q | q
    · exact n q
    · rw [hn a q] at e; cases e
  · cases q : H a with
    | none => exact absurd q (I.old a o e)
    | some u =>
      obtain ⟨u', e'⟩ := g.old a u q
      rw [e']; exact fun z => by cases z
  · obtain ⟨nw, e1, h1⟩ := I.phx
    obtain ⟨nw', e2, h2⟩ := g.ext
    refine ⟨nw ++ nw', by rw [e2, e1, List.append_assoc], fun a ha => ?_⟩
    rcases List.mem_append.mp ha with q | q
    · exact h1 a q
    · cases e : F.H0 a with
      | none => rfl
      | some o => exact absurd (h2 a q) (I.old a o e)
  · obtain ⟨vs, e1⟩ := I.oreal i p e
    exact g.notin e1 (I.ophi i p e)
  · obtain ⟨vs, e1⟩ := I.oreal i p e
    exact ⟨vs, g.keep _ _ e1 (I.ophi i p e)⟩
  · cases q : H a with
    | none => exact absurd q (I.bdom a ha)
    | some u =>
      obtain ⟨u', e'⟩ := g.old a u q
      rw [e']; exact fun z => by cases z
  · cases q : H a with
    | none => exact absurd q (I.bdom a ha)
    | some u => exact g.notin q (I.bphi a ha)
theorem MuOk.grow0 {sa : Sa} (M : MuOk sa ph H μ) {p : Addr} {o : HO} (h : H p = none) : MuOk sa ph (upd H p o) μ := by
  refine ⟨M.len, M.nd, fun n a mo e1 e2 => ?_⟩
  have r := M.mo n a mo e1 e2
  cases mo with
  | lst ds =>
    obtain ⟨vs, e, r⟩ := r
    exact ⟨vs, by rw [upd_ne (ne_of_none e h)]; exact e, (Grow.new h).reps M r⟩
  | ins fs =>
    obtain ⟨dx, gs, e, e2, r⟩ := r
    exact ⟨dx, gs, by rw [upd_ne (ne_of_none e h)]; exact e, e2, (Grow.new h).reps M r⟩
/-- a new thing is laid: all stands -/
theorem Stt.laid {p : Addr} {o : HO} (I : Stt F own ph ρ μ σ H) (h : H p = none) : Stt F own ph ρ μ σ (upd H p o) := I.grow (Grow.new h) (I.mu.grow0 h)
/-- slots forgotten or put by data -/
theorem Stt.slot {ρ' : Env} {σ' : L2.St} (I : Stt F own ph ρ μ σ H) (hl : ρ'.length = σ'.length) (h : ∀ (i : Nat) (b : Bool) (d : D), ρ'[i]? = some (some (b, d)) → ∃ v, σ'[i]? = some (some v) ∧ SlotR F own ph H i v b d) : Stt F own ph ρ' μ σ' H :=
  ⟨h, hl, I.mu, I.fr, I.old, I.phx, I.onew, I.ophi, I.oinj, I.oreal, I.bdom, I.bphi, I.onb, I.scr, I.held⟩
theorem wipeE_len (ρ : Env) : ∀ vs : List Nat, (wipeE ρ vs).length = ρ.length
  | [] => rfl
  | v :: vs => by unfold wipeE; rw [List.length_set, wipeE_len ρ vs]
theorem wipeE_some {ρ : Env} {i : Nat} {x : Bool × D} : ∀ {vs : List Nat}, (wipeE ρ vs)[i]? = some (some x) → ρ[i]? = some (some x) ∧ i ∉ vs
  | [], h => ⟨h, by simp⟩
  | v :: vs, h => by
    unfold wipeE at h
    by_cases hi : v = i
    · subst hi
      by_cases hv : v < (wipeE ρ vs).length
      · rw [List.getElem?_set_self hv] at h; cases h
      · rw [List.getElem?_set, if_pos rfl, if_neg hv] at h; cases h
    · rw [List.getElem?_set_ne hi] at h
      obtain ⟨h1, h2⟩ := wipeE_some h
      exact ⟨h1, by simp only [List.mem_cons, not_or]; exact ⟨fun e => hi e.symm, h2⟩⟩
theorem Stt.wipe (I : Stt F own ph ρ μ σ H) (vs : List Nat) : Stt F own ph (wipeE ρ vs) μ (L2.wipe σ vs) H := by
  refine I.slot (by rw [wipeE_len, wipe_length]; exact I.lenE) fun i b d e => ?_
  obtain ⟨e1, e2⟩ := wipeE_some e
  obtain ⟨v, h1, h2⟩ := I.slots i b d e1
  exact ⟨v, by rw [wipe_out e2]; exact h1, h2⟩
theorem Stt.put (I : Stt F own ph ρ μ σ H) {i : Nat} {v : V} {d : D} (r : Rep F.sa ph (Av F own []) H v d) : Stt F own ph (put ρ i d) μ (σ.set i (some v)) H := by
  refine I.slot (by unfold Ev.put; rw [List.length_set, List.length_set]; exact I.lenE) fun j b e h => ?_
  unfold Ev.put at h
  by_cases hj : i = j
  · subst hj
    by_cases hl : i < ρ.length
    · rw [List.getElem?_set_self hl] at h
      cases h
      exact ⟨v, List.getElem?_set_self (by rw [← I.lenE]; exact hl), r⟩
    · rw [List.getElem?_set, if_pos rfl, if_neg hl] at h; cases h
  · rw [List.getElem?_set_ne hj] at h
    obtain ⟨w, h1, h2⟩ := I.slots j b e h
    exact ⟨w, by rw [List.getElem?_set_ne hj]; exact h1, h2⟩
theorem thaw_len : ∀ (L : List Nat) (ρ : Env), (thaw ρ L).length = ρ.length
  | [], _ => rfl
  | i :: is, ρ => by
    unfold thaw
    rw [thaw_len is]
    split
    · rw [List.length_set]
    · rfl
/-- a thawed slot has its data -/
theorem thaw_some : ∀ {L : List Nat} {ρ : Env} {i : Nat} {b : Bool} {d : D}, (thaw ρ L)[i]? = some (some (b, d)) → ∃ b', ρ[i]? = some (some (b', d)) ∧ (b = true → b' = true ∧ i ∉ L) ∧ (b = false → b' = false ∨ i ∈ L)
  | [], ρ, i, b, d, h => ⟨b, h, fun e => ⟨e, by simp⟩, fun e => .inl e⟩
  | j :: js, ρ, i, b, d, h => by
    unfold thaw at h
    obtain ⟨b', e1, e2, e3⟩ := thaw_some h
    split at e1
    · rename_i b0 d0 hq
      by_cases hj : j = i
      · subst hj
        rw [List.getElem?_set_self (List.getElem?_eq_some_iff.mp hq).1] at e1
        cases e1
        refine ⟨b0, hq, fun e => ?_, fun _ => .inr (by simp)⟩
        have := (e2 e).1
        cases this
      · rw [List.getElem?_set_ne hj] at e1
        exact ⟨b', e1, fun e => ⟨(e2 e).1, by simp only [List.mem_cons, not_or]; exact ⟨fun z => hj z.symm, (e2 e).2⟩⟩, fun e => (e3 e).imp id fun z => List.mem_cons_of_mem _ z⟩
    · rename_i hq
      refine ⟨b', e1, fun e => ⟨(e2 e).1, ?_⟩, fun e => (e3 e).imp id fun z => List.mem_cons_of_mem _ z⟩
      simp only [List.mem_cons, not_or]
      refine ⟨fun z => ?_, (e2 e).2⟩
      subst z
      exact hq b' d e1
def owns (own : Nat → Option Addr) (L : List Nat) : Nat → Option Addr := fun i => if i ∈ L then none else own i
theorem av_owns {L : List Nat} {a : Addr} : Av F (owns own L) [] a ↔ Av F own L a := by
  unfold Av owns
  refine or_congr Iff.rfl ⟨fun ⟨i, h, _⟩ => ?_, fun ⟨i, h, n⟩ => ⟨i, by rw [if_neg n]; exact h, by simp⟩⟩
  by_cases hi : i ∈ L
  · rw [if_pos hi] at h; cases h
  · rw [if_neg hi] at h; exact ⟨i, h, hi⟩
theorem av_mono {L : List Nat} {a : Addr} (h : Av F own L a) : Av F own [] a := by
  rcases h with h | ⟨i, h, _⟩
  · exact .inl h
  · exact .inr ⟨i, h, by simp⟩
theorem av_sub {L L' : List Nat} (hs : ∀ i ∈ L, i ∈ L') {a : Addr} (h : Av F own L' a) : Av F own L a := by
  rcases h with h | ⟨i, h, n⟩
  · exact .inl h
  · exact .inr ⟨i, h, fun q => n (hs i q)⟩
theorem owns_some {L : List Nat} {i : Nat} {p : Addr} (h : owns own L i = some p) : own i = some p ∧ i ∉ L := by
  unfold owns at h
  by_cases hi : i ∈ L
  · rw [if_pos hi] at h; cases h
  · rw [if_neg hi] at h; exact ⟨h, hi⟩
theorem Stt.thaw (I : Stt F own ph ρ μ σ H) (L : List Nat) : Stt F (owns own L) ph (thaw ρ L) μ σ H := by
  refine ⟨fun i b d h => ?_, by rw [thaw_len]; exact I.lenE, I.mu, I.fr, I.old, I.phx, fun i p e => I.onew i p (owns_some e).1, fun i p e => I.ophi i p (owns_some e).1, fun i j p e1 e2 => I.oinj i j p (owns_some e1).1 (owns_some e2).1, fun i p e => I.oreal i p (owns_some e).1, I.bdom, I.bphi, fun i p e => I.onb i p (owns_some e).1, I.scr, fun p hp => (I.held p hp).weaken fun a z => av_mono (av_owns.mp z)⟩
  obtain ⟨b', e1, e2, e3⟩ := thaw_some h
  obtain ⟨v, h1, h2⟩ := I.slots i b' d e1
  refine ⟨v, h1, ?_⟩
  cases b with
  | true =>
    obtain ⟨rfl, hi⟩ := e2 rfl
    obtain ⟨p, vs, ds, q1, q2, q3, q4, q5⟩ := h2
    exact ⟨p, vs, ds, q1, q2, by unfold owns; rw [if_neg hi]; exact q3, q4, q5.weaken fun a z => av_mono (av_owns.mp z)⟩
  | false =>
    cases b' with
    | false => exact Rep.weaken (fun a z => av_mono (av_owns.mp z)) h2
    | true =>
      obtain ⟨p, vs, ds, rfl, rfl, q3, q4, q5⟩ := h2
      have hi : i ∈ L := (e3 rfl).elim (fun z => by cases z) id
      refine .lst q4 (fun z => ?_) (I.ophi i p q3) (q5.weaken fun a z => av_mono (av_owns.mp z))
      rcases av_owns.mp z with z | ⟨j, z, nj⟩
      · exact I.onb i p q3 z
      · exact nj (I.oinj i j p q3 z ▸ hi)
/-- a new list becomes a slot's own -/
theorem Stt.ownNew (I0 : Stt F own ph ρ μ σ H) (I : Stt F own ph' ρ μ' σ H') (g : Grow ph H ph' H') {i : Nat} {p : Addr} {vs : List V} {ds : List D} (hp : H p = none) (hH : H' p = some (.lst vs)) (hn : p ∉ ph')
    (r : Reps F.sa ph' (fun a => Av F own [] a ∨ a = p) H' vs ds) : Stt F (fun j => if j = i then some p else own j) ph' (ρ.set i (some (true, .lst ds))) μ' (σ.set i (some (.ref p))) H' := by
  have look : ∀ {j a}, (if j = i then some p else own j) = some a → (j = i ∧ a = p) ∨ (j ≠ i ∧ own j = some a) := fun {j a} z => by
    by_cases hj : j = i
    · rw [if_pos hj] at z; cases z; exact .inl ⟨hj, rfl⟩
    · rw [if_neg hj] at z; exact .inr ⟨hj, z⟩
  have nav' : ∀ a, Av F (fun j => if j = i then some p else own j) [] a → Av F own [] a ∨ a = p := fun a z => by
    rcases z with z | ⟨j, z, _⟩
    · exact .inl (.inl z)
    · rcases look z with ⟨_, q⟩ | ⟨_, q⟩
      · exact .inr q
      · exact .inl (.inr ⟨j, q, by simp⟩)
  have nav : ∀ a, Av F (fun j => if j = i then some p else own j) [] a → Av F own [] a ∨ H a = none := fun a z => (nav' a z).imp id fun q => by rw [q]; exact hp
  have pown : ∀ j, own j ≠ some p := fun j e => by
    obtain ⟨ws, e'⟩ := I0.oreal j p e
    rw [hp] at e'; cases e'
  refine ⟨fun j b d h => ?_, by rw [List.length_set, List.length_set]; exact I.lenE, I.mu, I.fr, I.old, I.phx, fun j q e => ?_, fun j q e => ?_, fun j k q e1 e2 => ?_, fun j q e => ?_, I.bdom, I.bphi, fun j q e => ?_, I.scr, fun q hq => g.repN I0.mu nav (I0.held q hq)⟩
  · by_cases hj : i = j
    · subst hj
      by_cases hl : i < ρ.length
      · rw [List.getElem?_set_self hl] at h
        cases h
        exact ⟨.ref p, List.getElem?_set_self (by rw [← I.lenE]; exact hl), p, vs, ds, rfl, rfl, if_pos rfl, hH, r.weaken nav'⟩
      · rw [List.getElem?_set, if_pos rfl, if_neg hl] at h; cases h
    · rw [List.getElem?_set_ne hj] at h
      obtain ⟨w, h1, h2⟩ := I0.slots j b d h
      refine ⟨w, by rw [List.getElem?_set_ne hj]; exact h1, ?_⟩
      cases b with
      | false => exact g.repN I0.mu nav h2
      | true =>
        obtain ⟨q, ws, es, q1, q2, q3, q4, q5⟩ := h2
        exact ⟨q, ws, es, q1, q2, by show (if j = i then some p else own j) = some q; rw [if_neg (Ne.symm hj)]; exact q3, g.keep _ _ q4 (I0.ophi j q q3), g.repsN I0.mu nav q5⟩
  · rcases look e with ⟨_, rfl⟩ | ⟨_, q'⟩
    · cases e0 : F.H0 q with
      | none => rfl
      | some o => exact absurd hp (I0.old q o e0)
    · exact I.onew j q q'
  · rcases look e with ⟨_, rfl⟩ | ⟨_, q'⟩
    · exact hn
    · exact I.ophi j q q'
  · rcases look e1 with ⟨a1, rfl⟩ | ⟨a1, q1⟩ <;> rcases look e2 with ⟨a2, a3⟩ | ⟨a2, q2⟩
    · rw [a1, a2]
    · exact absurd q2 (pown k)
    · subst a3; exact absurd q1 (pown j)
    · exact I.oinj j k q q1 q2
  · rcases look e with ⟨_, rfl⟩ | ⟨_, q'⟩
    · exact ⟨vs, hH⟩
    · exact I.oreal j q q'
  · rcases look e with ⟨_, rfl⟩ | ⟨_, q'⟩
    · exact fun z => I0.bdom q z hp
    · exact I.onb j q q'
/-- what an expression's value is: data, and where the expression makes a new list, that list -/
structure Val (F : Fx) (own : Nat → Option Addr) (L : List Nat) (nw : Bool) (H : Hp) (ph' : List Addr) (H' : Hp) (v : V) (d : D) : Prop where
  rep : Rep F.sa ph' (Av F own L) H' v d
  new : nw = true → ∀ ds, d = .lst ds → ∃ p vs, v = .ref p ∧ H p = none ∧ H' p = some (.lst vs) ∧ p ∉ ph' ∧ Reps F.sa ph' (fun a => Av F own L a ∨ a = p) H' vs ds
/-- name = e -/
theorem Stt.bind (I0 : Stt F own ph ρ μ σ H) (I : Stt F own ph' ρ μ' σ H') (g : Grow ph H ph' H') {e : IE} {i : Nat} {v : V} {d : D} (V0 : Val F own (lk e) (newL e) H ph' H' v d) :
    ∃ own', Stt F own' ph' (bindTo ρ i e d) μ' (σ.set i (some v)) H' := by
  have J0 := I0.thaw (lost e d)
  have J := I.thaw (lost e d)
  unfold bindTo
  by_cases hN : (newL e && d.isL) = true
  · rw [hN]
    rw [Bool.and_eq_true] at hN
    cases d with
    | lst ds =>
      obtain ⟨p, vs, rfl, hp, hH, hn, r⟩ := V0.new hN.1 ds rfl
      refine ⟨_, J0.ownNew J g hp hH hn ?_⟩
      by_cases hf : (D.lst ds).flat = true
      · exact Reps.scal hf r
      · have e1 : lost e (.lst ds) = lk e := by
          unfold lost
          rw [if_neg]
          intro z
          simp only [D.sc, Bool.false_or, Bool.and_eq_true] at z
          exact hf z.2
        rw [e1]
        exact r.weaken fun a z => z.imp (fun q => av_owns.mp q) id
    | _ => cases hN.2
  · have hN' : (newL e && d.isL) = false := by simpa using hN
    rw [hN']
    refine ⟨_, J.put ?_⟩
    unfold lost
    by_cases hs : (d.sc || newL e && d.flat) = true
    · rw [if_pos hs]
      rcases Bool.or_eq_true_iff.mp hs with q | q
      · exact V0.rep.scal q
      · rw [Bool.and_eq_true] at q
        cases d with
        | lst ds => rw [q.1] at hN'; cases hN'
        | tup ds => simp [D.flat, D.sc] at q
        | scr => simp [D.flat, D.sc] at q
        | mref n => simp [D.flat, D.sc] at q
        | non => exact V0.rep.scal rfl
        | bl b => exact V0.rep.scal rfl
        | int b => exact V0.rep.scal rfl
        | str b => exact V0.rep.scal rfl
    · rw [if_neg hs]
      exact V0.rep.weaken fun a z => av_owns.mp z
end
end Ev

set_option Elab.async false
set_option linter.all false
set_option maxRecDepth 100000
set_option maxHeartbeats 4000000
namespace Ev
open PySem L2

/-! ### data as PyData -/
mutual
def toPy : D → PyData
  | .non => .none
  | .bl b => .bool b
  | .int i => .int i
  | .str s => .str s
  | .tup ds => .tuple (toPys ds)
  | .lst ds => .list (toPys ds)
  | .scr => .none
  | .mref _ => .none
def toPys : List D → List PyData
  | [] => []
  | d :: ds => toPy d :: toPys ds
end
theorem sh_str {n : Nat} {x : Str} : sh n (.str x) = PyData.strOk x := by cases n <;> rfl
mutual
theorem sh_can : ∀ (d : D) (n : Nat), sh n d = true → (toPy d).canLay0 = true ∧ (toPy d).depth ≤ n
  | .non, n, h => ⟨rfl, by simp [toPy, PyData.depth]⟩
  | .bl _, n, h => ⟨rfl, by simp [toPy, PyData.depth]⟩
  | .int _, n, h => ⟨rfl, by simp [toPy, PyData.depth]⟩
  | .str x, n, h => ⟨by rw [sh_str] at h; exact h, by simp [toPy, PyData.depth]⟩
  | .tup ds, n, h => by
    cases n with
    | zero => cases h
    | succ n =>
      obtain ⟨h1, h2⟩ := shs_can ds n h
      exact ⟨by simpa [toPy, PyData.canLay0] using h1, by simp only [toPy, PyData.depth]; omega⟩
  | .lst ds, n, h => by
    cases n with
    | zero => cases h
    | succ n =>
      obtain ⟨h1, h2⟩ := shs_can ds n h
      exact ⟨by simpa [toPy, PyData.canLay0] using h1, by simp only [toPy, PyData.depth]; omega⟩
  | .scr, n, h => by cases n <;> cases h
  | .mref _, n, h => by cases n <;> cases h
theorem shs_can : ∀ (ds : List D) (n : Nat), ds.all (sh n) = true → PyData.canLayAll0 (toPys ds) = true ∧ PyData.depthAll (toPys ds) ≤ n
  | [], n, _ => ⟨rfl, by simp [toPys, PyData.depthAll]⟩
  | d :: ds, n, h => by
    rw [List.all_cons, Bool.and_eq_true] at h
    obtain ⟨h1, h2⟩ := sh_can d n h.1
    obtain ⟨h3, h4⟩ := shs_can ds n h.2
    exact ⟨by simp [toPys, PyData.canLayAll0, h1, h3], by simp only [toPys, PyData.depthAll]; omega⟩
end
theorem sh_shaped {d : D} (h : sh 8 d = true) : SeqAt.shaped (toPy d) = true := by
  obtain ⟨h1, h2⟩ := sh_can d 8 h
  unfold SeqAt.shaped
  rw [h1, Bool.true_and]
  exact decide_eq_true (by omega)
mutual
theorem deq_eqv : ∀ (a b : D) (n m : Nat), sh n a = true → sh m b = true → PyData.eqv (toPy a) (toPy b) = deq a b
  | .non, b, n, m, h, k => by cases b <;> first | rfl | (cases m <;> cases k)
  | .bl _, b, n, m, h, k => by cases b <;> first | rfl | (cases m <;> cases k)
  | .int _, b, n, m, h, k => by cases b <;> first | rfl | (cases m <;> cases k)
  | .str _, b, n, m, h, k => by cases b <;> first | rfl | (cases m <;> cases k)
  | .scr, b, n, m, h, k => by cases n <;> cases h
  | .mref _, b, n, m, h, k => by cases n <;> cases h
  | .tup xs, b, n, m, h, k => by
    cases n with
    | zero => cases h
    | succ n =>
      cases b with
      | tup ys =>
        cases m with
        | zero => cases k
        | succ m => simp only [toPy, PyData.eqv, deq]; exact deqs_eqv xs ys n m h k
      | _ => first | rfl | (cases m <;> cases k)
  | .lst xs, b, n, m, h, k => by
    cases n with
    | zero => cases h
    | succ n =>
      cases b with
      | lst ys =>
        cases m with
        | zero => cases k
        | succ m => simp only [toPy, PyData.eqv, deq]; exact deqs_eqv xs ys n m h k
      | _ => first | rfl | (cases m <;> cases k)
theorem deqs_eqv : ∀ (a b : List D) (n m : Nat), a.all (sh n) = true → b.all (sh m) = true → PyData.eqvAll (toPys a) (toPys b) = deqs a b
  | [], b, n, m, h, k => by cases b <;> rfl
  | x :: xs, b, n, m, h, k => by
    cases b with
    | nil => rfl
    | cons y ys =>
      rw [List.all_cons, Bool.and_eq_true] at h k
      simp only [toPys, PyData.eqvAll, deqs]
      rw [deq_eqv x y n m h.1 k.1, deqs_eqv xs ys n m h.2 k.2]
end
section
variable {K : PySem.W.Frag} {sa : Sa} {ph : List Addr} {A : Addr → Prop} {H : Hp}
mutual
theorem Rep.dp : ∀ (d : D) (v : V) (n : Nat), sh n d = true → Rep sa ph A H v d → Dp K H v (toPy d)
  | .non, _, n, h, r => by cases r; exact .non
  | .bl b, _, n, h, r => by cases r; exact .bl b
  | .int b, _, n, h, r => by cases r; exact .int b
  | .str b, _, n, h, r => by cases r; exact .str b
  | .scr, _, n, h, r => by cases n <;> cases h
  | .mref _, _, n, h, r => by cases n <;> cases h
  | .tup ds, _, n, h, r => by
    cases n with
    | zero => cases h
    | succ n =>
      cases r with
      | tup e q => exact .tup (SqT.of e) (Reps.dp ds _ n h q)
  | .lst ds, _, n, h, r => by
    cases n with
    | zero => cases h
    | succ n =>
      cases r with
      | lst e _ _ q => exact .lst (SqL.of e) (Reps.dp ds _ n h q)
theorem Reps.dp : ∀ (ds : List D) (vs : List V) (n : Nat), ds.all (sh n) = true → Reps sa ph A H vs ds → DpAll K H vs (toPys ds)
  | [], _, _, _, r => by cases r; exact .nil
  | d :: ds, _, n, h, r => by
    rw [List.all_cons, Bool.and_eq_true] at h
    cases r with
    | cons a b => exact .cons (Rep.dp d _ n h.1 a) (Reps.dp ds _ n h.2 b)
end
end

/-! ### readings -/
abbrev Calls := List Int → Nat → List D → M D
def tE (K : PySem.W.Frag) (cl : Calls) (ie : IE) : TE := fun σ H Q => ∃ F own ph ρ μ d μ', F.K = K ∧ Stt F own ph ρ μ σ H ∧ evE F.S (cl F.S) ie ρ μ = .ok d μ' ∧
  ∀ ph' v H', Stt F own ph' ρ μ' σ H' → Grow ph H ph' H' → Val F own (lk ie) (newL ie) H ph' H' v d → Q v H'
def tT (K : PySem.W.Frag) (cl : Calls) (ie : IE) : TT := fun σ H Q => ∃ F own ph ρ μ b μ', F.K = K ∧ Stt F own ph ρ μ σ H ∧ evE F.S (cl F.S) ie ρ μ = .ok (.bl b) μ' ∧
  ∀ ph' H', Stt F own ph' ρ μ' σ H' → Grow ph H ph' H' → Q b H'
def tEs (K : PySem.W.Frag) (cl : Calls) (ies : IEs) : TA := fun σ H Q => ∃ F own ph ρ μ ds μ', F.K = K ∧ Stt F own ph ρ μ σ H ∧ evEs F.S (cl F.S) ies ρ μ = .ok ds μ' ∧
  ∀ ph' vs H', Stt F own ph' ρ μ' σ H' → Grow ph H ph' H' → Reps F.sa ph' (Av F own (lks ies)) H' vs ds → Q vs H'

theorem _root_.L2.PE.imp {X : Cx} {e : Expr} {t t' : TE} (h : PE X e t) (hm : ∀ σ H Q, t' σ H Q → t σ H Q) : PE X e t' := ⟨fun pins s σ H Q I q => h.run pins s σ H Q I (hm σ H Q q)⟩
theorem _root_.L2.PT.imp {X : Cx} {e : Expr} {t t' : TT} (h : PT X e t) (hm : ∀ σ H Q, t' σ H Q → t σ H Q) : PT X e t' := ⟨fun pins s σ H Q I q => h.run pins s σ H Q I (hm σ H Q q)⟩
theorem _root_.L2.PA.imp {X : Cx} {e : List Expr} {t t' : TA} (h : PA X e t) (hm : ∀ σ H Q, t' σ H Q → t σ H Q) : PA X e t' := ⟨fun pos pins s σ H Q I q => h.run pos pins s σ H Q I (hm σ H Q q)⟩
theorem _root_.L2.PW.imp {X : Cx} {e : Expr} {t t' : TT} (h : PW X e t) (hm : ∀ σ H Q, t' σ H Q → t σ H Q) : PW X e t' := ⟨fun w pins s σ H Q I q => h.run w pins s σ H Q I (hm σ H Q q)⟩
theorem _root_.L2.PS.imp {X : Cx} {e : Stmt} {t t' : TS} (h : PS X e t) (hm : ∀ D σ H, t' D σ H → t D σ H) : PS X e t' := ⟨fun pins s σ H D I q => h.run pins s σ H D I (hm D σ H q)⟩
theorem _root_.L2.PSs.imp {X : Cx} {e : List Stmt} {t t' : TS} (h : PSs X e t) (hm : ∀ D σ H, t' D σ H → t D σ H) : PSs X e t' := ⟨fun pins s σ H D I q => h.run pins s σ H D I (hm D σ H q)⟩

section
variable {K : PySem.W.Frag} {cl : Calls} {F : Fx} {own : Nat → Option Addr} {ph ph2 : List Addr} {ρ : Env} {μ μ1 μ2 : Mu} {σ : L2.St} {H H2 : Hp} {ia ib ic : IE} {x y z : D} {L : List Nat} {nw : Bool}
theorem one {Q2 : VK} (hK : F.K = K) (I : Stt F own ph ρ μ σ H) (h1 : evE F.S (cl F.S) ia ρ μ = .ok x μ1)
    (k : ∀ ph2 vx H2, Stt F own ph2 ρ μ1 σ H2 → Grow ph H ph2 H2 → Rep F.sa ph2 (Av F own (lk ia)) H2 vx x → Q2 vx H2) : tE K cl ia σ H Q2 :=
  ⟨F, own, ph, ρ, μ, x, μ1, hK, I, h1, fun ph1 vx H1 I1 g1 v1 => k ph1 vx H1 I1 g1 v1.rep⟩
theorem two {Q2 : V → V → Hp → Prop} (hK : F.K = K) (I : Stt F own ph ρ μ σ H) (h1 : evE F.S (cl F.S) ia ρ μ = .ok x μ1) (h2 : evE F.S (cl F.S) ib ρ μ1 = .ok y μ2)
    (k : ∀ ph2 vx vy H2, Stt F own ph2 ρ μ2 σ H2 → Grow ph H ph2 H2 → Rep F.sa ph2 (Av F own (lk ia)) H2 vx x → Rep F.sa ph2 (Av F own (lk ib)) H2 vy y → Q2 vx vy H2) :
    tE K cl ia σ H fun vx H1 => tE K cl ib σ H1 fun vy H2 => Q2 vx vy H2 :=
  one hK I h1 fun ph1 vx H1 I1 g1 v1 => one hK I1 h2 fun ph2 vy H2 I2 g2 v2 => k ph2 vx vy H2 I2 (g1.trans g2) (g2.rep I1.mu v1) v2
/-- a value that is no list -/
theorem val0 {ph' : List Addr} {H' : Hp} {v : V} {d : D} (r : Rep F.sa ph' (Av F own L) H' v d) (h : d.isL = false) : Val F own L nw H ph' H' v d := ⟨r, fun _ ds e => by rw [e] at h; cases h⟩
theorem Stt.notPhi (I : Stt F own ph ρ μ σ H) {p : Addr} (h : H p = none) : p ∉ ph := fun q => by
  exact I.mu.here q h
theorem Stt.notAv (I : Stt F own ph ρ μ σ H) {p : Addr} (h : H p = none) : ¬ Av F own L p := fun q => I.dom q h
/-- the end with a new list, a new tuple -/
theorem Grow.none {ph' : List Addr} {H' : Hp} (g : Grow ph H ph' H') {p : Addr} (h : H' p = none) : H p = none := by
  cases e : H p with
  | none => rfl
  | some o => obtain ⟨o', e'⟩ := g.old p o e; rw [h] at e'; cases e'
theorem newLst {Q : VK} {vs : List V} {ds : List D} {p : Addr} (I : Stt F own ph2 ρ μ2 σ H2) (g : Grow ph H ph2 H2) (hp : H2 p = none) (r : Reps F.sa ph2 (Av F own L) H2 vs ds)
    (hQ : ∀ ph' v H', Stt F own ph' ρ μ2 σ H' → Grow ph H ph' H' → Val F own L nw H ph' H' v (.lst ds) → Q v H') : Q (.ref p) (upd H2 p (.lst vs)) := by
  have g2 : Grow ph2 H2 ph2 (upd H2 p (.lst vs)) := Grow.new hp
  refine hQ ph2 _ _ (I.laid hp) (g.trans g2) ⟨.lst upd_same (I.notAv hp) (I.notPhi hp) (g2.reps I.mu r), fun _ es e => ?_⟩
  cases e
  refine ⟨p, vs, rfl, g.none hp, upd_same, I.notPhi hp, g2.repsN I.mu (fun a z => z.imp id fun q => ?_) r⟩
  rw [q]; exact hp
theorem newTup {Q : VK} {vs : List V} {ds : List D} {p : Addr} (I : Stt F own ph2 ρ μ2 σ H2) (g : Grow ph H ph2 H2) (hp : H2 p = none) (r : Reps F.sa ph2 (Av F own L) H2 vs ds)
    (hQ : ∀ ph' v H', Stt F own ph' ρ μ2 σ H' → Grow ph H ph' H' → Val F own L nw H ph' H' v (.tup ds) → Q v H') : Q (.ref p) (upd H2 p (.tup vs)) := by
  have g2 : Grow ph2 H2 ph2 (upd H2 p (.tup vs)) := Grow.new hp
  exact hQ ph2 _ _ (I.laid hp) (g.trans g2) (val0 (.tup upd_same (g2.reps I.mu r)) rfl)
theorem lkL : ∀ a, Av F own (lk ia ++ L) a → Av F own (lk ia) a := fun a h => av_sub (fun i hi => List.mem_append_left _ hi) h
theorem lkR {L' : List Nat} : ∀ a, Av F own (L' ++ L) a → Av F own L a := fun a h => av_sub (fun i hi => List.mem_append_right _ hi) h
end

/-! ### an expression and its language term -/
/-- neither starred nor a slice, nor what the model treats by itself -/
def plainX : Expr → Bool
  | .Starred _ _ => false
  | .Slice _ _ _ _ => false
  | .Set _ _ _ => false
  | .SetComp _ _ _ _ => false
  | .DictComp _ _ _ _ _ => false
  | _ => true
theorem plain_star {X : Cx} {e : Expr} {es : List Expr} (h : plainX e = true) : starEach (e :: es) X.env = (false, eval e X.env) :: starEach es X.env := by
  cases e <;> first | rfl | (cases h; done)
theorem plain_ix {e : Expr} (h : plainX e = true) : PlainIx e := by
  intro o i
  cases e <;> first | rfl | (cases h; done)
theorem plain_fold {X : Cx} {e : Expr} (h : plainX e = true) : ∀ x, foldedSetIterable e X.env x = pure x := by
  intro x
  cases e <;> first | rfl | (cases h; done)
theorem plain_aug {e : Expr} (h : plainX e = true) : ∀ ov iv new, augStore e ov iv new = (do holding [new, ov, iv] (setItem ov iv new); release [new, ov, iv] []; pure .next) := by
  intro ov iv new
  cases e <;> first | rfl | (cases h; done)
theorem plain_marks {op : CmpOp} {e : Expr} (h : plainX e = true) : behindInMarks op e = false := by
  cases e <;> first | rfl | (cases h; done)
def isComp : Expr → Bool
  | .ListComp _ _ _ _ => true
  | _ => false
/-- what may be a test -/
def tst : IE → Bool
  | .ite _ _ _ => false
  | _ => true
structure SE (X : Cx) (cl : Calls) (e : Expr) (ie : IE) : Prop where
  pe : PE X e (tE X.K cl ie)
  pt : tst ie = true → PT X e (tT X.K cl ie)
  pl : plainX e = true
  asg : isComp e = true → ∀ (i : Nat) (y : Str) (py spos : Pos), X.N.Nodup → X.N[i]? = some y → Loc X.env.scope y → (X.fn y = true ∨ X.env.scope.names.lookup y = some .local) → PS X (.Assign [.Name y py] e spos) (tAsg (tE X.K cl ie) (gName i))
/-- the test of an expression of no special form -/
theorem pt_of {X : Cx} {cl : Calls} {e : Expr} {ie : IE} (h : PE X e (tE X.K cl ie)) (he : ∀ whole, isTrue e X.env whole = (do let v ← whole; standAt e.pos; holding [v] (truthy v)) := by intro _; rfl) : PT X e (tT X.K cl ie) := by
  refine (pt_val h he).imp fun σ H Q q => ?_
  obtain ⟨F, own, ph, ρ, μ, b, μ', hK, I, ev, k⟩ := q
  refine ⟨F, own, ph, ρ, μ, _, μ', hK, I, ev, fun ph' v H' I' g V0 => ?_⟩
  cases V0.rep
  exact ⟨b, rfl, k ph' H' I' g⟩
end Ev

set_option Elab.async false
set_option linter.all false
set_option maxRecDepth 100000
set_option maxHeartbeats 4000000
namespace Ev
open PySem L2
section
variable {X : Cx} {cl : Calls} {a b c : Expr} {ia ib ic : IE} {pos : Pos}

theorem million : 1000000 ≤ sizeLine := by rw [sizeLine_eq]; decide

/-! ### constants, names -/
theorem s_const {e : Expr} {ie : IE} {v : V} {d : D} (h : PE X e (tC v)) (hd : d.sc = true) (hr : ∀ sa ph A H, Rep sa ph A H v d) (hev : ∀ S c ρ, evE S c ie ρ = pure d) : PE X e (tE X.K cl ie) := by
  refine h.imp fun σ H Q q => ?_
  obtain ⟨F, own, ph, ρ, μ, d', μ', hK, I, ev, k⟩ := q
  rw [hev] at ev
  obtain ⟨rfl, rfl⟩ := pure_ok ev
  refine k ph v H I (Grow.refl _ _) (val0 (hr _ _ _ _) ?_)
  cases d <;> first | rfl | cases hd
theorem s_non {j : Nat} : SE X cl (.Constant .none j pos) .non :=
  have h : PE X (.Constant .none j pos) (tE X.K cl .non) := s_const pe_non rfl (fun _ _ _ _ => .non) fun _ _ _ => rfl
  ⟨h, fun _ => pt_of h, rfl, fun z => by cases z⟩
theorem s_bl {j : Nat} {x : Bool} : SE X cl (.Constant (.bool x) j pos) (.bl x) :=
  have h : PE X (.Constant (.bool x) j pos) (tE X.K cl (.bl x)) := s_const pe_bl rfl (fun _ _ _ _ => .bl x) fun _ _ _ => rfl
  ⟨h, fun _ => pt_of h, rfl, fun z => by cases z⟩
theorem s_int {j : Nat} {x : Int} : SE X cl (.Constant (.int x) j pos) (.int x) :=
  have h : PE X (.Constant (.int x) j pos) (tE X.K cl (.int x)) := s_const pe_int rfl (fun _ _ _ _ => .int x) fun _ _ _ => rfl
  ⟨h, fun _ => pt_of h, rfl, fun z => by cases z⟩
theorem s_str {j : Nat} {x : Str} : SE X cl (.Constant (.str x) j pos) (.str x) :=
  have h : PE X (.Constant (.str x) j pos) (tE X.K cl (.str x)) := s_const pe_str rfl (fun _ _ _ _ => .str x) fun _ _ _ => rfl
  ⟨h, fun _ => pt_of h, rfl, fun z => by cases z⟩
theorem s_var {i : Nat} {x : Str} (hN : X.N[i]? = some x) (hv : Vis X.env.scope x) (hd : (x == ("__debug__" : Str)) = false) (hcd : (x == ("__classdict__" : Str)) = false) : SE X cl (.Name x pos) (.var i) := by
  have h : PE X (.Name x pos) (tE X.K cl (.var i)) := by
    refine (pe_var hN hv hd hcd).imp fun σ H Q q => ?_
    obtain ⟨F, own, ph, ρ, μ, d, μ', hK, I, ev, k⟩ := q
    have ev : M.opt (look ρ i) μ = .ok d μ' := by simpa [evE] using ev
    obtain ⟨e1, rfl⟩ := opt_ok ev
    unfold look at e1
    split at e1
    · rename_i bb dd hq
      cases e1
      obtain ⟨v, h1, h2⟩ := I.slots i bb d hq
      refine ⟨v, h1, k ph v H I (Grow.refl _ _) ⟨?_, fun z => by cases z⟩⟩
      cases bb with
      | false => exact Rep.weaken (fun a z => av_mono z) h2
      | true =>
        obtain ⟨p, vs, ds, rfl, rfl, q3, q4, q5⟩ := h2
        refine .lst q4 (fun z => ?_) (I.ophi i p q3) (q5.weaken fun a z => av_mono z)
        rcases z with z | ⟨j, z, nj⟩
        · exact I.onb i p q3 z
        · exact nj (by rw [I.oinj i j p q3 z]; simp [lk])
    · cases e1
  exact ⟨h, fun _ => pt_of h, rfl, fun z => by cases z⟩
theorem s_glob {x : Str} {v : V} {d : D} {u : Value} (hg : Gl X x) (hm : X.mg x = some u) (r : RelV v u) (hd : d.sc = true) (hr : ∀ sa ph A H, Rep sa ph A H v d) (hdb : (x == ("__debug__" : Str)) = false) : SE X cl (.Name x pos) (.glob x d) :=
  have h : PE X (.Name x pos) (tE X.K cl (.glob x d)) := s_const (pe_glob hg hm r hdb) hd hr fun _ _ _ => rfl
  ⟨h, fun _ => pt_of h, rfl, fun z => by cases z⟩

/-! ### operators -/
def opOf : BOp → Operator
  | .add => .Add | .sub => .Sub | .mul => .Mult | .fdiv => .FloorDiv | .mod => .Mod | .pow => .Pow
/-- a rule of an operator by values, from what binD says -/
def OpOk (X : Cx) (o : BOp) (r : R2) : Prop := ∀ {F : Fx} {own : Nat → Option Addr} {ph ph2 : List Addr} {ρ : Env} {μ2 : Mu} {σ : L2.St} {H H2 : Hp} {L1 L2 : List Nat} {vx vy : V} {x y d : D} {Q : VK}, F.K = X.K → Stt F own ph2 ρ μ2 σ H2 → Grow ph H ph2 H2 →
  Rep F.sa ph2 (Av F own L1) H2 vx x → Rep F.sa ph2 (Av F own L2) H2 vy y → binD o x y = some d → (∀ ph' v H', Stt F own ph' ρ μ2 σ H' → Grow ph H ph' H' → Val F own (L1 ++ L2) true H ph' H' v d → Q v H') → r vx vy H2 Q
theorem s_op {o : BOp} {r : R2} (hr : OpR X (binaryOp (opOf o)) r) (hk : OpOk X o r) (ha : SE X cl a ia) (hb : SE X cl b ib) : SE X cl (.BinOp a (opOf o) b pos) (.bin o ia ib) := by
  have h : PE X (.BinOp a (opOf o) b pos) (tE X.K cl (.bin o ia ib)) := by
    refine (pe_op hr ha.pe hb.pe).imp fun σ H Q q => ?_
    obtain ⟨F, own, ph, ρ, μ, d, μ', hK, I, ev, k⟩ := q
    obtain ⟨x, μ1, e1, ev⟩ := bind_ok (show (evE F.S (cl F.S) ia ρ >>= fun x => evE F.S (cl F.S) ib ρ >>= fun y => M.opt (binD o x y)) μ = .ok d μ' by simpa [evE] using ev)
    obtain ⟨y, μ2, e2, ev⟩ := bind_ok ev
    obtain ⟨e3, rfl⟩ := opt_ok ev
    exact two hK I e1 e2 fun ph2 vx vy H2 I2 g2 rx ry => hk hK I2 g2 rx ry e3 k
  exact ⟨h, fun _ => pt_of h, rfl, fun z => by cases z⟩
theorem lkA {F : Fx} {own : Nat → Option Addr} {L1 L2 : List Nat} : ∀ a, Av F own (L1 ++ L2) a → Av F own L1 a := fun a h => av_sub (fun i hi => List.mem_append_left _ hi) h
theorem lkB {F : Fx} {own : Nat → Option Addr} {L1 L2 : List Nat} : ∀ a, Av F own (L1 ++ L2) a → Av F own L2 a := fun a h => av_sub (fun i hi => List.mem_append_right _ hi) h
theorem ok_add : OpOk X .add (fun x y H Q => rI0 (fun i j => .int (i + j)) x y H Q ∨ rCatA X.K x y H Q ∨ rCat x y H Q) := by
  intro F own ph ph2 ρ μ2 σ H H2 L1 L2 vx vy x y d Q hK I g rx ry e k
  cases x <;> cases y <;> simp only [binD] at e <;> try (cases e; done)
  · cases e; cases rx; cases ry
    exact .inl ⟨_, _, rfl, rfl, k ph2 _ H2 I g (val0 (.int _) rfl)⟩
  · split at e
    · cases e
      rename_i hz
      cases rx with
      | tup h1 r1 =>
        cases ry with
        | tup h2 r2 =>
          refine .inr (.inl ⟨_, _, _, _, rfl, rfl, SqT.of h1, SqT.of h2, ?_, fun z => ?_, fun z1 z2 => ?_, fun _ _ p hp => ?_⟩)
          · rw [r1.length, r2.length]; exact Nat.le_trans hz million
          · subst z
            cases r1
            exact k ph2 _ H2 I g (val0 (.tup h2 (r2.weaken lkB)) rfl)
          · subst z2
            cases r2
            rw [List.append_nil] at k
            exact k ph2 _ H2 I g (val0 (.tup h1 (r1.weaken lkA)) rfl)
          · exact newTup I g hp ((r1.weaken lkA).append (r2.weaken lkB)) k
    · cases e
  · split at e
    · cases e
      rename_i hz
      cases rx with
      | lst h1 _ _ r1 =>
        cases ry with
        | lst h2 _ _ r2 =>
          refine .inr (.inr ⟨_, _, _, _, rfl, rfl, h1, h2, ?_, fun p hp => ?_⟩)
          · rw [r1.length, r2.length]; exact Nat.le_trans hz million
          · exact newLst I g hp ((r1.weaken lkA).append (r2.weaken lkB)) k
    · cases e
theorem op_addA : OpR X (binaryOp .Add) (fun x y H Q => rI0 (fun i j => .int (i + j)) x y H Q ∨ rCatA X.K x y H Q ∨ rCat x y H Q) := op_add.or (op_catA.or op_cat)
theorem ok_sub : OpOk X .sub (rI0 fun i j => .int (i - j)) := by
  intro F own ph ph2 ρ μ2 σ H H2 L1 L2 vx vy x y d Q hK I g rx ry e k
  cases x <;> cases y <;> simp only [binD] at e <;> try (cases e; done)
  cases e; cases rx; cases ry
  exact ⟨_, _, rfl, rfl, k ph2 _ H2 I g (val0 (.int _) rfl)⟩
theorem ok_fdiv : OpOk X .fdiv (rI CDiv fun i j => .int (i / j)) := by
  intro F own ph ph2 ρ μ2 σ H H2 L1 L2 vx vy x y d Q hK I g rx ry e k
  cases x <;> cases y <;> simp only [binD] at e <;> try (cases e; done)
  split at e
  · cases e; cases rx; cases ry
    rename_i hc
    exact ⟨_, _, rfl, rfl, hc, k ph2 _ H2 I g (val0 (.int _) rfl)⟩
  · cases e
theorem ok_mod : OpOk X .mod (rI (fun _ j => 0 < j) fun i j => .int (i % j)) := by
  intro F own ph ph2 ρ μ2 σ H H2 L1 L2 vx vy x y d Q hK I g rx ry e k
  cases x <;> cases y <;> simp only [binD] at e <;> try (cases e; done)
  split at e
  · cases e; cases rx; cases ry
    rename_i hc
    exact ⟨_, _, rfl, rfl, hc, k ph2 _ H2 I g (val0 (.int _) rfl)⟩
  · cases e
theorem ok_pow : OpOk X .pow (rI CPow fun i j => .int (i ^ j.toNat)) := by
  intro F own ph ph2 ρ μ2 σ H H2 L1 L2 vx vy x y d Q hK I g rx ry e k
  cases x <;> cases y <;> simp only [binD] at e <;> try (cases e; done)
  split at e
  · cases e; cases rx; cases ry
    rename_i hc
    exact ⟨_, _, rfl, rfl, hc, k ph2 _ H2 I g (val0 (.int _) rfl)⟩
  · cases e
/-- t * 1 is t -/
def rRep1 (K : PySem.W.Frag) : R2 := fun x y H Q => ∃ l xs, x = .ref l ∧ y = .int 1 ∧ SqT K H l xs ∧ xs ≠ [] ∧ Q (.ref l) H
theorem tup_times1 (l : Addr) (its : Array Value) (n : Nat) (dd : Option Addr) (sl : Array (Option Value)) (u : Tok) : Meets (Builtin.«tuple.__mul__» ⟨[.ref l, .int 1 u], []⟩)
    (fun _ R s => s.heap.get? l = some ⟨.type "tuple", dd, .seq its n, sl⟩ ∧ R (.ok (.ret (.ref l))) s) :=
  .of_wp fun prog w A R s h => by
    obtain ⟨h0, g0, d0, k0, o0⟩ := s
    obtain ⟨hl, h⟩ := h
    have idx := AutoSeq1.idx_int
    have y1 : (its.isEmpty || (1 : Int) == 1) = true := by rw [show ((1 : Int) == 1) = true from rfl, Bool.or_true]
    wp_walk using wpAny_loadPart' hl
    repeat (first
      | (refine wpAny_ite_false (by decide) ?_; wp_walk using wpAny_loadPart' hl)
      | (refine wpAny_ite_true (by rw [y1]; rfl) ?_; wp_walk using wpAny_loadPart' hl))
    exact ⟨_, rfl, h⟩
theorem op_rep1 : OpR X (binaryOp .Mult) (rRep1 X.K) := by
  intro pins s σ H x y v u Q I rx ry h
  obtain ⟨l, xs, rfl, rfl, hT, _, q⟩ := h
  cases rx
  obtain ⟨t, rfl⟩ := ry
  obtain ⟨its, r, ⟨⟨cls, dd, data, sl⟩, ho, e1, n, e2⟩, _⟩ := I.tuple hT
  simp only at e1 e2
  subst e1 e2
  have fin : EP X pins σ Q (.ref l) s := ⟨.ref l, H, I, rfl, q⟩
  exact wpAny_binaryOp_repeat_ref (T := "tuple") (U := "int") (by decide) ⟨_, ho, rfl⟩ (fun s' => typeIs_int s' 1 t) noFill_tuple_mul F.fills_int_mul F.slot_int_rmul repeat_tuple F.slot_int_index.lookup
    (call_meets F.slot_int_rmul (typeIs_int s 1 t) F.entry_int_rmul (F.args_int_rmul_2 _ _) (int_rmul_tuple 1 t l its.toArray n dd sl)
      ⟨ho, rfl, ⟨_, ho, rfl⟩, call_meets F.slot_tuple_mul ⟨_, ho, rfl⟩ F.entry_tuple_mul (F.args_tuple_mul_2 _ _) (tup_times1 l its.toArray n dd sl t) ⟨ho, fin⟩⟩)
theorem flat_one {α : Type} (xs : List α) : (List.replicate (1 : Int).toNat xs).flatten = xs := by
  show (List.replicate 1 xs).flatten = xs
  simp
theorem ok_mul : OpOk X .mul (fun x y H Q => rI CMul (fun i j => .int (i * j)) x y H Q ∨ rRep x y H Q ∨ rRepT X.K x y H Q ∨ rRep1 X.K x y H Q) := by
  intro F own ph ph2 ρ μ2 σ H H2 L1 L2 vx vy x y d Q hK I g rx ry e k
  cases x <;> cases y <;> simp only [binD] at e <;> try (cases e; done)
  · split at e
    · cases e; cases rx; cases ry
      rename_i hc
      exact .inl ⟨_, _, rfl, rfl, hc, k ph2 _ H2 I g (val0 (.int _) rfl)⟩
    · cases e
  · rename_i xs kk
    split at e
    · cases e
      rename_i hc
      cases ry
      cases rx with
      | tup h1 r1 =>
        have hl := r1.length
        have hne : ∀ {vs : List V}, vs.length = xs.length → vs ≠ [] := fun {vs} e z => hc.1 (by subst z; exact List.eq_nil_of_length_eq_zero e.symm)
        by_cases h1k : kk = 1
        · subst h1k
          rw [flat_one] at k
          exact .inr (.inr (.inr ⟨_, _, rfl, rfl, SqT.of h1, hne hl, k ph2 _ H2 I g (val0 (.tup h1 (r1.weaken lkA)) rfl)⟩))
        · refine .inr (.inr (.inl ⟨_, _, _, rfl, rfl, SqT.of h1, hne hl, by omega, by omega, by rw [hl]; omega, fun p hp => ?_⟩))
          exact newTup I g hp ((r1.rep _).weaken lkA) k
    · cases e
  · rename_i xs kk
    split at e
    · cases e
      rename_i hc
      cases ry
      cases rx with
      | lst h1 _ _ r1 =>
        refine .inr (.inl ⟨_, _, _, rfl, rfl, h1, by omega, by omega, ?_, fun p hp => ?_⟩)
        · rw [r1.length]
          have : xs.length * kk.toNat ≤ 1000 * 1000 := Nat.mul_le_mul hc.2.2 (by omega)
          exact Nat.le_trans this million
        · exact newLst I g hp ((r1.rep _).weaken lkA) k
    · cases e
theorem op_mulA : OpR X (binaryOp .Mult) (fun x y H Q => rI CMul (fun i j => .int (i * j)) x y H Q ∨ rRep x y H Q ∨ rRepT X.K x y H Q ∨ rRep1 X.K x y H Q) := op_mul.or (op_rep.or (op_repT.or op_rep1))
theorem s_bin (o : BOp) (ha : SE X cl a ia) (hb : SE X cl b ib) : SE X cl (.BinOp a (opOf o) b pos) (.bin o ia ib) := by
  cases o with
  | add => exact s_op op_addA ok_add ha hb
  | sub => exact s_op op_sub ok_sub ha hb
  | mul => exact s_op op_mulA ok_mul ha hb
  | fdiv => exact s_op op_fdiv ok_fdiv ha hb
  | mod => exact s_op op_mod ok_mod ha hb
  | pow => exact s_op op_pow ok_pow ha hb
theorem s_neg (ha : SE X cl a ia) : SE X cl (.UnaryOp .USub a pos) (.neg ia) := by
  have h : PE X (.UnaryOp .USub a pos) (tE X.K cl (.neg ia)) := by
    refine (pe_un un_neg ha.pe).imp fun σ H Q q => ?_
    obtain ⟨F, own, ph, ρ, μ, d, μ', hK, I, ev, k⟩ := q
    obtain ⟨x, μ1, e1, ev⟩ := bind_ok (show (evE F.S (cl F.S) ia ρ >>= fun x => M.opt (negD x)) μ = .ok d μ' by simpa [evE] using ev)
    obtain ⟨e3, rfl⟩ := opt_ok ev
    refine one hK I e1 fun ph2 vx H2 I2 g2 rx => ?_
    cases x <;> simp only [negD] at e3 <;> try (cases e3; done)
    cases e3; cases rx
    exact ⟨_, rfl, k ph2 _ H2 I2 g2 (val0 (.int _) rfl)⟩
  exact ⟨h, fun _ => pt_of h, rfl, fun z => by cases z⟩
theorem truth_bl {x : D} {k : Bool} (h : truth x = some k) : x = .bl k := by
  cases x <;> simp [truth] at h <;> first | (subst h; rfl) | cases h
theorem s_not (ha : SE X cl a ia) (ht : tst ia = true) : SE X cl (.UnaryOp .Not a pos) (.not ia) := by
  have run : ∀ {F : Fx} {ρ : Env} {μ μ' : Mu} {d : D}, evE F.S (cl F.S) (.not ia) ρ μ = .ok d μ' → ∃ k, evE F.S (cl F.S) ia ρ μ = .ok (.bl k) μ' ∧ d = .bl (!k) := fun {F ρ μ μ' d} ev => by
    obtain ⟨x, μ1, e1, ev⟩ := bind_ok (show (evE F.S (cl F.S) ia ρ >>= fun x => M.opt (truth x) >>= fun b => pure (.bl (!b))) μ = .ok d μ' by simpa [evE] using ev)
    obtain ⟨k, μ2, e2, ev⟩ := bind_ok ev
    obtain ⟨e3, rfl⟩ := opt_ok e2
    obtain ⟨rfl, rfl⟩ := pure_ok ev
    rw [truth_bl e3] at e1
    exact ⟨k, e1, rfl⟩
  refine ⟨(pe_not ha.pe).imp fun σ H Q q => ?_, fun _ => (pt_not (ha.pt ht)).imp fun σ H Q q => ?_, rfl, fun z => by cases z⟩
  · obtain ⟨F, own, ph, ρ, μ, d, μ', hK, I, ev, k⟩ := q
    obtain ⟨t, e1, rfl⟩ := run ev
    refine one hK I e1 fun ph2 vx H2 I2 g2 rx => ?_
    cases rx
    exact ⟨t, rfl, k ph2 _ H2 I2 g2 (val0 (.bl _) rfl)⟩
  · obtain ⟨F, own, ph, ρ, μ, b, μ', hK, I, ev, k⟩ := q
    obtain ⟨t, e1, e2⟩ := run ev
    cases e2
    exact ⟨F, own, ph, ρ, μ, t, μ', hK, I, e1, fun ph' H' I' g => k ph' H' I' g⟩
end
end Ev

set_option Elab.async false
set_option linter.all false
set_option maxRecDepth 100000
set_option maxHeartbeats 4000000
namespace Ev
open PySem L2
section
variable {X : Cx} {cl : Calls} {a b c : Expr} {ia ib ic : IE} {pos : Pos}

/-! ### comparisons -/
def cOf : COp → CmpOp
  | .eq => .Eq | .ne => .NotEq | .lt => .Lt | .le => .LtE | .gt => .Gt | .ge => .GtE
def rOf (K : PySem.W.Frag) : COp → R2
  | .eq => rEqD K
  | .ne => rNeD K
  | .lt => rI0 fun i j => .bl (decide (i < j))
  | .le => rI0 fun i j => .bl (decide (i ≤ j))
  | .gt => rI0 fun i j => .bl (decide (j < i))
  | .ge => rI0 fun i j => .bl (decide (j ≤ i))
theorem op_of (hu : X.A.units + 64 < cLine) (o : COp) : OpR X (compareOp (cOf o)) (rOf X.K o) := by
  cases o with
  | eq => exact op_eqD hu
  | ne => exact op_neD hu
  | lt => exact op_lt
  | le => exact op_le
  | gt => exact op_gt
  | ge => exact op_ge
theorem canLay_ints : ∀ S : List Int, PyData.canLayAll0 (toPys (S.map D.int)) = true ∧ PyData.depthAll (toPys (S.map D.int)) ≤ 0
  | [] => ⟨rfl, by simp [toPys, PyData.depthAll]⟩
  | x :: r => by
    obtain ⟨h1, h2⟩ := canLay_ints r
    exact ⟨by simp [toPys, toPy, PyData.canLayAll0, PyData.canLay0, h1], by simp only [List.map_cons, toPys, toPy, PyData.depthAll, PyData.depth]; omega⟩
/-- from what cmpD says to the rule's wants -/
theorem cmp_ok {F : Fx} {own : Nat → Option Addr} {ph : List Addr} {ρ : Env} {μ : Mu} {σ : L2.St} {H : Hp} {A1 A2 : Addr → Prop} {o : COp} {vx vy : V} {x y d : D} {Q : VK} (hK : F.K = X.K) (I : Stt F own ph ρ μ σ H) (rx : Rep F.sa ph A1 H vx x) (ry : Rep F.sa ph A2 H vy y)
    (e : cmpD F.S o x y = some d) (hQ : ∀ k, d = .bl k → Q (.bl k) H) : rOf X.K o vx vy H Q := by
  have eqs : ∀ {x y : D} {vx vy : V} {A1 A2 : Addr → Prop}, Rep F.sa ph A1 H vx x → Rep F.sa ph A2 H vy y → (sh 8 x && sh 8 y) = true → (∀ k, k = deq x y → Q (.bl k) H) → rEqD X.K vx vy H Q := fun {x y vx vy A1 A2} rx ry hs hQ => by
    rw [Bool.and_eq_true] at hs
    exact ⟨_, _, Rep.dp x vx 8 hs.1 rx, Rep.dp y vy 8 hs.2 ry, sh_shaped hs.1, sh_shaped hs.2, hQ _ (deq_eqv x y 8 8 hs.1 hs.2)⟩
  have nes : ∀ {x y : D} {vx vy : V} {A1 A2 : Addr → Prop}, Rep F.sa ph A1 H vx x → Rep F.sa ph A2 H vy y → (sh 8 x && sh 8 y) = true → (∀ k, k = (!deq x y) → Q (.bl k) H) → rNeD X.K vx vy H Q := fun {x y vx vy A1 A2} rx ry hs hQ => by
    rw [Bool.and_eq_true] at hs
    exact ⟨_, _, Rep.dp x vx 8 hs.1 rx, Rep.dp y vy 8 hs.2 ry, sh_shaped hs.1, sh_shaped hs.2, hQ _ (congrArg not (deq_eqv x y 8 8 hs.1 hs.2))⟩
  cases o with
  | eq =>
    by_cases hx : x = .scr ∧ y = .lst []
    · obtain ⟨rfl, rfl⟩ := hx
      have e : some (D.bl F.S.isEmpty) = some d := e
      cases e
      cases rx
      cases ry with
      | lst h1 _ _ r1 =>
        cases r1
        obtain ⟨c1, c2⟩ := canLay_ints F.S
        have dps : ∀ S : List Int, DpAll X.K H (S.map V.int) (toPys (S.map D.int)) := fun S => by
          induction S with
          | nil => exact .nil
          | cons z zs ih => exact .cons (.int z) ih
        refine ⟨.list (toPys (F.S.map D.int)), .list [], .lst (hK ▸ I.scr.sq) (dps F.S), .lst (SqL.of h1) .nil, ?_, rfl, ?_⟩
        · unfold SeqAt.shaped
          rw [show PyData.canLay0 (.list (toPys (F.S.map D.int))) = true from c1, Bool.true_and]
          exact decide_eq_true (by simp only [PyData.depth]; omega)
        · have : PyData.eqv (.list (toPys (F.S.map D.int))) (.list []) = F.S.isEmpty := by cases F.S <;> rfl
          rw [this]
          exact hQ _ rfl
    · have e' : (if (sh 8 x && sh 8 y) = true then some (D.bl (deq x y)) else none) = some d := by
        rw [← e]
        cases x <;> try rfl
        cases y <;> try rfl
        rename_i ds
        cases ds with
        | nil => exact absurd ⟨rfl, rfl⟩ hx
        | cons _ _ => rfl
      split at e'
      · rename_i hs
        cases e'
        exact eqs rx ry hs fun k hk => hQ k (by rw [hk])
      · cases e'
  | ne =>
    have e' : (if (sh 8 x && sh 8 y) = true then some (D.bl (!deq x y)) else none) = some d := by rw [← e]; rfl
    split at e'
    · rename_i hs
      cases e'
      exact nes rx ry hs fun k hk => hQ k (by rw [hk])
    · cases e'
  | lt => cases x <;> cases y <;> simp only [cmpD] at e <;> first | (cases e; done) | (cases e; cases rx; cases ry; exact ⟨_, _, rfl, rfl, hQ _ rfl⟩)
  | le => cases x <;> cases y <;> simp only [cmpD] at e <;> first | (cases e; done) | (cases e; cases rx; cases ry; exact ⟨_, _, rfl, rfl, hQ _ rfl⟩)
  | gt => cases x <;> cases y <;> simp only [cmpD] at e <;> first | (cases e; done) | (cases e; cases rx; cases ry; exact ⟨_, _, rfl, rfl, hQ _ rfl⟩)
  | ge => cases x <;> cases y <;> simp only [cmpD] at e <;> first | (cases e; done) | (cases e; cases rx; cases ry; exact ⟨_, _, rfl, rfl, hQ _ rfl⟩)
theorem cmpD_bl {S : List Int} {o : COp} {x y d : D} (e : cmpD S o x y = some d) : ∃ k, d = .bl k := by
  unfold cmpD at e
  split at e
  · cases e; exact ⟨_, rfl⟩
  · split at e
    · cases e; exact ⟨_, rfl⟩
    · cases e
  · split at e
    · cases e; exact ⟨_, rfl⟩
    · cases e
  · cases e; exact ⟨_, rfl⟩
  · cases e
theorem s_cmp (hu : X.A.units + 64 < cLine) (o : COp) (ha : SE X cl a ia) (hb : SE X cl b ib) : SE X cl (.Compare a [cOf o] [b] pos) (.cmp o ia ib) := by
  refine ⟨(pe_cmpR (op_of hu o) ha.pe hb.pe (plain_marks hb.pl)).imp fun σ H Q q => ?_, fun _ => (pt_cmpR (op_of hu o) ha.pe hb.pe (plain_marks hb.pl)).imp fun σ H Q q => ?_, rfl, fun z => by cases z⟩
  · obtain ⟨F, own, ph, ρ, μ, d, μ', hK, I, ev, k⟩ := q
    obtain ⟨x, μ1, e1, ev⟩ := bind_ok (show (evE F.S (cl F.S) ia ρ >>= fun x => evE F.S (cl F.S) ib ρ >>= fun y => M.opt (cmpD F.S o x y)) μ = .ok d μ' by simpa [evE] using ev)
    obtain ⟨y, μ2, e2, ev⟩ := bind_ok ev
    obtain ⟨e3, rfl⟩ := opt_ok ev
    exact two hK I e1 e2 fun ph2 vx vy H2 I2 g2 rx ry => cmp_ok hK I2 rx ry e3 fun t ht => by subst ht; exact k ph2 _ H2 I2 g2 (val0 (.bl _) rfl)
  · obtain ⟨F, own, ph, ρ, μ, t, μ', hK, I, ev, k⟩ := q
    obtain ⟨x, μ1, e1, ev⟩ := bind_ok (show (evE F.S (cl F.S) ia ρ >>= fun x => evE F.S (cl F.S) ib ρ >>= fun y => M.opt (cmpD F.S o x y)) μ = .ok (.bl t) μ' by simpa [evE] using ev)
    obtain ⟨y, μ2, e2, ev⟩ := bind_ok ev
    obtain ⟨e3, rfl⟩ := opt_ok ev
    exact two hK I e1 e2 fun ph2 vx vy H2 I2 g2 rx ry => cmp_ok hK I2 rx ry e3 fun t' ht => by cases ht; exact ⟨t, rfl, k ph2 H2 I2 g2⟩
theorem s_chain (hu : X.A.units + 64 < cLine) (o o' : COp) (ha : SE X cl a ia) (hb : SE X cl b ib) (hc : SE X cl c ic) : SE X cl (.Compare a [cOf o, cOf o'] [b, c] pos) (.chain o o' ia ib ic) := by
  have hm : lastMarks [cOf o, cOf o'] [b, c] = false := plain_marks hc.pl
  refine ⟨(pe_chain (op_of hu o) (op_of hu o') ha.pe hb.pe hc.pe hm).imp fun σ H Q q => ?_, fun _ => (pt_chain (op_of hu o) (op_of hu o') ha.pe hb.pe hc.pe hm).imp fun σ H Q q => ?_, rfl, fun z => by cases z⟩
  · obtain ⟨F, own, ph, ρ, μ, d, μ', hK, I, ev, k⟩ := q
    obtain ⟨x, μ1, e1, ev⟩ := bind_ok (show (evE F.S (cl F.S) ia ρ >>= fun x => evE F.S (cl F.S) ib ρ >>= fun y => M.opt (cmpD F.S o x y) >>= fun t => M.opt (truth t) >>= fun k =>
      if k = true then evE F.S (cl F.S) ic ρ >>= fun z => M.opt (cmpD F.S o' y z) else pure (.bl false)) μ = .ok d μ' by simpa [evE] using ev)
    obtain ⟨y, μ2, e2, ev⟩ := bind_ok ev
    obtain ⟨t, μ3, e3, ev⟩ := bind_ok ev
    obtain ⟨e3', e3''⟩ := opt_ok e3
    subst e3''
    obtain ⟨t2, μ4, e4, ev⟩ := bind_ok ev
    obtain ⟨e4', e5'⟩ := opt_ok e4
    subst e5'
    rw [truth_bl e4'] at e3'
    refine two hK I e1 e2 fun ph2 vx vy H2 I2 g2 rx ry => cmp_ok hK I2 rx ry e3' fun t' ht => ?_
    cases ht
    refine ⟨t2, rfl, ?_⟩
    cases t2 with
    | false =>
      obtain ⟨rfl, rfl⟩ := pure_ok ev
      exact k ph2 _ H2 I2 g2 (val0 (.bl _) rfl)
    | true =>
      obtain ⟨z, μ5, e5, ev⟩ := bind_ok (show (evE F.S (cl F.S) ic ρ >>= fun z => M.opt (cmpD F.S o' y z)) _ = .ok d μ' from ev)
      obtain ⟨e6, rfl⟩ := opt_ok ev
      refine one hK I2 e5 fun ph3 vz H3 I3 g3 rz => cmp_ok hK I3 (g3.rep I2.mu ry) rz e6 fun t' ht => ?_
      subst ht
      exact k ph3 _ H3 I3 (g2.trans g3) (val0 (.bl _) rfl)
  · obtain ⟨F, own, ph, ρ, μ, d, μ', hK, I, ev, k⟩ := q
    obtain ⟨x, μ1, e1, ev⟩ := bind_ok (show (evE F.S (cl F.S) ia ρ >>= fun x => evE F.S (cl F.S) ib ρ >>= fun y => M.opt (cmpD F.S o x y) >>= fun t => M.opt (truth t) >>= fun k =>
      if k = true then evE F.S (cl F.S) ic ρ >>= fun z => M.opt (cmpD F.S o' y z) else pure (.bl false)) μ = .ok (.bl d) μ' by simpa [evE] using ev)
    obtain ⟨y, μ2, e2, ev⟩ := bind_ok ev
    obtain ⟨t, μ3, e3, ev⟩ := bind_ok ev
    obtain ⟨e3', e3''⟩ := opt_ok e3
    subst e3''
    obtain ⟨t2, μ4, e4, ev⟩ := bind_ok ev
    obtain ⟨e4', e5'⟩ := opt_ok e4
    subst e5'
    rw [truth_bl e4'] at e3'
    refine two hK I e1 e2 fun ph2 vx vy H2 I2 g2 rx ry => cmp_ok hK I2 rx ry e3' fun t' ht => ?_
    cases ht
    refine ⟨t2, rfl, ?_⟩
    cases t2 with
    | false =>
      obtain ⟨q, rfl⟩ := pure_ok ev
      cases q
      exact ⟨false, rfl, k ph2 H2 I2 g2⟩
    | true =>
      obtain ⟨z, μ5, e5, ev⟩ := bind_ok (show (evE F.S (cl F.S) ic ρ >>= fun z => M.opt (cmpD F.S o' y z)) _ = .ok (.bl d) μ' from ev)
      obtain ⟨e6, rfl⟩ := opt_ok ev
      refine one hK I2 e5 fun ph3 vz H3 I3 g3 rz => cmp_ok hK I3 (g3.rep I2.mu ry) rz e6 fun t' ht => ?_
      cases ht
      exact ⟨d, rfl, k ph3 H3 I3 (g2.trans g3)⟩

/-! ### is -/
def isOp (n : Bool) : CmpOp := if n then .IsNot else .Is
def isK : IsC → Const
  | .non => .none | .tru => .bool true | .fls => .bool false
theorem rep_non {sa : Sa} {ph : List Addr} {A : Addr → Prop} {H : Hp} {v : V} {x : D} (r : Rep sa ph A H v x) : decide (v = .non) = (match x with | .non => true | _ => false) := by
  cases r <;> simp
theorem s_isC {j : Nat} {pos' : Pos} (n : Bool) (kc : IsC) (ha : SE X cl a ia) : SE X cl (.Compare a [isOp n] [.Constant (isK kc) j pos'] pos) (.isC n kc ia) := by
  have run : ∀ {F : Fx} {ρ : Env} {μ μ' : Mu} {d : D}, evE F.S (cl F.S) (.isC n kc ia) ρ μ = .ok d μ' → ∃ x, evE F.S (cl F.S) ia ρ μ = .ok x μ' ∧ isD n kc x = some d := fun {F ρ μ μ' d} ev => by
    obtain ⟨x, μ1, e1, ev⟩ := bind_ok (show (evE F.S (cl F.S) ia ρ >>= fun x => M.opt (isD n kc x)) μ = .ok d μ' by simpa [evE] using ev)
    obtain ⟨e2, rfl⟩ := opt_ok ev
    exact ⟨x, e1, e2⟩
  have fin : ∀ {x d : D} {v : V} {sa : Sa} {ph : List Addr} {A : Addr → Prop} {H : Hp}, isD n .non x = some d → Rep sa ph A H v x → d = .bl (if n then !decide (v = .non) else decide (v = .non)) := fun {x d v sa ph A H} e r => by
    rw [rep_non r]
    cases x <;> simp only [isD] at e <;> cases e <;> cases n <;> rfl
  have fin2 : ∀ {x d : D} {v : V} {t : Bool} {sa : Sa} {ph : List Addr} {A : Addr → Prop} {H : Hp}, isD n (if t then .tru else .fls) x = some d → Rep sa ph A H v x → ∃ q, v = .bl q ∧ d = .bl (if n then !decide (q = t) else decide (q = t)) := fun {x d v t sa ph A H} e r => by
    cases t <;> cases x <;> simp [isD] at e <;> (cases r; subst e; refine ⟨_, rfl, ?_⟩; rename_i q; cases n <;> cases q <;> rfl)
  cases kc with
  | non =>
    cases n with
    | false =>
      refine ⟨(pe_cmp (pc_isN ha.pe) rfl).imp fun σ H Q q => ?_, fun _ => (pt_cmp (pc_isN ha.pe) rfl).imp fun σ H Q q => ?_, rfl, fun z => by cases z⟩
      · obtain ⟨F, own, ph, ρ, μ, d, μ', hK, I, ev, k⟩ := q
        obtain ⟨x, e1, e2⟩ := run ev
        exact one hK I e1 fun ph2 vx H2 I2 g2 rx => by rw [fin e2 rx] at k; exact k ph2 _ H2 I2 g2 (val0 (.bl _) rfl)
      · obtain ⟨F, own, ph, ρ, μ, d, μ', hK, I, ev, k⟩ := q
        obtain ⟨x, e1, e2⟩ := run ev
        exact one hK I e1 fun ph2 vx H2 I2 g2 rx => by have := fin e2 rx; cases this; exact ⟨_, rfl, k ph2 H2 I2 g2⟩
    | true =>
      refine ⟨(pe_cmp (pc_notN ha.pe) rfl).imp fun σ H Q q => ?_, fun _ => (pt_cmp (pc_notN ha.pe) rfl).imp fun σ H Q q => ?_, rfl, fun z => by cases z⟩
      · obtain ⟨F, own, ph, ρ, μ, d, μ', hK, I, ev, k⟩ := q
        obtain ⟨x, e1, e2⟩ := run ev
        exact one hK I e1 fun ph2 vx H2 I2 g2 rx => by rw [fin e2 rx] at k; exact k ph2 _ H2 I2 g2 (val0 (.bl _) rfl)
      · obtain ⟨F, own, ph, ρ, μ, d, μ', hK, I, ev, k⟩ := q
        obtain ⟨x, e1, e2⟩ := run ev
        exact one hK I e1 fun ph2 vx H2 I2 g2 rx => by have := fin e2 rx; cases this; exact ⟨_, rfl, k ph2 H2 I2 g2⟩
  | tru =>
    cases n with
    | false =>
      refine ⟨(pe_cmpR op_isBl ha.pe pe_bl (nomark _)).imp fun σ H Q q => ?_, fun _ => (pt_cmpR op_isBl ha.pe pe_bl (nomark _)).imp fun σ H Q q => ?_, rfl, fun z => by cases z⟩
      · obtain ⟨F, own, ph, ρ, μ, d, μ', hK, I, ev, k⟩ := q
        obtain ⟨x, e1, e2⟩ := run ev
        exact one hK I e1 fun ph2 vx H2 I2 g2 rx => by obtain ⟨q, rfl, e3⟩ := fin2 (t := true) e2 rx; subst e3; exact ⟨q, true, rfl, rfl, k ph2 _ H2 I2 g2 (val0 (.bl _) rfl)⟩
      · obtain ⟨F, own, ph, ρ, μ, d, μ', hK, I, ev, k⟩ := q
        obtain ⟨x, e1, e2⟩ := run ev
        exact one hK I e1 fun ph2 vx H2 I2 g2 rx => by obtain ⟨q, rfl, e3⟩ := fin2 (t := true) e2 rx; cases e3; exact ⟨q, true, rfl, rfl, _, rfl, k ph2 H2 I2 g2⟩
    | true =>
      refine ⟨(pe_cmpR op_notBl ha.pe pe_bl (nomark _)).imp fun σ H Q q => ?_, fun _ => (pt_cmpR op_notBl ha.pe pe_bl (nomark _)).imp fun σ H Q q => ?_, rfl, fun z => by cases z⟩
      · obtain ⟨F, own, ph, ρ, μ, d, μ', hK, I, ev, k⟩ := q
        obtain ⟨x, e1, e2⟩ := run ev
        exact one hK I e1 fun ph2 vx H2 I2 g2 rx => by obtain ⟨q, rfl, e3⟩ := fin2 (t := true) e2 rx; subst e3; exact ⟨q, true, rfl, rfl, k ph2 _ H2 I2 g2 (val0 (.bl _) rfl)⟩
      · obtain ⟨F, own, ph, ρ, μ, d, μ', hK, I, ev, k⟩ := q
        obtain ⟨x, e1, e2⟩ := run ev
        exact one hK I e1 fun ph2 vx H2 I2 g2 rx => by obtain ⟨q, rfl, e3⟩ := fin2 (t := true) e2 rx; cases e3; exact ⟨q, true, rfl, rfl, _, rfl, k ph2 H2 I2 g2⟩
  | fls =>
    cases n with
    | false =>
      refine ⟨(pe_cmpR op_isBl ha.pe pe_bl (nomark _)).imp fun σ H Q q => ?_, fun _ => (pt_cmpR op_isBl ha.pe pe_bl (nomark _)).imp fun σ H Q q => ?_, rfl, fun z => by cases z⟩
      · obtain ⟨F, own, ph, ρ, μ, d, μ', hK, I, ev, k⟩ := q
        obtain ⟨x, e1, e2⟩ := run ev
        exact one hK I e1 fun ph2 vx H2 I2 g2 rx => by obtain ⟨q, rfl, e3⟩ := fin2 (t := false) e2 rx; subst e3; exact ⟨q, false, rfl, rfl, k ph2 _ H2 I2 g2 (val0 (.bl _) rfl)⟩
      · obtain ⟨F, own, ph, ρ, μ, d, μ', hK, I, ev, k⟩ := q
        obtain ⟨x, e1, e2⟩ := run ev
        exact one hK I e1 fun ph2 vx H2 I2 g2 rx => by obtain ⟨q, rfl, e3⟩ := fin2 (t := false) e2 rx; cases e3; exact ⟨q, false, rfl, rfl, _, rfl, k ph2 H2 I2 g2⟩
    | true =>
      refine ⟨(pe_cmpR op_notBl ha.pe pe_bl (nomark _)).imp fun σ H Q q => ?_, fun _ => (pt_cmpR op_notBl ha.pe pe_bl (nomark _)).imp fun σ H Q q => ?_, rfl, fun z => by cases z⟩
      · obtain ⟨F, own, ph, ρ, μ, d, μ', hK, I, ev, k⟩ := q
        obtain ⟨x, e1, e2⟩ := run ev
        exact one hK I e1 fun ph2 vx H2 I2 g2 rx => by obtain ⟨q, rfl, e3⟩ := fin2 (t := false) e2 rx; subst e3; exact ⟨q, false, rfl, rfl, k ph2 _ H2 I2 g2 (val0 (.bl _) rfl)⟩
      · obtain ⟨F, own, ph, ρ, μ, d, μ', hK, I, ev, k⟩ := q
        obtain ⟨x, e1, e2⟩ := run ev
        exact one hK I e1 fun ph2 vx H2 I2 g2 rx => by obtain ⟨q, rfl, e3⟩ := fin2 (t := false) e2 rx; cases e3; exact ⟨q, false, rfl, rfl, _, rfl, k ph2 H2 I2 g2⟩

/-! ### and, or, if else -/
structure SB (X : Cx) (cl : Calls) (op : BoolOp) (es : List Expr) (ie : IE) : Prop where
  pe : ∀ pos, PE X (.BoolOp op es pos) (tE X.K cl ie)
  pw : ∀ pos, PW X (.BoolOp op es pos) (tT X.K cl ie)
theorem SB.se {op : BoolOp} {es : List Expr} {ie : IE} (h : SB X cl op es ie) : SE X cl (.BoolOp op es pos) ie := ⟨h.pe pos, fun _ => (h.pw pos).pt, rfl, fun z => by cases z⟩
theorem sb_and1 (ha : SE X cl a ia) (ht : tst ia = true) : SB X cl .And [a] (.andL (.cons ia .nil)) := by
  refine ⟨fun pos => (pe_one ha.pe).imp fun σ H Q q => ?_, fun pos => (pw_and1 (ha.pt ht)).imp fun σ H Q q => ?_⟩
  · obtain ⟨F, own, ph, ρ, μ, d, μ', hK, I, ev, k⟩ := q
    exact ⟨F, own, ph, ρ, μ, d, μ', hK, I, by simpa [evE, evAnd] using ev, fun ph' v H' I' g V0 => k ph' v H' I' g ⟨V0.rep.weaken lkA, fun z => by cases z⟩⟩
  · obtain ⟨F, own, ph, ρ, μ, d, μ', hK, I, ev, k⟩ := q
    exact ⟨F, own, ph, ρ, μ, d, μ', hK, I, by simpa [evE, evAnd] using ev, k⟩
theorem sb_or1 (ha : SE X cl a ia) (ht : tst ia = true) : SB X cl .Or [a] (.orL (.cons ia .nil)) := by
  refine ⟨fun pos => (pe_one ha.pe).imp fun σ H Q q => ?_, fun pos => (pw_or1 (ha.pt ht)).imp fun σ H Q q => ?_⟩
  · obtain ⟨F, own, ph, ρ, μ, d, μ', hK, I, ev, k⟩ := q
    exact ⟨F, own, ph, ρ, μ, d, μ', hK, I, by simpa [evE, evOr] using ev, fun ph' v H' I' g V0 => k ph' v H' I' g ⟨V0.rep.weaken lkA, fun z => by cases z⟩⟩
  · obtain ⟨F, own, ph, ρ, μ, d, μ', hK, I, ev, k⟩ := q
    exact ⟨F, own, ph, ρ, μ, d, μ', hK, I, by simpa [evE, evOr] using ev, k⟩
theorem sb_and {rest : List Expr} {ir : IEs} (ht : tst ia = true) (ha : SE X cl a ia) (hb : SB X cl .And (b :: rest) (.andL (.cons ib ir))) : SB X cl .And (a :: b :: rest) (.andL (.cons ia (.cons ib ir))) := by
  have run : ∀ {F : Fx} {ρ : Env} {μ μ' : Mu} {d : D}, evE F.S (cl F.S) (.andL (.cons ia (.cons ib ir))) ρ μ = .ok d μ' →
      ∃ k μ1, evE F.S (cl F.S) ia ρ μ = .ok (.bl k) μ1 ∧ ((k = true ∧ evE F.S (cl F.S) (.andL (.cons ib ir)) ρ μ1 = .ok d μ') ∨ (k = false ∧ d = .bl false ∧ μ1 = μ')) := fun {F ρ μ μ' d} ev => by
    obtain ⟨x, μ1, e1, ev⟩ := bind_ok (show (evE F.S (cl F.S) ia ρ >>= fun x => M.opt (truth x) >>= fun k => if k = true then evAnd F.S (cl F.S) (.cons ib ir) ρ else pure (.bl false)) μ = .ok d μ' by simpa [evE, evAnd] using ev)
    obtain ⟨k, μ2, e2, ev⟩ := bind_ok ev
    obtain ⟨e3, rfl⟩ := opt_ok e2
    rw [truth_bl e3] at e1
    refine ⟨k, _, e1, ?_⟩
    cases k with
    | true => exact .inl ⟨rfl, by simpa [evE] using ev⟩
    | false => obtain ⟨rfl, rfl⟩ := pure_ok ev; exact .inr ⟨rfl, rfl, rfl⟩
  refine ⟨fun pos => (pe_and ha.pe (hb.pe pos)).imp fun σ H Q q => ?_, fun pos => (pw_and (ha.pt ht) (hb.pw pos)).imp fun σ H Q q => ?_⟩
  · obtain ⟨F, own, ph, ρ, μ, d, μ', hK, I, ev, k⟩ := q
    obtain ⟨t, μ1, e1, e2⟩ := run ev
    refine one hK I e1 fun ph2 vx H2 I2 g2 rx => ?_
    cases rx
    refine ⟨t, rfl, ?_⟩
    rcases e2 with ⟨rfl, e2⟩ | ⟨rfl, rfl, rfl⟩
    · rw [if_pos rfl]
      exact ⟨F, own, ph2, ρ, μ1, d, μ', hK, I2, e2, fun ph' v H' I' g V0 => k ph' v H' I' (g2.trans g) ⟨V0.rep.weaken lkB, fun z => by cases z⟩⟩
    · rw [if_neg Bool.false_ne_true]
      exact k ph2 _ H2 I2 g2 (val0 (.bl _) rfl)
  · obtain ⟨F, own, ph, ρ, μ, d, μ', hK, I, ev, k⟩ := q
    obtain ⟨t, μ1, e1, e2⟩ := run ev
    refine ⟨F, own, ph, ρ, μ, t, μ1, hK, I, e1, fun ph2 H2 I2 g2 => ?_⟩
    rcases e2 with ⟨rfl, e2⟩ | ⟨rfl, e3, rfl⟩
    · rw [if_pos rfl]
      exact ⟨F, own, ph2, ρ, μ1, d, μ', hK, I2, e2, fun ph' H' I' g => k ph' H' I' (g2.trans g)⟩
    · rw [if_neg Bool.false_ne_true]
      cases e3
      exact k ph2 H2 I2 g2
theorem sb_or {rest : List Expr} {ir : IEs} (ht : tst ia = true) (ha : SE X cl a ia) (hb : SB X cl .Or (b :: rest) (.orL (.cons ib ir))) : SB X cl .Or (a :: b :: rest) (.orL (.cons ia (.cons ib ir))) := by
  have run : ∀ {F : Fx} {ρ : Env} {μ μ' : Mu} {d : D}, evE F.S (cl F.S) (.orL (.cons ia (.cons ib ir))) ρ μ = .ok d μ' →
      ∃ k μ1, evE F.S (cl F.S) ia ρ μ = .ok (.bl k) μ1 ∧ ((k = false ∧ evE F.S (cl F.S) (.orL (.cons ib ir)) ρ μ1 = .ok d μ') ∨ (k = true ∧ d = .bl true ∧ μ1 = μ')) := fun {F ρ μ μ' d} ev => by
    obtain ⟨x, μ1, e1, ev⟩ := bind_ok (show (evE F.S (cl F.S) ia ρ >>= fun x => M.opt (truth x) >>= fun k => if k = true then pure (.bl true) else evOr F.S (cl F.S) (.cons ib ir) ρ) μ = .ok d μ' by simpa [evE, evOr] using ev)
    obtain ⟨k, μ2, e2, ev⟩ := bind_ok ev
    obtain ⟨e3, rfl⟩ := opt_ok e2
    rw [truth_bl e3] at e1
    refine ⟨k, _, e1, ?_⟩
    cases k with
    | false => exact .inl ⟨rfl, by simpa [evE] using ev⟩
    | true => obtain ⟨rfl, rfl⟩ := pure_ok ev; exact .inr ⟨rfl, rfl, rfl⟩
  refine ⟨fun pos => (pe_or ha.pe (hb.pe pos)).imp fun σ H Q q => ?_, fun pos => (pw_or (ha.pt ht) (hb.pw pos)).imp fun σ H Q q => ?_⟩
  · obtain ⟨F, own, ph, ρ, μ, d, μ', hK, I, ev, k⟩ := q
    obtain ⟨t, μ1, e1, e2⟩ := run ev
    refine one hK I e1 fun ph2 vx H2 I2 g2 rx => ?_
    cases rx
    refine ⟨t, rfl, ?_⟩
    rcases e2 with ⟨rfl, e2⟩ | ⟨rfl, rfl, rfl⟩
    · rw [if_neg Bool.false_ne_true]
      exact ⟨F, own, ph2, ρ, μ1, d, μ', hK, I2, e2, fun ph' v H' I' g V0 => k ph' v H' I' (g2.trans g) ⟨V0.rep.weaken lkB, fun z => by cases z⟩⟩
    · rw [if_pos rfl]
      exact k ph2 _ H2 I2 g2 (val0 (.bl _) rfl)
  · obtain ⟨F, own, ph, ρ, μ, d, μ', hK, I, ev, k⟩ := q
    obtain ⟨t, μ1, e1, e2⟩ := run ev
    refine ⟨F, own, ph, ρ, μ, t, μ1, hK, I, e1, fun ph2 H2 I2 g2 => ?_⟩
    rcases e2 with ⟨rfl, e2⟩ | ⟨rfl, e3, rfl⟩
    · rw [if_neg Bool.false_ne_true]
      exact ⟨F, own, ph2, ρ, μ1, d, μ', hK, I2, e2, fun ph' H' I' g => k ph' H' I' (g2.trans g)⟩
    · rw [if_pos rfl]
      cases e3
      exact k ph2 H2 I2 g2
theorem s_ite (ht : tst ic = true) (hc : SE X cl c ic) (ha : SE X cl a ia) (hb : SE X cl b ib) : SE X cl (.IfExp c a b pos) (.ite ic ia ib) := by
  have h : PE X (.IfExp c a b pos) (tE X.K cl (.ite ic ia ib)) := by
    refine (pe_ifExp (hc.pt ht) ha.pe hb.pe).imp fun σ H Q q => ?_
    obtain ⟨F, own, ph, ρ, μ, d, μ', hK, I, ev, k⟩ := q
    obtain ⟨x, μ1, e1, ev⟩ := bind_ok (show (evE F.S (cl F.S) ic ρ >>= fun x => M.opt (truth x) >>= fun k => if k = true then evE F.S (cl F.S) ia ρ else evE F.S (cl F.S) ib ρ) μ = .ok d μ' by simpa [evE] using ev)
    obtain ⟨t, μ2, e2, ev⟩ := bind_ok ev
    obtain ⟨e3, rfl⟩ := opt_ok e2
    rw [truth_bl e3] at e1
    refine ⟨F, own, ph, ρ, μ, t, _, hK, I, e1, fun ph2 H2 I2 g2 => ?_⟩
    cases t with
    | true =>
      rw [if_pos rfl]
      exact ⟨F, own, ph2, ρ, _, d, μ', hK, I2, ev, fun ph' v H' I' g V0 => k ph' v H' I' (g2.trans g) ⟨V0.rep.weaken lkA, fun z => by cases z⟩⟩
    | false =>
      rw [if_neg Bool.false_ne_true]
      exact ⟨F, own, ph2, ρ, _, d, μ', hK, I2, ev, fun ph' v H' I' g V0 => k ph' v H' I' (g2.trans g) ⟨V0.rep.weaken lkB, fun z => by cases z⟩⟩
  exact ⟨h, fun z => (by cases z), rfl, fun z => by cases z⟩
end
end Ev

set_option Elab.async false
set_option linter.all false
set_option maxRecDepth 100000
set_option maxHeartbeats 4000000
namespace Ev
open PySem L2 PyProof.Rows
section
variable {X : Cx} {cl : Calls} {a b c : Expr} {ia ib ic : IE} {pos p : Pos} {es : List Expr} {ies : IEs}

/-! ### argument lists, displays -/
theorem noStars : ∀ {es : List Expr}, es.all plainX = true → ∀ pos, (backTo pos (starEach es X.env)).any (·.1) = false
  | [], _, _ => rfl
  | e :: es, h, pos => by
    rw [List.all_cons, Bool.and_eq_true] at h
    rw [plain_star h.1]
    show (false || (backTo pos (starEach es X.env)).any (·.1)) = false
    rw [noStars h.2 pos]
    rfl
def IEs.len : IEs → Nat
  | .nil => 0
  | .cons _ es => es.len + 1
structure SA (X : Cx) (cl : Calls) (es : List Expr) (ies : IEs) : Prop where
  pa : PA X es (tEs X.K cl ies)
  pl : es.all plainX = true
  ln : es.length = ies.len
theorem sa_nil : SA X cl [] .nil := ⟨pa_nil.imp fun σ H Q q => by
  obtain ⟨F, own, ph, ρ, μ, ds, μ', hK, I, ev, k⟩ := q
  obtain ⟨rfl, rfl⟩ := pure_ok (show (pure [] : M (List D)) μ = .ok ds μ' by simpa [evEs] using ev)
  exact k ph [] H I (Grow.refl _ _) .nil, rfl, rfl⟩
theorem sa_cons (ha : SE X cl a ia) (hr : SA X cl es ies) : SA X cl (a :: es) (.cons ia ies) := by
  refine ⟨(pa_cons ha.pe hr.pa (plain_star ha.pl)).imp fun σ H Q q => ?_, by rw [List.all_cons, ha.pl, hr.pl]; rfl, congrArg Nat.succ hr.ln⟩
  obtain ⟨F, own, ph, ρ, μ, ds, μ', hK, I, ev, k⟩ := q
  obtain ⟨x, μ1, e1, ev⟩ := bind_ok (show (evE F.S (cl F.S) ia ρ >>= fun d => evEs F.S (cl F.S) ies ρ >>= fun ds => pure (d :: ds)) μ = .ok ds μ' by simpa [evEs] using ev)
  obtain ⟨xs, μ2, e2, ev⟩ := bind_ok ev
  obtain ⟨rfl, rfl⟩ := pure_ok ev
  refine one hK I e1 fun ph1 vx H1 I1 g1 rx => ⟨F, own, ph1, ρ, μ1, xs, _, hK, I1, e2, fun ph2 vs H2 I2 g2 rs => ?_⟩
  exact k ph2 (vx :: vs) H2 I2 (g1.trans g2) (.cons ((g2.rep I1.mu rx).weaken lkA) (rs.weaken lkB))
theorem thousand : 1000 ≤ sizeLine := by rw [sizeLine_eq]; decide
theorem s_tup {j : Nat} (h : SA X cl es ies) : SE X cl (.Tuple es j pos) (.tup ies) := by
  have h : PE X (.Tuple es j pos) (tE X.K cl (.tup ies)) := by
    refine (pe_tup h.pa).imp fun σ H Q q => ?_
    obtain ⟨F, own, ph, ρ, μ, d, μ', hK, I, ev, k⟩ := q
    obtain ⟨ds, μ1, e1, ev⟩ := bind_ok (show (evEs F.S (cl F.S) ies ρ >>= fun ds => if ds.length ≤ 1000 then pure (.tup ds) else M.no) μ = .ok d μ' by simpa [evE] using ev)
    split at ev
    · rename_i hz
      obtain ⟨rfl, rfl⟩ := pure_ok ev
      refine ⟨F, own, ph, ρ, μ, ds, _, hK, I, e1, fun ph2 vs H2 I2 g2 rs => ⟨by rw [rs.length]; exact Nat.le_trans hz thousand, fun q hq => newTup I2 g2 hq rs k⟩⟩
    · cases ev
  exact ⟨h, fun _ => pt_of h, rfl, fun z => by cases z⟩
theorem s_lst (h : SA X cl es ies) : SE X cl (.List es pos) (.lst ies) := by
  have h : PE X (.List es pos) (tE X.K cl (.lst ies)) := by
    refine (pe_lst h.pa).imp fun σ H Q q => ?_
    obtain ⟨F, own, ph, ρ, μ, d, μ', hK, I, ev, k⟩ := q
    obtain ⟨ds, μ1, e1, ev⟩ := bind_ok (show (evEs F.S (cl F.S) ies ρ >>= fun ds => if ds.length ≤ 1000 then pure (.lst ds) else M.no) μ = .ok d μ' by simpa [evE] using ev)
    split at ev
    · rename_i hz
      obtain ⟨rfl, rfl⟩ := pure_ok ev
      refine ⟨F, own, ph, ρ, μ, ds, _, hK, I, e1, fun ph2 vs H2 I2 g2 rs => ⟨by rw [rs.length]; exact Nat.le_trans hz thousand, fun q hq => newLst I2 g2 hq rs k⟩⟩
    · cases ev
  exact ⟨h, fun _ => pt_of h, rfl, fun z => by cases z⟩

/-! ### subscripts -/
theorem Reps.atI {sa : Sa} {ph : List Addr} {A : Addr → Prop} {H : Hp} {vs : List V} {ds : List D} {i : Int} {d : D} (r : Reps sa ph A H vs ds) (h : L2.atI ds i = some d) : ∃ v, L2.atI vs i = some v ∧ Rep sa ph A H v d := by
  unfold L2.atI at h ⊢
  rw [r.length]
  obtain ⟨j, h1, h2⟩ := Option.bind_eq_some_iff.mp h
  obtain ⟨v, h3, h4⟩ := r.get h2
  exact ⟨v, by rw [h1]; exact h3, h4⟩
theorem atI_map {S : List Int} {i x : Int} (h : L2.atI S i = some x) : L2.atI (S.map V.int) i = some (.int x) := by
  unfold L2.atI at h ⊢
  rw [List.length_map]
  obtain ⟨j, h1, h2⟩ := Option.bind_eq_some_iff.mp h
  rw [h1]
  show (S.map V.int)[j]? = _
  rw [List.getElem?_map, h2]
  rfl
theorem s_idx (ha : SE X cl a ia) (hb : SE X cl b ib) : SE X cl (.Subscript a b pos) (.idx ia ib) := by
  have h : PE X (.Subscript a b pos) (tE X.K cl (.idx ia ib)) := by
    refine (pe_ix ix_seq ha.pe hb.pe (plain_ix hb.pl)).imp fun σ H Q q => ?_
    obtain ⟨F, own, ph, ρ, μ, d, μ', hK, I, ev, k⟩ := q
    obtain ⟨x, μ1, e1, ev⟩ := bind_ok (show (evE F.S (cl F.S) ia ρ >>= fun x => evE F.S (cl F.S) ib ρ >>= fun y => M.opt (idxD F.S x y)) μ = .ok d μ' by simpa [evE] using ev)
    obtain ⟨y, μ2, e2, ev⟩ := bind_ok ev
    obtain ⟨e3, rfl⟩ := opt_ok ev
    refine two hK I e1 e2 fun ph2 vx vy H2 I2 g2 rx ry => ?_
    cases x <;> cases y <;> simp only [idxD] at e3 <;> try (cases e3; done)
    · -- a text
      split at e3
      · rename_i z i hz
        obtain ⟨cc, e4, rfl⟩ := Option.map_eq_some_iff.mp e3
        cases rx
        cases ry
        exact .inr (.inr ⟨_, _, cc, rfl, rfl, Nat.le_trans hz million, e4, k ph2 _ H2 I2 g2 (val0 (.str _) rfl)⟩)
      · cases e3
    · -- a tuple
      cases ry
      cases rx with
      | tup h1 r1 =>
        obtain ⟨v, h2, h3⟩ := r1.atI e3
        exact .inr (.inl ⟨_, _, _, v, rfl, rfl, SqT.of h1, h2, k ph2 _ H2 I2 g2 ⟨h3, fun z => by cases z⟩⟩)
    · -- a list
      cases ry
      cases rx with
      | lst h1 _ _ r1 =>
        obtain ⟨v, h2, h3⟩ := r1.atI e3
        exact .inl ⟨_, _, _, v, rfl, rfl, SqL.of h1, h2, k ph2 _ H2 I2 g2 ⟨h3, fun z => by cases z⟩⟩
    · -- the script
      obtain ⟨i, e4, rfl⟩ := Option.map_eq_some_iff.mp e3
      cases ry
      cases rx
      exact .inl ⟨_, _, _, _, rfl, rfl, hK ▸ I2.scr.sq, atI_map e4, k ph2 _ H2 I2 g2 (val0 (.int _) rfl)⟩
  exact ⟨h, fun _ => pt_of h, rfl, fun z => by cases z⟩

/-! ### slices -/
def tO (K : PySem.W.Frag) (cl : Calls) (io : IO) : TO := fun σ H Q => ∃ F own ph ρ μ o x μ', F.K = K ∧ Stt F own ph ρ μ σ H ∧ evO F.S (cl F.S) io ρ μ = .ok o μ' ∧ optI o = some x ∧
  ∀ ph' H', Stt F own ph' ρ μ' σ H' → Grow ph H ph' H' → Q x H'
structure SO (X : Cx) (cl : Calls) (e : Option Expr) (io : IO) : Prop where
  po : PO X e (tO X.K cl io)
theorem _root_.L2.PO.imp {X : Cx} {e : Option Expr} {t t' : TO} (h : PO X e t) (hm : ∀ σ H Q, t' σ H Q → t σ H Q) : PO X e t' := ⟨fun pins s σ H Q I q => h.run pins s σ H Q I (hm σ H Q q)⟩
theorem so_none : SO X cl none .none := ⟨po_none.imp fun σ H Q q => by
  obtain ⟨F, own, ph, ρ, μ, o, x, μ', hK, I, ev, e, k⟩ := q
  obtain ⟨rfl, rfl⟩ := pure_ok (show (pure none : M (Option D)) μ = .ok o μ' by simpa [evO] using ev)
  cases e
  exact k ph H I (Grow.refl _ _)⟩
theorem so_some (ha : SE X cl a ia) : SO X cl (some a) (.some ia) := ⟨(po_some ha.pe).imp fun σ H Q q => by
  obtain ⟨F, own, ph, ρ, μ, o, x, μ', hK, I, ev, e, k⟩ := q
  obtain ⟨d, μ1, e1, ev⟩ := bind_ok (show (evE F.S (cl F.S) ia ρ >>= fun d => pure (some d)) μ = .ok o μ' by simpa [evO] using ev)
  obtain ⟨rfl, rfl⟩ := pure_ok ev
  refine one hK I e1 fun ph2 vx H2 I2 g2 rx => ?_
  cases d <;> simp only [optI] at e <;> try (cases e; done)
  cases e
  cases rx
  exact ⟨_, rfl, k ph2 H2 I2 g2⟩⟩
theorem Reps.cut {sa : Sa} {ph : List Addr} {A : Addr → Prop} {H : Hp} {vs : List V} {ds : List D} (r : Reps sa ph A H vs ds) (lo hi : Option Int) : Reps sa ph A H (cutV vs lo hi) (cutD ds lo hi) := by
  unfold cutV cutD
  rw [r.length]
  exact (r.drop _).take _
theorem cut_whole {vs : List D} {lo hi : Option Int} (h : HT.sIx vs.length 0 lo = 0 ∧ HT.sIx vs.length vs.length hi = vs.length) : cutD vs lo hi = vs := by
  unfold cutD
  rw [h.1, h.2, List.drop_zero, Nat.sub_zero, List.take_length]
theorem s_slice {l h : Option Expr} {il ih : IO} {p2 : Pos} (ha : SE X cl a ia) (hl : SO X cl l il) (hh : SO X cl h ih) : SE X cl (.Subscript a (.Slice l h none p2) pos) (.slice ia il ih) := by
  have h : PE X (.Subscript a (.Slice l h none p2) pos) (tE X.K cl (.slice ia il ih)) := by
    refine (pe_slice (sl_list.or sl_tupA) ha.pe hl.po hh.po).imp fun σ H Q q => ?_
    obtain ⟨F, own, ph, ρ, μ, d, μ', hK, I, ev, k⟩ := q
    obtain ⟨x, μ1, e1, ev⟩ := bind_ok (show (evE F.S (cl F.S) ia ρ >>= fun x => evO F.S (cl F.S) il ρ >>= fun l => M.opt (optI l) >>= fun l => evO F.S (cl F.S) ih ρ >>= fun h => M.opt (optI h) >>= fun h => M.opt (sliceD x l h)) μ = .ok d μ' by simpa [evE] using ev)
    obtain ⟨l1, μ2, e2, ev⟩ := bind_ok ev
    obtain ⟨l2, μ3, e3, ev⟩ := bind_ok ev
    obtain ⟨e3', e3''⟩ := opt_ok e3
    subst e3''
    obtain ⟨h1, μ4, e4, ev⟩ := bind_ok ev
    obtain ⟨h2, μ5, e5, ev⟩ := bind_ok ev
    obtain ⟨e5', e5''⟩ := opt_ok e5
    subst e5''
    obtain ⟨e6, e6'⟩ := opt_ok ev
    subst e6'
    refine one hK I e1 fun ph2 vx H2 I2 g2 rx => ⟨F, own, ph2, ρ, μ1, l1, l2, _, hK, I2, e2, e3', fun ph3 H3 I3 g3 => ⟨F, own, ph3, ρ, _, h1, h2, _, hK, I3, e4, e5', fun ph4 H4 I4 g4 => ?_⟩⟩
    have g := (g2.trans g3).trans g4
    have rx := g4.rep I3.mu (g3.rep I2.mu rx)
    cases x <;> simp only [sliceD] at e6 <;> try (cases e6; done)
    · cases e6
      cases rx with
      | tup q1 r1 =>
        refine .inr ⟨_, _, rfl, SqT.of q1, fun hw => ?_, fun hw p hp => newTup I4 g hp (r1.cut l2 h2) k⟩
        rw [r1.length] at hw
        rw [cut_whole hw] at k
        exact k ph4 _ H4 I4 g (val0 (.tup q1 r1) rfl)
    · cases e6
      cases rx with
      | lst q1 _ _ r1 => exact .inl ⟨_, _, rfl, SqL.of q1, fun p hp => newLst I4 g hp (r1.cut l2 h2) k⟩
  exact ⟨h, fun _ => pt_of h, rfl, fun z => by cases z⟩

/-! ### t[::-1] of a tuple (the list's rule: HandS.Style) -/
theorem sliceApplied_rev {prog : Program} {w : World} {A : Around} {E : Value → Shared → Prop} {s : Shared} {sl : Addr} {vl vu vs : Value} {n : Nat} {Q : Int × Int × Nat → Shared → Prop} (hs : s.heap.IsSliceOf sl vl vu vs) (pl : IsPart vl none) (pu : IsPart vu none) (ps : IsPart vs (some (-1)))
    (h : Q ((n : Int) - 1, -1, n) s) : wpAny (model prog w) A (Builtin.Slice.sliceApplied (.ref sl) (pure (n : Int))) Q E s := by
  obtain ⟨os, hos, hcs, hds⟩ := id hs
  unfold Builtin.Slice.sliceApplied Builtin.Slice.sliceFields
  refine wpAny_bind (wpAny_bind (wpAny_field hos hds (x := vl) rfl (wpAny_bind (wpAny_field hos hds (x := vu) rfl (wpAny_bind (wpAny_field hos hds (x := vs) rfl (wpAny_pure ?_)))))))
  refine wpAny_bind (HT.slicePart_ ps ?_)
  show wpAny _ _ (if ((-1 : Int) == 0) = true then _ else _) _ _ s
  rw [if_neg (by decide)]
  refine wpAny_bind (HT.slicePart_ pl (wpAny_bind (HT.slicePart_ pu (wpAny_bind (wpAny_pure ?_)))))
  show wpAny _ _ (match Builtin.Slice.sliceAdjust none none (-1) (n : Int) with | (lo, hi) => pure (lo, (-1 : Int), Builtin.Slice.slicePlaces lo hi (-1))) _ _ s
  have e1 : Builtin.Slice.sliceAdjust none none (-1) (n : Int) = ((n : Int) - 1, -1) := rfl
  rw [e1]
  have e2 : Builtin.Slice.slicePlaces ((n : Int) - 1) (-1) (-1) = n := by
    unfold Builtin.Slice.slicePlaces
    rw [if_neg (by decide)]
    split
    · rw [show (-(-1) : Int) = 1 by decide, Int.ediv_one]; omega
    · omega
  show wpAny _ _ (pure ((n : Int) - 1, (-1 : Int), Builtin.Slice.slicePlaces ((n : Int) - 1) (-1) (-1))) _ _ s
  rw [e2]
  exact wpAny_pure h
theorem fm_congr {α β : Type} {f g : α → Option β} : ∀ {l : List α}, (∀ x ∈ l, f x = g x) → l.filterMap f = l.filterMap g
  | [], _ => rfl
  | x :: r, h => by
    rw [List.filterMap_cons, List.filterMap_cons, h x (by simp), fm_congr fun y hy => h y (by simp [hy])]
theorem pick_rev (xs : Array Value) : ((List.range xs.size).filterMap fun (m : Nat) => xs[(((xs.size : Nat) : Int) - 1 + (m : Int) * (-1)).toNat]?).toArray = xs.toList.reverse.toArray := by
  have e : (List.range xs.size).filterMap (fun (m : Nat) => xs[(((xs.size : Nat) : Int) - 1 + (m : Int) * (-1)).toNat]?) = ((List.range xs.size).map (fun k => xs.size - 1 - k)).filterMap (xs[·]?) := by
    rw [List.filterMap_map]
    apply fm_congr
    intro m hm
    have := List.mem_range.mp hm
    show xs[(((xs.size : Nat) : Int) - 1 + (m : Int) * (-1)).toNat]? = xs[xs.size - 1 - m]?
    have : (((xs.size : Nat) : Int) - 1 + (m : Int) * (-1)).toNat = xs.size - 1 - m := by omega
    rw [this]
  rw [e, PySem.W.krv_range, List.filterMap_reverse, PySem.W.krv_all]
theorem getItem_tuple_rev {prog : Program} {w : World} {A : Around} {E : Value → Shared → Prop} {s : Shared} {t sl : Addr} {items : Array Value} {vl vu vs : Value} {Q : Value → Shared → Prop} (ht : IsTup s.heap t items) (hs : s.heap.IsSliceOf sl vl vu vs) (pl : IsPart vl none) (pu : IsPart vu none) (ps : IsPart vs (some (-1)))
    (h : Q (.ref s.heap.objs.size) { s with heap := s.heap.push { cls := .type "tuple", data := .seq items.toList.reverse.toArray } })
    (hsz : items.size ≤ sizeLine) : wpAny (model prog w) A (getItem (.ref t) (.ref sl)) Q E s := by
  have htake : sizeOk (.seq items.toList.reverse.toArray) := by
    show items.toList.reverse.toArray.size ≤ sizeLine
    rw [List.size_toArray, List.length_reverse, Array.length_toList]
    omega
  obtain ⟨os, hos, hcs, hds⟩ := id hs
  have hTs : s.TypeIs (.ref sl) "slice" := ⟨os, hos, hcs⟩
  unfold getItem
  try with_reducible refine wpAny_holding ?_
  first | refine wpAny_bind (wpAny_pure ?_) | skip
  refine wpAny_bind (wpAny_sequenceKey ht.typeIs (by decide) ?_)
  refine wpAny_bind (wpAny_callSpecial?_slot (name := Str.ofString "__getitem__") ht.typeIs PyProof.Rows.slot_tuple_getitem
    (wpAny_call_entry PyProof.Rows.slot_tuple_getitem ht.typeIs entry_tuple_getitem ?_ (args_tuple_getitem _ _)))
  show wpAny _ _ (Builtin.Tuple.tupleItemsOf (.ref t) >>= _) _ _ s
  refine wpAny_bind (tupleItemsOf_ ht ?_)
  refine wpAny_bind (wpAny_typeOf hTs ?_)
  rw [if_pos (by decide)]
  refine wpAny_bind (sliceApplied_rev hs pl pu ps ?_)
  have hno : ¬ ((((items.size : Nat) : Int) - 1 == 0 && (-1 : Int) == 1 && items.size == items.size) = true) := by
    intro q
    rw [Bool.and_eq_true, Bool.and_eq_true] at q
    exact absurd q.1.2 (by decide)
  show wpAny _ _ (if (((items.size : Nat) : Int) - 1 == 0 && (-1 : Int) == 1 && items.size == items.size) = true then _ else _) _ _ s
  rw [if_neg hno, pick_rev]
  first
    | exact wpAny_bind (m := Builtin.Tuple.tupleExact _) (wpAny_newObj_type (wpAny_pure ⟨_, rfl, wpAny_pure h⟩) htake)
    | exact wpAny_bind (m := Builtin.Tuple.tupleExact _) (wpAny_newObj_type (wpAny_bind (wpAny_pure (wpAny_pure ⟨_, rfl, wpAny_pure h⟩))) htake)
    | exact wpAny_bind (wpAny_bind (m := Builtin.Tuple.tupleExact _) (wpAny_newObj_type (wpAny_pure (wpAny_pure ⟨_, rfl, wpAny_pure h⟩)) htake))
    | exact wpAny_bind (wpAny_bind (m := Builtin.Tuple.tupleExact _) (wpAny_newObj_type (wpAny_pure ⟨_, rfl, wpAny_pure h⟩) htake))
def tRevA (K : PySem.W.Frag) (te : TE) : TE := fun σ H Q => te σ H fun x H1 => ∃ a xs, x = .ref a ∧ ((SqL K H1 a xs ∧ ∀ p, H1 p = none → Q (.ref p) (upd H1 p (.lst xs.reverse))) ∨ (SqT K H1 a xs ∧ ∀ p, H1 p = none → Q (.ref p) (upd H1 p (.tup xs.reverse))))
theorem pe_revA {e : Expr} {te : TE} {k : Nat} {p1 p2 p3 pos : Pos} (he : PE X e te) : PE X (.Subscript e (.Slice none none (some (.UnaryOp .USub (.Constant (.int 1) k p1) p2)) p3) pos) (tRevA X.K te) := by
  refine ⟨fun pins s σ H Q I h => ?_⟩
  refine Subscript_ (thn (he.run pins s σ H _ I h) fun v s1 ⟨x, H1, I1, r1, q1⟩ => ?_)
  obtain ⟨a, xs, ex, hx⟩ := q1
  subst ex
  cases r1
  have hst : PO X (some (.UnaryOp .USub (.Constant (.int 1) k p1) p2)) (tPart (tUn (rU fun i => .int (-i)) (tC (.int 1)))) := po_some (pe_un un_neg pe_int)
  refine wpAny_Slice (thn (po_none.run pins s1 σ H1 (fun o H2 => o = none ∧ H2 = H1) I1 ⟨rfl, rfl⟩) fun vl s2 ⟨l, H2, I2, pl, el, e2⟩ => ?_)
  subst el e2
  refine thn (po_none.run pins s2 σ H2 (fun o H3 => o = none ∧ H3 = H2) I2 ⟨rfl, rfl⟩) fun vu s3 ⟨u, H3, I3, pu, eu, e3⟩ => ?_
  subst eu e3
  refine thn (hst.run pins s3 σ H3 (fun o H4 => o = some (-1) ∧ H4 = H3) I3 ⟨1, rfl, -1, rfl, rfl, rfl⟩) fun vs s4 ⟨o, H4, I4, ps, eo, e4⟩ => ?_
  subst eo e4
  have I5 : Inv X pins σ H4 { s4 with heap := s4.heap.push { cls := .type "slice", data := .fields #[vl, vu, vs] } } := I4.kept (t' := s4.toks) fun b ob q => Heap.get?_push_of_some _ q
  rcases hx with ⟨hx, q⟩ | ⟨hx, q⟩
  · obtain ⟨its, r, ht, hz⟩ := I5.list hx
    have hlen := r.length
    show wpAny (model X.prog X.w) X.A (subscriptTail e (.Slice none none (some (.UnaryOp .USub (.Constant (.int 1) k p1) p2)) p3) (.ref a) (.ref s4.heap.objs.size)) (EP X pins σ Q) X.xe { s4 with heap := s4.heap.push { cls := .type "slice", data := .fields #[vl, vu, vs] } }
    refine tail_any (ops := [.ref a, .ref s4.heap.objs.size]) ht.isList.typeIs (PySem.slot_list_getitem.lookup) ?_ (by with_unfolding_all rfl)
    refine wpAny_getItem_list_slice ht.isList (Heap.IsSliceOf.new _ vl vu vs) pl pu ps (by decide) ?_ (by rw [List.size_toArray]; omega)
    rw [PySem.W.krv_pick]
    refine ⟨.ref _, _, I5.laid (t' := s4.toks) (o := .lst xs.reverse) (fun b ob q => Heap.get?_push_of_some _ q) (Nat.le_refl _) ?_, rfl, q _ (I5.hok.fresh (Nat.le_refl _))⟩
    exact ⟨by rw [List.length_reverse]; exact hz, _, 0, r.reverse, Heap.get?_push_size _ rfl⟩
  · obtain ⟨its, r, ht, hz⟩ := I5.tuple hx
    have hlen := r.length
    show wpAny (model X.prog X.w) X.A (subscriptTail e (.Slice none none (some (.UnaryOp .USub (.Constant (.int 1) k p1) p2)) p3) (.ref a) (.ref s4.heap.objs.size)) (EP X pins σ Q) X.xe { s4 with heap := s4.heap.push { cls := .type "slice", data := .fields #[vl, vu, vs] } }
    refine tail_any (ops := [.ref a, .ref s4.heap.objs.size]) ht.typeIs (PyProof.Rows.slot_tuple_getitem.lookup) ?_ (by with_unfolding_all rfl)
    refine getItem_tuple_rev ht (Heap.IsSliceOf.new _ vl vu vs) pl pu ps ?_ (by rw [List.size_toArray]; omega)
    refine ⟨.ref _, _, I5.laid (t' := s4.toks) (o := .tup xs.reverse) (fun b ob q => Heap.get?_push_of_some _ q) (Nat.le_refl _) ?_, rfl, q _ (I5.hok.fresh (Nat.le_refl _))⟩
    exact ⟨by rw [List.length_reverse]; exact hz, its.reverse, r.reverse, ⟨_, Heap.get?_push_size _ rfl, rfl, _, rfl⟩⟩
theorem s_rev {k : Nat} {p1 p2 p3 : Pos} (ha : SE X cl a ia) : SE X cl (.Subscript a (.Slice none none (some (.UnaryOp .USub (.Constant (.int 1) k p1) p2)) p3) pos) (.rev ia) := by
  have h : PE X (.Subscript a (.Slice none none (some (.UnaryOp .USub (.Constant (.int 1) k p1) p2)) p3) pos) (tE X.K cl (.rev ia)) := by
    refine (pe_revA ha.pe).imp fun σ H Q q => ?_
    obtain ⟨F, own, ph, ρ, μ, d, μ', hK, I, ev, k⟩ := q
    obtain ⟨x, μ1, e1, ev⟩ := bind_ok (show (evE F.S (cl F.S) ia ρ >>= fun x => M.opt (revD x)) μ = .ok d μ' by simpa [evE] using ev)
    obtain ⟨e3, rfl⟩ := opt_ok ev
    refine one hK I e1 fun ph2 vx H2 I2 g2 rx => ?_
    cases x <;> simp only [revD] at e3 <;> try (cases e3; done)
    · cases e3
      cases rx with
      | tup q1 r1 => exact ⟨_, _, rfl, .inr ⟨SqT.of q1, fun p hp => newTup I2 g2 hp r1.reverse k⟩⟩
    · cases e3
      cases rx with
      | lst q1 _ _ r1 => exact ⟨_, _, rfl, .inl ⟨SqL.of q1, fun p hp => newLst I2 g2 hp r1.reverse k⟩⟩
  exact ⟨h, fun _ => pt_of h, rfl, fun z => by cases z⟩
end
end Ev

set_option Elab.async false
set_option linter.all false
set_option maxRecDepth 100000
set_option maxHeartbeats 4000000
namespace Ev
open PySem L2 PyProof.Rows
section
variable {X : Cx} {cl : Calls} {a b c : Expr} {ia ib ic : IE} {pos p : Pos} {es : List Expr} {ies : IEs}
/-! ### built-ins of one argument -/
/-- sum(t) of a tuple of ints -/
def rSumT (K : PySem.W.Frag) : List V → Hp → VK → Prop := fun vs H Q => ∃ (a : Addr) (ns : List Int), vs = [V.ref a] ∧ SqT K H a (ns.map V.int) ∧ Q (.int ns.sum) H
theorem cr_sumT (hc : X.calm = true) : CallR X (.builtin "sum") (rSumT X.K) := by
  intro pins s σ H vs us Q I r h
  obtain ⟨a, ns, rfl, hs, q⟩ := h
  obtain ⟨its, rv, ht, hz⟩ := I.tuple hs
  rw [Vals.ref1 r]
  have hi : IntsAre its ns := intsAre_of rv
  have hl : s.heap.IsTuple a its.toArray := ht
  obtain ⟨xs, hx⟩ := hi.allInts.items
  have hn : numsOf its.toArray.toList = ns := by rw [show its.toArray.toList = its from rfl, hi.numsOf]
  rw [hx] at hl hn
  rw [nums_intItems] at hn
  refine PySem.W.ktm_sumG (I.ok.hd hc) hl fun h' tk t' hk => ?_
  refine ⟨.int ns.sum, H, I.kept hk, ⟨t', ?_⟩, q⟩
  rw [preSum_eq, List.take_of_length_le (by simp), hn]
/-- min(xs), max(xs) -/
theorem minI_mem : ∀ {is : List Int} {m : Int}, minI is = some m → m ∈ is ∧ ∀ y ∈ is, m ≤ y
  | [], _, h => by cases h
  | [x], m, h => by
    have : x = m := Option.some.inj h
    subst this
    exact ⟨by simp, fun y hy => by simp at hy; omega⟩
  | x :: y :: r, m, h => by
    obtain ⟨k, h1, h2⟩ := Option.map_eq_some_iff.mp (show (minI (y :: r)).map (fun m => if m < x then m else x) = some m from h)
    obtain ⟨h3, h4⟩ := minI_mem h1
    by_cases hk : k < x
    · rw [if_pos hk] at h2
      subst h2
      exact ⟨List.mem_cons_of_mem _ h3, fun z hz => by
        rcases List.mem_cons.mp hz with rfl | hz
        · omega
        · exact h4 z hz⟩
    · rw [if_neg hk] at h2
      subst h2
      exact ⟨by simp, fun z hz => by
        rcases List.mem_cons.mp hz with rfl | hz
        · omega
        · have := h4 z hz; omega⟩
theorem maxI_mem : ∀ {is : List Int} {m : Int}, maxI is = some m → m ∈ is ∧ ∀ y ∈ is, y ≤ m
  | [], _, h => by cases h
  | [x], m, h => by
    have : x = m := Option.some.inj h
    subst this
    exact ⟨by simp, fun y hy => by simp at hy; omega⟩
  | x :: y :: r, m, h => by
    obtain ⟨k, h1, h2⟩ := Option.map_eq_some_iff.mp (show (maxI (y :: r)).map (fun m => if x < m then m else x) = some m from h)
    obtain ⟨h3, h4⟩ := maxI_mem h1
    by_cases hk : x < k
    · rw [if_pos hk] at h2
      subst h2
      exact ⟨List.mem_cons_of_mem _ h3, fun z hz => by
        rcases List.mem_cons.mp hz with rfl | hz
        · omega
        · exact h4 z hz⟩
    · rw [if_neg hk] at h2
      subst h2
      exact ⟨by simp, fun z hz => by
        rcases List.mem_cons.mp hz with rfl | hz
        · omega
        · have := h4 z hz; omega⟩
/-- two sorted arrangements are one -/
theorem sorted_same : ∀ {xs ys : List Int}, xs.Perm ys → xs.Pairwise (· ≤ ·) → ys.Pairwise (· ≤ ·) → xs = ys := by
  intro xs
  induction xs with
  | nil => intro ys h _ _; exact (List.nil_perm.mp h).symm
  | cons x r ih =>
    intro ys h h1 h2
    cases ys with
    | nil => exact absurd h.symm (by simp)
    | cons y t =>
      have e : x = y := by
        have a1 : x ∈ y :: t := h.subset (by simp)
        have a2 : y ∈ x :: r := h.symm.subset (by simp)
        have b1 : y ≤ x := by
          rcases List.mem_cons.mp a1 with e | m
          · omega
          · exact (List.pairwise_cons.mp h2).1 x m
        have b2 : x ≤ y := by
          rcases List.mem_cons.mp a2 with e | m
          · omega
          · exact (List.pairwise_cons.mp h1).1 y m
        omega
      subst e
      rw [ih (List.Perm.cons_inv h) (List.pairwise_cons.mp h1).2 (List.pairwise_cons.mp h2).2]
theorem insI_perm (x : Int) : ∀ l : List Int, (insI x l).Perm (x :: l)
  | [] => List.Perm.refl _
  | y :: r => by
    unfold insI
    split
    · exact List.Perm.refl _
    · exact ((insI_perm x r).cons y).trans (List.Perm.swap x y r)
theorem insI_sorted (x : Int) : ∀ l : List Int, l.Pairwise (· ≤ ·) → (insI x l).Pairwise (· ≤ ·)
  | [], _ => by simp [insI]
  | y :: r, h => by
    unfold insI
    obtain ⟨h1, h2⟩ := List.pairwise_cons.mp h
    split
    · rename_i hxy
      exact List.pairwise_cons.mpr ⟨fun z hz => by
        rcases List.mem_cons.mp hz with rfl | hz
        · exact hxy
        · have := h1 z hz; omega, h⟩
    · rename_i hxy
      refine List.pairwise_cons.mpr ⟨fun z hz => ?_, insI_sorted x r h2⟩
      rcases List.mem_cons.mp ((insI_perm x r).subset hz) with rfl | hz
      · omega
      · exact h1 z hz
theorem sortI_perm : ∀ l : List Int, (sortI l).Perm l
  | [] => List.Perm.refl _
  | x :: r => (insI_perm x (sortI r)).trans ((sortI_perm r).cons x)
theorem sortI_sorted : ∀ l : List Int, (sortI l).Pairwise (· ≤ ·)
  | [] => by simp [sortI]
  | x :: r => insI_sorted x _ (sortI_sorted r)

/-- a built-in of one argument: its rule by values, from what b1M says -/
def B1Ok (X : Cx) (o : B1) (r : List V → Hp → VK → Prop) : Prop := ∀ {F : Fx} {own : Nat → Option Addr} {ph ph2 : List Addr} {ρ : Env} {μ2 μ3 : Mu} {σ : L2.St} {H H2 : Hp} {L : List Nat} {vx : V} {x d : D} {Q : VK}, F.K = X.K → Stt F own ph2 ρ μ2 σ H2 → Grow ph H ph2 H2 →
  Rep F.sa ph2 (Av F own L) H2 vx x → b1M F.S o x μ2 = .ok d μ3 → (∀ ph' v H', Stt F own ph' ρ μ3 σ H' → Grow ph H ph' H' → Val F own L true H ph' H' v d → Q v H') → r [vx] H2 Q
theorem Val.any {F : Fx} {own : Nat → Option Addr} {L : List Nat} {nw : Bool} {H H' : Hp} {ph' : List Addr} {v : V} {d : D} (h : Val F own L true H ph' H' v d) : Val F own L nw H ph' H' v d := ⟨h.rep, fun _ => h.new rfl⟩
theorem s_b1c {o : B1} {x : Str} {r : List V → Hp → VK → Prop} (hk : B1Ok X o r) (hp : PE X (.Call (.Name x p) [a] [] pos) (tCB r (tCons (tE X.K cl ia) tNil))) : SE X cl (.Call (.Name x p) [a] [] pos) (.b1 o ia) := by
  have h : PE X (.Call (.Name x p) [a] [] pos) (tE X.K cl (.b1 o ia)) := by
    refine hp.imp fun σ H Q q => ?_
    obtain ⟨F, own, ph, ρ, μ, d, μ', hK, I, ev, k⟩ := q
    obtain ⟨x, μ1, e1, ev⟩ := bind_ok (show (evE F.S (cl F.S) ia ρ >>= fun x => b1M F.S o x) μ = .ok d μ' by simpa [evE] using ev)
    exact one hK I e1 fun ph2 vx H2 I2 g2 rx => hk hK I2 g2 rx ev fun ph' v H' I' g V0 => k ph' v H' I' g V0.any
  exact ⟨h, fun _ => pt_of h, rfl, fun z => by cases z⟩
theorem b1_len : B1Ok X .len (fun xs H Q => ∃ x n, xs = [x] ∧ LenV X.K x H n ∧ Q (.int n) H) := by
  intro F own ph ph2 ρ μ2 μ3 σ H H2 L vx x d Q hK I g rx ev k
  cases x with
  | tup ds =>
    obtain ⟨rfl, rfl⟩ := pure_ok (show (pure (.int ds.length) : M D) μ2 = .ok d μ3 from ev)
    cases rx with
    | tup q1 r1 => exact ⟨.ref _, ds.length, rfl, Or.inr ⟨_, SqT.of q1, r1.length.symm⟩, k ph2 _ H2 I g (val0 (.int _) rfl)⟩
  | lst ds =>
    obtain ⟨rfl, rfl⟩ := pure_ok (show (pure (.int ds.length) : M D) μ2 = .ok d μ3 from ev)
    cases rx with
    | lst q1 _ _ r1 => exact ⟨.ref _, ds.length, rfl, Or.inl ⟨_, SqL.of q1, r1.length.symm⟩, k ph2 _ H2 I g (val0 (.int _) rfl)⟩
  | scr =>
    obtain ⟨rfl, rfl⟩ := pure_ok (show (pure (.int F.S.length) : M D) μ2 = .ok d μ3 from ev)
    cases rx
    exact ⟨.ref _, F.S.length, rfl, Or.inl ⟨_, hK ▸ I.scr.sq, (List.length_map _).symm⟩, k ph2 _ H2 I g (val0 (.int _) rfl)⟩
  | mref n =>
    have ev : (match muLst μ2 n with | some ds => R.ok (D.int ds.length) μ2 | none => R.bad) = .ok d μ3 := ev
    cases hq : muLst μ2 n with
    | none => rw [hq] at ev; cases ev
    | some ds =>
      rw [hq] at ev
      cases ev
      unfold muLst at hq
      cases hm : μ2[n]? with
      | none => rw [hm] at hq; cases hq
      | some mo =>
        rw [hm] at hq
        cases mo with
        | ins fs => cases hq
        | lst es =>
          have hq : es = ds := Option.some.inj hq
          subst hq
          cases rx with
          | mref e =>
            obtain ⟨vs, q1, r1⟩ := (show MoR F.sa ph2 H2 _ (.lst es) from I.mu.mo n _ _ e hm)
            exact ⟨.ref _, es.length, rfl, Or.inl ⟨_, SqL.of q1, r1.length.symm⟩, k ph2 _ H2 I g (val0 (.int _) rfl)⟩
  | non => cases ev
  | bl _ => cases ev
  | int _ => cases ev
  | str _ => cases ev
theorem b1_abs : B1Ok X .abs (fun xs H Q => ∃ i, xs = [.int i] ∧ Q (.int (if i < 0 then -i else i)) H) := by
  intro F own ph ph2 ρ μ2 μ3 σ H H2 L vx x d Q hK I g rx ev k
  cases x <;> simp only [b1M] at ev <;> try (cases ev; done)
  obtain ⟨rfl, rfl⟩ := pure_ok ev
  cases rx
  exact ⟨_, rfl, k ph2 _ H2 I g (val0 (.int _) rfl)⟩
theorem b1_int : B1Ok X .int (fun xs H Q => (∃ i, xs = [.int i] ∧ Q (.int i) H) ∨ ∃ k, xs = [.bl k] ∧ Q (.int (if k then 1 else 0)) H) := by
  intro F own ph ph2 ρ μ2 μ3 σ H H2 L vx x d Q hK I g rx ev k
  cases x <;> simp only [b1M] at ev <;> try (cases ev; done)
  · obtain ⟨rfl, rfl⟩ := pure_ok ev
    cases rx
    exact .inr ⟨_, rfl, k ph2 _ H2 I g (val0 (.int _) rfl)⟩
  · obtain ⟨rfl, rfl⟩ := pure_ok ev
    cases rx
    exact .inl ⟨_, rfl, k ph2 _ H2 I g (val0 (.int _) rfl)⟩
theorem b1_sum : B1Ok X .sum (fun vs H Q => rSum X.K vs H Q ∨ rSumT X.K vs H Q) := by
  intro F own ph ph2 ρ μ2 μ3 σ H H2 L vx x d Q hK I g rx ev k
  obtain ⟨e, rfl⟩ := opt_ok (show M.opt ((items x).bind fun xs => (intsOf xs).map fun is => .int is.sum) μ2 = .ok d μ3 from ev)
  obtain ⟨xs, e1, e⟩ := Option.bind_eq_some_iff.mp e
  obtain ⟨is, e2, rfl⟩ := Option.map_eq_some_iff.mp e
  cases x <;> simp only [items] at e1 <;> try (cases e1; done)
  · cases e1
    cases rx with
    | tup q1 r1 =>
      rw [r1.intsV e2] at q1
      exact .inr ⟨_, is, rfl, SqT.of q1, k ph2 _ H2 I g (val0 (.int _) rfl)⟩
  · cases e1
    cases rx with
    | lst q1 _ _ r1 =>
      rw [r1.intsV e2] at q1
      exact .inl ⟨_, is, rfl, SqL.of q1, k ph2 _ H2 I g (val0 (.int _) rfl)⟩
theorem b1_min : B1Ok X .min (rMin X.K) := by
  intro F own ph ph2 ρ μ2 μ3 σ H H2 L vx x d Q hK I g rx ev k
  cases x <;> simp only [b1M] at ev <;> try (cases ev; done)
  obtain ⟨e, rfl⟩ := opt_ok ev
  obtain ⟨is, e2, e⟩ := Option.bind_eq_some_iff.mp e
  obtain ⟨m, e3, rfl⟩ := Option.map_eq_some_iff.mp e
  cases rx with
  | lst q1 _ _ r1 =>
    rw [r1.intsV e2] at q1
    obtain ⟨h1, h2⟩ := minI_mem e3
    refine ⟨_, is, rfl, SqL.of q1, List.length_pos_of_mem h1, fun m' h3 h4 => ?_⟩
    have : m' = m := by
      have a1 := h2 m' h3
      have a2 := h4 m h1
      omega
    subst this
    exact k ph2 _ H2 I g (val0 (.int _) rfl)
theorem trips_eq : ∀ {ds : List D} {ts : List (Int × Int × Int)}, tripsOf ds = some ts → ds = ts.map tD
  | [], ts, h => by cases h; rfl
  | d :: ds, ts, h => by
    unfold tripsOf at h
    split at h
    · rename_i e; cases e
    · rename_i a b c ds' e
      cases e
      obtain ⟨us, e1, rfl⟩ := Option.map_eq_some_iff.mp h
      rw [trips_eq e1]
      rfl
    · cases h
theorem minD_minF (t : Int × Int × Int) (ts : List (Int × Int × Int)) : PySem.W.minD (tpP t) (ts.map tpP) = tpP (minF t ts) := by
  unfold PySem.W.minD minF
  induction ts generalizing t with
  | nil => rfl
  | cons y ts ih =>
    rw [List.map_cons, List.foldl_cons, List.foldl_cons, ← ih]
    congr 1
    split <;> rfl
def rMinT (K : PySem.W.Frag) : List V → Hp → VK → Prop := fun vs H Q => ∃ (a : Addr) (ys : List V) (t : Int × Int × Int) (ts : List (Int × Int × Int)), vs = [V.ref a] ∧ SqL K H a ys ∧ DpAll K H ys ((t :: ts).map tpP) ∧ ∀ (i : Nat) (y : V), ys[i]? = some y → (t :: ts)[i]? = some (minF t ts) → Q y H
theorem tpP_inj {a b : Int × Int × Int} (h : tpP a = tpP b) : a = b := by
  obtain ⟨a1, a2, a3⟩ := a
  obtain ⟨b1, b2, b3⟩ := b
  unfold tpP at h
  injection h with h
  injection h with h1 h
  injection h with h2 h
  injection h with h3 h
  injection h1 with h1
  injection h2 with h2
  injection h3 with h3
  subst h1 h2 h3
  rfl
theorem cr_minT (hc : X.calm = true) (hu : X.A.units + 64 < cLine) : CallR X (.builtin "min") (rMinT X.K) := by
  intro pins s σ H vs us Q I r h
  obtain ⟨a, ys, t, ts, rfl, hs, hd, q⟩ := h
  obtain ⟨its, rv, hl, _⟩ := I.list hs
  rw [Vals.ref1 r]
  obtain ⟨as, hr⟩ := Dp.readsAll I _ _ its hd rv
  have hal : PySem.W.AlikeAll (tpP t :: ts.map tpP) := by
    have hh : ∀ x ∈ tpP t :: ts.map tpP, ∃ u, x = tpP u := fun x hx => by
      rcases List.mem_cons.mp hx with rfl | hx
      · exact ⟨t, rfl⟩
      · obtain ⟨u, _, rfl⟩ := List.mem_map.mp hx
        exact ⟨u, rfl⟩
    refine ⟨fun x hx y hy => ?_, fun x hx z => ?_⟩
    · obtain ⟨u, rfl⟩ := hh x hx
      obtain ⟨w, rfl⟩ := hh y hy
      rfl
    · obtain ⟨u, rfl⟩ := hh x hx
      cases z
  have hdep : ∀ l : List (Int × Int × Int), PyData.depthAll (l.map tpP) ≤ 2 := by
    intro l
    induction l with
    | nil => simp [PyData.depthAll]
    | cons x l ih =>
      rw [List.map_cons]
      simp only [PyData.depthAll]
      have : (tpP x).depth ≤ 2 := by simp [tpP, PyData.depth, PyData.depthAll]
      omega
  refine PySem.W.min_list_data (I.ok.hd hc) hl.isList (by simpa using hr) hal (by have := hdep (t :: ts); rw [List.map_cons] at this; omega) fun i v h' tk bs hv hrd hk => ?_
  have hv' : its[i]? = some v := by simpa using hv
  obtain ⟨cs, h1, h2, _, _⟩ := PySem.W.readsAll_at hr i v hv'
  have e := (PyProof.Rows.reads_det (fun b o e _ => hk b o e) h1 hrd).1
  rw [minD_minF] at e
  rw [List.length_map] at h2
  have e2 : ((t :: ts).map tpP).getD i .none = tpP ((t :: ts)[i]'h2) := by
    rw [List.getD_eq_getElem?_getD, List.getElem?_map, List.getElem?_eq_getElem h2]
    rfl
  rw [e2] at e
  have e3 := tpP_inj e
  obtain ⟨y, hy, ry⟩ : ∃ y, ys[i]? = some y ∧ RelV y v := by
    have hlt : i < ys.length := by
      have := (List.getElem?_eq_some_iff.mp hv').1
      rw [← rv.length] at this
      exact this
    obtain ⟨u, hu1, hu2⟩ := rv.get (List.getElem?_eq_getElem hlt)
    rw [hv'] at hu1
    cases hu1
    exact ⟨_, List.getElem?_eq_getElem hlt, hu2⟩
  exact ⟨y, H, I.kept hk, ry, q i y hy (by rw [List.getElem?_eq_getElem h2, e3])⟩
theorem b1_minT : B1Ok X .minT (rMinT X.K) := by
  intro F own ph ph2 ρ μ2 μ3 σ H H2 L vx x d Q hK I g rx ev k
  cases x <;> simp only [b1M] at ev <;> try (cases ev; done)
  obtain ⟨e, rfl⟩ := opt_ok ev
  obtain ⟨ts, e2, e⟩ := Option.bind_eq_some_iff.mp e
  obtain ⟨m, e3, rfl⟩ := Option.map_eq_some_iff.mp e
  have e2 := trips_eq e2
  subst e2
  cases ts with
  | nil => cases e3
  | cons t ts =>
    cases e3
    cases rx with
    | @lst aa vs _ q1 _ _ r1 =>
      have hsh : ((t :: ts).map tD).all (sh 2) = true := List.all_eq_true.mpr fun z hz => by
        obtain ⟨u, _, rfl⟩ := List.mem_map.mp hz
        rfl
      have hpy : toPys ((t :: ts).map tD) = (t :: ts).map tpP := by
        have : ∀ l : List (Int × Int × Int), toPys (l.map tD) = l.map tpP := by
          intro l
          induction l with
          | nil => rfl
          | cons x l ih => rw [List.map_cons, toPys, ih]; rfl
        exact this _
      have hdp := Reps.dp (K := X.K) _ vs 2 hsh r1
      rw [hpy] at hdp
      refine ⟨_, vs, t, ts, rfl, SqL.of q1, hdp, fun i y hy ht => ?_⟩
      obtain ⟨d0, hd0, hr0⟩ := r1.getV hy
      rw [List.getElem?_map, ht] at hd0
      cases hd0
      exact k ph2 y H2 I g (val0 hr0 rfl)
theorem prs_eq : ∀ {ds : List D} {ts : List (Int × List Int)}, prsOf ds = some ts → ds = ts.map pD
  | [], ts, h => by cases h; rfl
  | d :: ds, ts, h => by
    unfold prsOf at h
    split at h
    · rename_i e; cases e
    · rename_i a r ds' e
      cases e
      obtain ⟨is, e1, h⟩ := Option.bind_eq_some_iff.mp h
      obtain ⟨us, e2, rfl⟩ := Option.map_eq_some_iff.mp h
      rw [prs_eq e2]
      have : ∀ {r : List D} {is : List Int}, intsOf r = some is → r = is.map D.int := by
        intro r
        induction r with
        | nil => intro is h; cases h; rfl
        | cons x r ih =>
          intro is h
          cases x <;> simp only [intsOf] at h <;> try (cases h; done)
          obtain ⟨js, h1, rfl⟩ := Option.map_eq_some_iff.mp h
          rw [ih h1]
          rfl
      rw [this e1]
      rfl
    · cases h
theorem minD_minPF (t : Int × List Int) (ts : List (Int × List Int)) : PySem.W.minD (pP t) (ts.map pP) = pP (minPF t ts) := by
  unfold PySem.W.minD minPF
  induction ts generalizing t with
  | nil => rfl
  | cons y ts ih =>
    rw [List.map_cons, List.foldl_cons, List.foldl_cons, ← ih]
    congr 1
    split <;> rfl
def rMinP (K : PySem.W.Frag) : List V → Hp → VK → Prop := fun vs H Q => ∃ (a : Addr) (ys : List V) (t : Int × List Int) (ts : List (Int × List Int)), vs = [V.ref a] ∧ SqL K H a ys ∧ DpAll K H ys ((t :: ts).map pP) ∧ ∀ (i : Nat) (y : V), ys[i]? = some y → (t :: ts)[i]? = some (minPF t ts) → Q y H
theorem map_int_inj : ∀ {a b : List Int}, a.map PyData.int = b.map PyData.int → a = b
  | [], [], _ => rfl
  | [], _ :: _, h => by cases h
  | _ :: _, [], h => by cases h
  | x :: a, y :: b, h => by
    rw [List.map_cons, List.map_cons] at h
    injection h with h1 h2
    injection h1 with h1
    rw [h1, map_int_inj h2]
theorem pP_inj {a b : Int × List Int} (h : pP a = pP b) : a = b := by
  obtain ⟨a1, a2⟩ := a
  obtain ⟨b1, b2⟩ := b
  unfold pP at h
  injection h with h
  injection h with h1 h
  injection h with h2 h
  injection h1 with h1
  injection h2 with h2
  have h2 := map_int_inj h2
  subst h1 h2
  rfl
theorem alike_ints : ∀ (a b : List Int), PySem.W.alikeAll (a.map PyData.int) (b.map PyData.int) = true
  | [], _ => by simp [PySem.W.alikeAll]
  | _ :: _, [] => by simp [PySem.W.alikeAll]
  | x :: a, y :: b => by simp [PySem.W.alikeAll, PySem.W.alike, alike_ints a b]
theorem depth_ints (a : List Int) : PyData.depthAll (a.map PyData.int) ≤ 0 := by
  induction a with
  | nil => simp [PyData.depthAll]
  | cons x a ih =>
    rw [List.map_cons]
    simp only [PyData.depthAll, PyData.depth]
    omega
theorem cr_minP (hc : X.calm = true) (hu : X.A.units + 64 < cLine) : CallR X (.builtin "min") (rMinP X.K) := by
  intro pins s σ H vs us Q I r h
  obtain ⟨a, ys, t, ts, rfl, hs, hd, q⟩ := h
  obtain ⟨its, rv, hl, _⟩ := I.list hs
  rw [Vals.ref1 r]
  obtain ⟨as, hr⟩ := Dp.readsAll I _ _ its hd rv
  have hal : PySem.W.AlikeAll (pP t :: ts.map pP) := by
    have hh : ∀ x ∈ pP t :: ts.map pP, ∃ u, x = pP u := fun x hx => by
      rcases List.mem_cons.mp hx with rfl | hx
      · exact ⟨t, rfl⟩
      · obtain ⟨u, _, rfl⟩ := List.mem_map.mp hx
        exact ⟨u, rfl⟩
    refine ⟨fun x hx y hy => ?_, fun x hx z => ?_⟩
    · obtain ⟨u, rfl⟩ := hh x hx
      obtain ⟨w, rfl⟩ := hh y hy
      unfold pP
      simp [PySem.W.alike, PySem.W.alikeAll, alike_ints]
    · obtain ⟨u, rfl⟩ := hh x hx
      cases z
  have hdep : ∀ l : List (Int × List Int), PyData.depthAll (l.map pP) ≤ 3 := by
    intro l
    induction l with
    | nil => simp [PyData.depthAll]
    | cons x l ih =>
      rw [List.map_cons]
      simp only [PyData.depthAll]
      have : (pP x).depth ≤ 3 := by
        have := depth_ints x.2
        simp only [pP, PyData.depth, PyData.depthAll]
        omega
      omega
  refine PySem.W.min_list_data (I.ok.hd hc) hl.isList (by simpa using hr) hal (by have := hdep (t :: ts); rw [List.map_cons] at this; omega) fun i v h' tk bs hv hrd hk => ?_
  have hv' : its[i]? = some v := by simpa using hv
  obtain ⟨cs, h1, h2, _, _⟩ := PySem.W.readsAll_at hr i v hv'
  have e := (PyProof.Rows.reads_det (fun b o e _ => hk b o e) h1 hrd).1
  rw [minD_minPF] at e
  rw [List.length_map] at h2
  have e2 : ((t :: ts).map pP).getD i .none = pP ((t :: ts)[i]'h2) := by
    rw [List.getD_eq_getElem?_getD, List.getElem?_map, List.getElem?_eq_getElem h2]
    rfl
  rw [e2] at e
  have e3 := pP_inj e
  obtain ⟨y, hy, ry⟩ : ∃ y, ys[i]? = some y ∧ RelV y v := by
    have hlt : i < ys.length := by
      have := (List.getElem?_eq_some_iff.mp hv').1
      rw [← rv.length] at this
      exact this
    obtain ⟨u, hu1, hu2⟩ := rv.get (List.getElem?_eq_getElem hlt)
    rw [hv'] at hu1
    cases hu1
    exact ⟨_, List.getElem?_eq_getElem hlt, hu2⟩
  exact ⟨y, H, I.kept hk, ry, q i y hy (by rw [List.getElem?_eq_getElem h2, e3])⟩
theorem toPys_ints : ∀ l : List Int, toPys (l.map D.int) = l.map PyData.int
  | [] => rfl
  | x :: l => by rw [List.map_cons, toPys, toPys_ints l]; rfl
theorem b1_minP : B1Ok X .minP (rMinP X.K) := by
  intro F own ph ph2 ρ μ2 μ3 σ H H2 L vx x d Q hK I g rx ev k
  cases x <;> simp only [b1M] at ev <;> try (cases ev; done)
  obtain ⟨e, rfl⟩ := opt_ok ev
  obtain ⟨ts, e2, e⟩ := Option.bind_eq_some_iff.mp e
  obtain ⟨m, e3, rfl⟩ := Option.map_eq_some_iff.mp e
  have e2 := prs_eq e2
  subst e2
  cases ts with
  | nil => cases e3
  | cons t ts =>
    cases e3
    cases rx with
    | @lst aa vs _ q1 _ _ r1 =>
      have hsh : ((t :: ts).map pD).all (sh 3) = true := List.all_eq_true.mpr fun z hz => by
        obtain ⟨u, _, rfl⟩ := List.mem_map.mp hz
        have : (u.2.map D.int).all (sh 1) = true := List.all_eq_true.mpr fun z hz => by
          obtain ⟨w, _, rfl⟩ := List.mem_map.mp hz
          rfl
        simp only [pD, sh, List.all_cons, this, List.all_nil, Bool.and_true]
      have hpy : toPys ((t :: ts).map pD) = (t :: ts).map pP := by
        have : ∀ l : List (Int × List Int), toPys (l.map pD) = l.map pP := by
          intro l
          induction l with
          | nil => rfl
          | cons x l ih =>
            rw [List.map_cons, toPys, ih, List.map_cons]
            congr 1
            simp only [pD, pP, toPy, toPys, toPys_ints]
        exact this _
      have hdp := Reps.dp (K := X.K) _ vs 3 hsh r1
      rw [hpy] at hdp
      refine ⟨_, vs, t, ts, rfl, SqL.of q1, hdp, fun i y hy ht => ?_⟩
      obtain ⟨d0, hd0, hr0⟩ := r1.getV hy
      rw [List.getElem?_map, ht] at hd0
      cases hd0
      exact k ph2 y H2 I g (val0 hr0 rfl)
theorem b1_max : B1Ok X .max (rMax X.K) := by
  intro F own ph ph2 ρ μ2 μ3 σ H H2 L vx x d Q hK I g rx ev k
  cases x <;> simp only [b1M] at ev <;> try (cases ev; done)
  obtain ⟨e, rfl⟩ := opt_ok ev
  obtain ⟨is, e2, e⟩ := Option.bind_eq_some_iff.mp e
  obtain ⟨m, e3, rfl⟩ := Option.map_eq_some_iff.mp e
  cases rx with
  | lst q1 _ _ r1 =>
    rw [r1.intsV e2] at q1
    obtain ⟨h1, h2⟩ := maxI_mem e3
    refine ⟨_, is, rfl, SqL.of q1, List.length_pos_of_mem h1, fun m' h3 h4 => ?_⟩
    have : m' = m := by
      have a1 := h2 m' h3
      have a2 := h4 m h1
      omega
    subst this
    exact k ph2 _ H2 I g (val0 (.int _) rfl)
theorem b1_all : B1Ok X .all (rAll X.K) := by
  intro F own ph ph2 ρ μ2 μ3 σ H H2 L vx x d Q hK I g rx ev k
  cases x <;> simp only [b1M] at ev <;> try (cases ev; done)
  obtain ⟨e, rfl⟩ := opt_ok ev
  obtain ⟨is, e2, rfl⟩ := Option.map_eq_some_iff.mp e
  cases rx with
  | lst q1 _ _ r1 =>
    rw [r1.blsV e2] at q1
    exact ⟨_, is, rfl, SqL.of q1, k ph2 _ H2 I g (val0 (.bl _) rfl)⟩
theorem b1_list : B1Ok X .list (fun xs H Q => ∃ p ys, xs = [.ref p] ∧ (SqL X.K H p ys ∨ SqT X.K H p ys) ∧ ∀ l, H l = none → Q (.ref l) (upd H l (.lst ys))) := by
  intro F own ph ph2 ρ μ2 μ3 σ H H2 L vx x d Q hK I g rx ev k
  obtain ⟨e, rfl⟩ := opt_ok (show M.opt ((items x).map .lst) μ2 = .ok d μ3 from ev)
  obtain ⟨xs, e1, rfl⟩ := Option.map_eq_some_iff.mp e
  cases x <;> simp only [items] at e1 <;> try (cases e1; done)
  · cases e1
    cases rx with
    | tup q1 r1 => exact ⟨_, _, rfl, .inr (SqT.of q1), fun l hl => newLst I g hl r1 k⟩
  · cases e1
    cases rx with
    | lst q1 _ _ r1 => exact ⟨_, _, rfl, .inl (SqL.of q1), fun l hl => newLst I g hl r1 k⟩
theorem b1_tuple : B1Ok X .tuple (fun xs H Q => ∃ p ys, xs = [.ref p] ∧ ((SqL X.K H p ys ∧ ∀ l, H l = none → Q (.ref l) (upd H l (.tup ys))) ∨ (SqT X.K H p ys ∧ Q (.ref p) H))) := by
  intro F own ph ph2 ρ μ2 μ3 σ H H2 L vx x d Q hK I g rx ev k
  obtain ⟨e, rfl⟩ := opt_ok (show M.opt ((items x).map .tup) μ2 = .ok d μ3 from ev)
  obtain ⟨xs, e1, rfl⟩ := Option.map_eq_some_iff.mp e
  cases x <;> simp only [items] at e1 <;> try (cases e1; done)
  · cases e1
    cases rx with
    | tup q1 r1 => exact ⟨_, _, rfl, .inr ⟨SqT.of q1, k ph2 _ H2 I g (val0 (.tup q1 r1) rfl)⟩⟩
  · cases e1
    cases rx with
    | lst q1 _ _ r1 => exact ⟨_, _, rfl, .inl ⟨SqL.of q1, fun l hl => newTup I g hl r1 k⟩⟩
/-! ### sorted of a tuple of ints -/
section
variable {prog : Program} {w : World} {A : Around} {E : Value → Shared → Prop} {s : Shared}
theorem collect_tup {l : Addr} {vs : List Value} {Q : List Value → Shared → Prop} (hl : s.heap.IsTuple l vs.toArray)
    (h : Q vs { s with heap := (s.heap.push (seqObj "list" #[] 0)).update s.heap.objs.size (Obj.mapSeq (· ++ vs.toArray)) }) (hsz : vs.length ≤ sizeLine) :
    wpAny (model prog w) A (collect (.ref l)) Q E s := by
  obtain ⟨o, ho, hc, n, hd⟩ := id hl
  unfold collect
  refine wpAny_bind (wpAny_runValue (codeAny_builtin entry_proto_collect' ?_))
  show wpAny _ _ (do again (.builtin "list.__iadd__" ⟨[← newList [], .ref l], []⟩)) _ _ s
  refine wpAny_bind (wpAny_newList (wpAny_pure ⟨Code.quiet_builtin _ (by decide +kernel), codeAny_builtin entry_list_iadd' ?_⟩))
  show wpAny _ _ (Builtin.List.listExtendWith (.ref s.heap.objs.size) (.ref l) (.ref s.heap.objs.size)) _ _ { s with heap := s.heap.push (seqObj "list" #[] 0) }
  unfold Builtin.List.listExtendWith
  have ho' : (s.heap.push (seqObj "list" #[] 0)).get? l = some o := Heap.get?_push_of_some _ ho
  refine wpAny_bind (wpAny_typeOf (T := "tuple") ⟨o, ho', hc⟩ ?_)
  have ht : (Value.type "tuple" == Value.type "tuple") = true := by rfl
  rw [if_pos (by rw [ht]; simp)]
  refine wpAny_bind (listItems_at ho' hd ?_)
  refine wpAny_bind (listItems_at (xs := #[]) (n := 0) (Heap.get?_push_size _ rfl) rfl ?_)
  rw [if_neg (by simp)]
  refine wpAny_bind (listUpdate_at (xs := #[]) (n := 0) (Heap.get?_push_size _ rfl) rfl ?_ (Nat.zero_le _) (by show (#[] ++ vs.toArray).size ≤ sizeLine + 1; simp only [Array.size_append, List.size_toArray, List.length_nil]; omega))
  refine wpAny_pure ?_
  show wpAny (model prog w) A (do
      let o ← load s.heap.objs.size
      match o.data with
      | .seq xs _ => pure xs.toList
      | _ => unsupported "internal:collect") Q E { s with heap := (s.heap.push (seqObj "list" #[] 0)).update s.heap.objs.size (Obj.mapSeq (· ++ vs.toArray)) }
  refine wpAny_bind (wpAny_load (get?_update_seq (Heap.get?_push_size _ rfl) _) ?_)
  show wpAny _ _ (pure ((#[] : Array Value) ++ vs.toArray).toList) Q E _
  rw [show ((#[] : Array Value) ++ vs.toArray).toList = vs by simp]
  exact wpAny_pure h
theorem sorted_intsT {l : Addr} {vs : List Value} {ns : List Int} {Q : Value → Shared → Prop} (hl : s.heap.IsTuple l vs.toArray) (hI : IntsAre vs ns) (h64 : vs.length < 64)
    (h : ∀ (out : Array Value) (ns' : List Int), IntsAre out.toList ns' → ns'.Perm ns → ns'.Pairwise (· ≤ ·) → Q (.ref (s.heap.objs.size + 1)) { s with heap := sortedAll s.heap vs out }) :
    wpAny (model prog w) A (call (.builtin "sorted") [.ref l]) Q E s := by
  refine Calls.call_function_entry kind_sorted plain_sorted entry_sorted (args_sorted1 _) ?_
  unfold Builtin.«sorted»
  refine wpAny_bind (m := checkCount "sorted" 1 1 _) (wpAny_pure ?_)
  refine wpAny_bind (collect_tup hl ?_ (small64 h64))
  refine wpAny_bind (wpAny_newList ?_)
  have hsz : ((s.heap.push (seqObj "list" #[] 0)).update s.heap.objs.size (Obj.mapSeq (· ++ vs.toArray))).objs.size = s.heap.objs.size + 1 := by
    rw [Heap.size_update, size_push']
  have hoL : (((s.heap.push (seqObj "list" #[] 0)).update s.heap.objs.size (Obj.mapSeq (· ++ vs.toArray))).push (seqObj "list" vs.toArray 0)).get? (s.heap.objs.size + 1) = some (seqObj "list" vs.toArray 0) := by
    rw [← hsz]; exact Heap.get?_push_size _ rfl
  show wpAny _ _ _ _ _ { s with heap := ((s.heap.push (seqObj "list" #[] 0)).update s.heap.objs.size (Obj.mapSeq (· ++ vs.toArray))).push (seqObj "list" vs.toArray 0) }
  rw [hsz]
  refine wpAny_bind (wpAny_holding (wpAny_call_entry slot_list_sort ⟨_, hoL, rfl⟩ entry_list_sort (list_sort_tree hoL hI h64 fun out ns' a1 a2 a3 => ⟨_, rfl, ?_⟩) (args_list_sort _)))
  exact wpAny_pure ⟨_, rfl, h out ns' a1 a2 a3⟩
end
section
variable {X : Cx}
def rSortedLT (K : PySem.W.Frag) : List V → Hp → VK → Prop := fun vs H Q => ∃ (a : Addr) (ns : List Int), vs = [V.ref a] ∧ (SqL K H a (ns.map V.int) ∨ SqT K H a (ns.map V.int)) ∧ ns.length < 64 ∧ ∀ p, H p = none → Q (.ref p) (upd H p (.lst ((sortI ns).map V.int)))
theorem cr_sortedLT : CallR X (.builtin "sorted") (rSortedLT X.K) := by
  intro pins s σ H vs us Q I r h
  obtain ⟨a, ns, rfl, hs, h64, q⟩ := h
  rw [Vals.ref1 r]
  have done : ∀ (its : List Value) (out : Array Value) (ns' : List Int), IntsAre out.toList ns' → ns'.Perm ns → ns'.Pairwise (· ≤ ·) → EP X pins σ Q (.ref (s.heap.objs.size + 1)) { s with heap := sortedAll s.heap its out } := fun its out ns' h1 h2 h3 => by
    obtain ⟨ep, he'⟩ := PyProof.Rows.sortedAll_at s.heap its out
    have hlen : (ns'.map V.int).length ≤ sizeLine := by rw [List.length_map, h2.length_eq]; exact small64 h64
    have e : ns' = sortI ns := sorted_same (h2.trans (sortI_perm ns).symm) h3 (sortI_sorted ns)
    have q' := q (s.heap.objs.size + 1) (I.hok.fresh (Nat.le_succ _))
    rw [← e] at q'
    exact ⟨.ref _, upd H (s.heap.objs.size + 1) (.lst (ns'.map V.int)), I.laid (t' := s.toks) (fun _ _ => PyProof.Rows.sortedAll_old) (Nat.le_succ _) ⟨hlen, out.toList, ep, vals_of_ints h1, he'⟩, rfl, q'⟩
  rcases hs with hs | hs
  · obtain ⟨its, rv, hl, _⟩ := I.list hs
    have hi := rv.ints
    exact PyProof.Rows.sorted_ints hl.isList hi (by rw [hi.length]; exact h64) fun out ns' h1 h2 h3 => done its out ns' h1 h2 h3
  · obtain ⟨its, rv, ht, hz⟩ := I.tuple hs
    have hi : IntsAre its ns := intsAre_of rv
    have hl : s.heap.IsTuple a its.toArray := ht
    exact sorted_intsT hl hi (by rw [hi.length]; exact h64) fun out ns' h1 h2 h3 => done its out ns' h1 h2 h3
theorem b1_sorted : B1Ok X .sorted (rSortedLT X.K) := by
  intro F own ph ph2 ρ μ2 μ3 σ H H2 L vx x d Q hK I g rx ev k
  obtain ⟨e, rfl⟩ := opt_ok (show M.opt ((items x).bind fun xs => (intsOf xs).bind fun is => if is.length < 64 then some (.lst ((sortI is).map .int)) else none) μ2 = .ok d μ3 from ev)
  obtain ⟨xs, e1, e⟩ := Option.bind_eq_some_iff.mp e
  obtain ⟨is, e2, e⟩ := Option.bind_eq_some_iff.mp e
  have rI : ∀ l : List Int, Reps F.sa ph2 (Av F own L) H2 (l.map V.int) (l.map D.int) := by
    intro l
    induction l with
    | nil => exact .nil
    | cons z l ih => exact .cons (.int z) ih
  split at e
  · rename_i h64
    cases e
    cases x <;> simp only [items] at e1 <;> try (cases e1; done)
    · cases e1
      cases rx with
      | tup q1 r1 =>
        rw [r1.intsV e2] at q1
        exact ⟨_, is, rfl, .inr (SqT.of q1), h64, fun l hl => newLst I g hl (rI _) k⟩
    · cases e1
      cases rx with
      | lst q1 _ _ r1 =>
        rw [r1.intsV e2] at q1
        exact ⟨_, is, rfl, .inl (SqL.of q1), h64, fun l hl => newLst I g hl (rI _) k⟩
  · cases e
end
def bNm : B1 → Str
  | .len => "len" | .sum => "sum" | .abs => "abs" | .list => "list" | .tuple => "tuple" | .int => "int" | .all => "all" | .sorted => "sorted" | .min => "min" | .max => "max" | .minT => "min" | .minP => "min"
theorem boot_max : bootBuiltins "max" = some (.builtin "max") := by decide +kernel
theorem boot_min : bootBuiltins "min" = some (.builtin "min") := by decide +kernel
theorem boot_all : bootBuiltins "all" = some (.builtin "all") := by decide +kernel
theorem boot_absE : bootBuiltins "abs" = some (.builtin "abs") := by decide +kernel
theorem boot_intE : bootBuiltins "int" = some (.type "int") := by decide +kernel
theorem boot_sumE : bootBuiltins "sum" = some (.builtin "sum") := by decide +kernel
theorem boot_listE : bootBuiltins "list" = some (.type "list") := by decide +kernel
theorem boot_tupleE : bootBuiltins "tuple" = some (.type "tuple") := by decide +kernel
theorem boot_sortedE : bootBuiltins "sorted" = some (.builtin "sorted") := by decide +kernel
theorem boot_isi : bootBuiltins "isinstance" = some (.builtin "isinstance") := by decide +kernel
theorem s_b1 (o : B1) (hc : X.calm = true) (hu : X.A.units + 64 < cLine) (hg : Gl X (bNm o)) (hm : X.mg (bNm o) = none) (ha : SE X cl a ia) : SE X cl (.Call (.Name (bNm o) p) [a] [] pos) (.b1 o ia) := by
  have st := plain_star (X := X) (es := []) ha.pl
  have pa := pa_cons ha.pe pa_nil st
  cases o with
  | len => exact s_b1c b1_len (pe_callB call_len hg hm PySem.boot_len pa (by decide) (by decide) st rfl)
  | sum => exact s_b1c b1_sum (pe_callB ((cr_sum hc).or (cr_sumT hc)) hg hm boot_sumE pa (by decide) (by decide) st rfl)
  | abs => exact s_b1c b1_abs (pe_callB call_abs hg hm boot_absE pa (by decide) (by decide) st rfl)
  | list => exact s_b1c b1_list (pe_callTy call_list_of hg hm boot_listE pa (by decide) (by decide) st rfl)
  | tuple => exact s_b1c b1_tuple (pe_callTy call_tuple_of hg hm boot_tupleE pa (by decide) (by decide) st rfl)
  | int => exact s_b1c b1_int (pe_callTy call_int1 hg hm boot_intE pa (by decide) (by decide) st rfl)
  | all => exact s_b1c b1_all (pe_callB (cr_all hc) hg hm boot_all pa (by decide) (by decide) st rfl)
  | sorted => exact s_b1c b1_sorted (pe_callB cr_sortedLT hg hm boot_sortedE pa (by decide) (by decide) st rfl)
  | min => exact s_b1c b1_min (pe_callB (cr_min hc) hg hm boot_min pa (by decide) (by decide) st rfl)
  | minT => exact s_b1c b1_minT (pe_callB (cr_minT hc hu) hg hm boot_min pa (by decide) (by decide) st rfl)
  | minP => exact s_b1c b1_minP (pe_callB (cr_minP hc hu) hg hm boot_min pa (by decide) (by decide) st rfl)
  | max => exact s_b1c b1_max (pe_callB (cr_max hc) hg hm boot_max pa (by decide) (by decide) st rfl)
/-! ### min(a, b), max(a, b) -/
def mmNm (mx : Bool) : Str := if mx then "max" else "min"
theorem s_mm (mx : Bool) (hc : X.calm = true) (hg : Gl X (mmNm mx)) (hm : X.mg (mmNm mx) = none) (ha : SE X cl a ia) (hb : SE X cl b ib) : SE X cl (.Call (.Name (mmNm mx) p) [a, b] [] pos) (.mm mx ia ib) := by
  have st := plain_star (X := X) (es := [b]) ha.pl
  have sb := plain_star (X := X) (es := []) hb.pl
  have pa := pa_cons ha.pe (pa_cons hb.pe pa_nil sb) st
  have hpl : (backTo pos (starEach [b] X.env)).any (·.1) = false := noStars (by simp [hb.pl]) pos
  have run : ∀ {F : Fx} {ρ : Env} {μ μ' : Mu} {d : D}, evE F.S (cl F.S) (.mm mx ia ib) ρ μ = .ok d μ' → ∃ i j μ1, evE F.S (cl F.S) ia ρ μ = .ok (.int i) μ1 ∧ evE F.S (cl F.S) ib ρ μ1 = .ok (.int j) μ' ∧ d = .int (if mx then (if j > i then j else i) else (if j < i then j else i)) := fun {F ρ μ μ' d} ev => by
    unfold evE at ev
    obtain ⟨x, μ1, e1, ev⟩ := bind_ok ev
    obtain ⟨y, μ2, e2, ev⟩ := bind_ok ev
    obtain ⟨e3, rfl⟩ := opt_ok ev
    cases x <;> cases y <;> simp only at e3 <;> try (cases e3; done)
    exact ⟨_, _, _, e1, e2, (Option.some.inj e3).symm⟩
  have h : PE X (.Call (.Name (mmNm mx) p) [a, b] [] pos) (tE X.K cl (.mm mx ia ib)) := by
    cases mx with
    | true =>
      refine (pe_callB (call_max2 hc) hg hm boot_max pa (by decide) (by decide) st hpl).imp fun σ H Q q => ?_
      obtain ⟨F, own, ph, ρ, μ, d, μ', hK, I, ev, k⟩ := q
      obtain ⟨i, j, μ1, e1, e2, rfl⟩ := run ev
      refine two hK I e1 e2 fun ph2 vx vy H2 I2 g2 rx ry => ?_
      cases rx; cases ry
      exact ⟨i, j, rfl, k ph2 _ H2 I2 g2 (val0 (.int _) rfl)⟩
    | false =>
      refine (pe_callB (call_min2 hc) hg hm boot_min pa (by decide) (by decide) st hpl).imp fun σ H Q q => ?_
      obtain ⟨F, own, ph, ρ, μ, d, μ', hK, I, ev, k⟩ := q
      obtain ⟨i, j, μ1, e1, e2, rfl⟩ := run ev
      refine two hK I e1 e2 fun ph2 vx vy H2 I2 g2 rx ry => ?_
      cases rx; cases ry
      exact ⟨i, j, rfl, k ph2 _ H2 I2 g2 (val0 (.int _) rfl)⟩
  exact ⟨h, fun _ => pt_of h, rfl, fun z => by cases z⟩
/-! ### isinstance -/
def tyS : Ty → String
  | .int => "int" | .bool => "bool" | .str => "str" | .tuple => "tuple" | .list => "list"
theorem kitB_ok : ∀ t ∈ ["NoneType", "bool", "int", "str", "tuple", "list"], ∀ c ∈ ["int", "bool", "str", "tuple", "list"], kitB t c = some (t == c || (t == "bool" && c == "int")) := by
  decide +kernel
def tyVal (t : Ty) : V := .ty (tyS t)
theorem boot_ty (t : Ty) : bootBuiltins (Str.ofString (tyS t)) = some (.type (tyS t)) := by cases t <;> decide +kernel
theorem pe_ty {p2 : Pos} (t : Ty) (hg : Gl X (Str.ofString (tyS t))) (hm : X.mg (Str.ofString (tyS t)) = none) : PE X (.Name (Str.ofString (tyS t)) p2) (tC (tyVal t)) :=
  pe_bltn hg hm (boot_ty t) rfl (by cases t <;> decide +kernel) (by cases t <;> decide +kernel)
theorem isi_ok {F : Fx} {ph : List Addr} {A : Addr → Prop} {H : Hp} {v : V} {x : D} {t : Ty} {b : Bool} {Q : VK} (r : Rep F.sa ph A H v x) (e : tyD x t = some b) (q : Q (.bl b) H) : rIsi X.K [v, tyVal t] H Q := by
  have fin : ∀ (s : String), TyX X.K H v (.type s) → s ∈ ["NoneType", "bool", "int", "str", "tuple", "list"] → (s == tyS t || (s == "bool" && tyS t == "int")) = b → rIsi X.K [v, tyVal t] H Q := fun s hs hm hb =>
    ⟨v, tyVal t, .type s, .type (tyS t), b, rfl, .ty _, hs, L2.kit_ty (by rw [kitB_ok s hm (tyS t) (by cases t <;> simp [tyS]), hb]), q⟩
  cases r with
  | non => exact fin "NoneType" (.base .non) (by simp) (by cases t <;> cases e <;> decide)
  | bl z => exact fin "bool" (.base (.bl z)) (by simp) (by cases t <;> cases e <;> decide)
  | int z => exact fin "int" (.base (.int z)) (by simp) (by cases t <;> cases e <;> decide)
  | str z => exact fin "str" (.base (.str z)) (by simp) (by cases t <;> cases e <;> decide)
  | tup h1 _ => exact fin "tuple" (.base (.tup h1)) (by simp) (by cases t <;> cases e <;> decide)
  | lst h1 _ _ _ => exact fin "list" (.base (.lst h1)) (by simp) (by cases t <;> cases e <;> decide)
  | scr => cases t <;> cases e
  | mref _ => cases t <;> cases e
theorem s_isi {p2 : Pos} (t : Ty) (hg : Gl X "isinstance") (hm : X.mg "isinstance" = none) (hgt : Gl X (Str.ofString (tyS t))) (hmt : X.mg (Str.ofString (tyS t)) = none) (ha : SE X cl a ia) :
    SE X cl (.Call (.Name "isinstance" p) [a, .Name (Str.ofString (tyS t)) p2] [] pos) (.isi t ia) := by
  have st := plain_star (X := X) (es := [.Name (Str.ofString (tyS t)) p2]) ha.pl
  have h : PE X (.Call (.Name "isinstance" p) [a, .Name (Str.ofString (tyS t)) p2] [] pos) (tE X.K cl (.isi t ia)) := by
    refine (pe_callB call_isi hg hm boot_isi (pa_cons ha.pe (pa_cons (pe_ty t hgt hmt) pa_nil rfl) st) (by decide) (by decide) st rfl).imp fun σ H Q q => ?_
    obtain ⟨F, own, ph, ρ, μ, d, μ', hK, I, ev, k⟩ := q
    obtain ⟨x, μ1, e1, ev⟩ := bind_ok (show (evE F.S (cl F.S) ia ρ >>= fun x => M.opt ((tyD x t).map .bl)) μ = .ok d μ' by simpa [evE] using ev)
    obtain ⟨e3, rfl⟩ := opt_ok ev
    obtain ⟨bb, e4, rfl⟩ := Option.map_eq_some_iff.mp e3
    exact one hK I e1 fun ph2 vx H2 I2 g2 rx => isi_ok rx e4 (k ph2 _ H2 I2 g2 (val0 (.bl _) rfl))
  exact ⟨h, fun _ => pt_of h, rfl, fun z => by cases z⟩
/-! ### list(range(n)) -/
theorem rgV_rep {sa : Sa} {ph : List Addr} {A : Addr → Prop} {H : Hp} (lo hi : Int) : Reps sa ph A H (rgV lo hi) (rngD lo hi) := by
  unfold rgV rngD
  generalize (hi - lo).toNat = n
  have : ∀ l : List Nat, Reps sa ph A H (l.map fun i => V.int (lo + (i : Nat))) (l.map fun k => D.int (lo + (k : Nat))) := fun l => by
    induction l with
    | nil => exact .nil
    | cons x r ih => exact .cons (.int _) ih
  exact this _
theorem s_lrange {p2 pos2 : Pos} (hc : X.calm = true) (hg : Gl X "list") (hm : X.mg "list" = none) (hg2 : Gl X "range") (hm2 : X.mg "range" = none) (ha : SE X cl a ia) :
    SE X cl (.Call (.Name "list" p) [.Call (.Name "range" p2) [a] [] pos2] [] pos) (.lrange ia) := by
  have st := plain_star (X := X) (es := []) ha.pl
  have h : PE X (.Call (.Name "list" p) [.Call (.Name "range" p2) [a] [] pos2] [] pos) (tE X.K cl (.lrange ia)) := by
    refine (pe_listRg hc hg hm (prg_1 hg2 hm2 ha.pe st) rfl).imp fun σ H Q q => ?_
    obtain ⟨F, own, ph, ρ, μ, d, μ', hK, I, ev, k⟩ := q
    unfold evE at ev
    obtain ⟨x, μ1, e1, ev⟩ := bind_ok ev
    obtain ⟨e3, rfl⟩ := opt_ok ev
    cases x <;> simp only at e3 <;> try (cases e3; done)
    split at e3
    · rename_i i hi
      cases e3
      refine one hK I e1 fun ph2 vx H2 I2 g2 rx => ?_
      cases rx
      exact ⟨_, rfl, ⟨by decide, by decide, by omega, by omega, by omega⟩, fun q hq => newLst I2 g2 hq (rgV_rep 0 i) k⟩
    · cases e3
  exact ⟨h, fun _ => pt_of h, rfl, fun z => by cases z⟩

/-! ### a dict display asked at once -/
/-- the pairs of a display: keys and values, one behind another -/
inductive SPs (X : Cx) (cl : Calls) : List (Option Expr) → List Expr → IEs → Prop
  | nil : SPs X cl [] [] .nil
  | cons {k v : Expr} {ks : List (Option Expr)} {vs : List Expr} {ik iv : IE} {r : IEs} : SE X cl k ik → SE X cl v iv → SPs X cl ks vs r → SPs X cl (some k :: ks) (v :: vs) (.cons ik (.cons iv r))
def tPs (K : PySem.W.Frag) (cl : Calls) : IEs → List (TE × TE)
  | .cons ik (.cons iv r) => (tE K cl ik, tE K cl iv) :: tPs K cl r
  | _ => []
theorem SPs.pps {ks : List (Option Expr)} {vs : List Expr} {ies : IEs} (h : SPs X cl ks vs ies) : PPs X pos ks vs (tPs X.K cl ies) ∧ ks.all (·.isSome) = true ∧ ks.length = vs.length := by
  induction h with
  | nil => exact ⟨pps_nil, rfl, rfl⟩
  | cons hk hv _ ih => exact ⟨pps_cons hk.pe hv.pe ih.1, by simpa using ih.2.1, by simpa using ih.2.2⟩
def toV : D → V
  | .bl b => .bl b
  | .int i => .int i
  | .str s => .str s
  | _ => .non
theorem toV_rep {sa : Sa} {ph : List Addr} {A : Addr → Prop} {H : Hp} {d : D} (h : d.sc = true) : Rep sa ph A H (toV d) d := by
  cases d <;> first | exact .non | exact .bl _ | exact .int _ | exact .str _ | cases h
theorem toV_eq {sa : Sa} {ph : List Addr} {A : Addr → Prop} {H : Hp} {d : D} {v : V} (h : d.sc = true) (r : Rep sa ph A H v d) : v = toV d := by
  cases r <;> first | rfl | cases h
def kvV (kvs : List (Int × D)) : List (Key × V) := kvs.map fun kv => (Sum.inl kv.1, toV kv.2)
theorem pairs_ok {F : Fx} {own : Nat → Option Addr} {ρ : Env} {σ : L2.St} (hK : F.K = X.K) : ∀ (ies : IEs) {ph : List Addr} {H : Hp} {μ μ' : Mu} {kvs : List (Int × D)} {Q : List (V × V) → Hp → Prop}, Stt F own ph ρ μ σ H → evPs F.S (cl F.S) ies ρ μ = .ok kvs μ' →
    (∀ ph' H', Stt F own ph' ρ μ' σ H' → Grow ph H ph' H' → (∀ kv ∈ kvs, kv.2.sc = true) → Q ((kvV kvs).map fun kv => (kV kv.1, kv.2)) H') → tPairs (tPs X.K cl ies) σ H Q
  | .nil, ph, H, μ, μ', kvs, Q, I, ev, k => by
    obtain ⟨rfl, rfl⟩ := pure_ok (show (pure [] : M (List (Int × D))) μ = .ok kvs μ' by simpa [evPs] using ev)
    exact k ph H I (Grow.refl _ _) (by simp)
  | .cons ik (.cons iv r), ph, H, μ, μ', kvs, Q, I, ev, k => by
    obtain ⟨x, μ1, e1, ev⟩ := bind_ok (show (evE F.S (cl F.S) ik ρ >>= fun x => evE F.S (cl F.S) iv ρ >>= fun y => M.opt (pairD x y) >>= fun p => evPs F.S (cl F.S) r ρ >>= fun ps => pure (p :: ps)) μ = .ok kvs μ' by simpa [evPs] using ev)
    obtain ⟨y, μ2, e2, ev⟩ := bind_ok ev
    obtain ⟨pp, μ3, e3, ev⟩ := bind_ok ev
    obtain ⟨e3', e3''⟩ := opt_ok e3
    subst e3''
    obtain ⟨ps, μ4, e4, ev⟩ := bind_ok ev
    obtain ⟨rfl, rfl⟩ := pure_ok ev
    refine two hK I e1 e2 fun ph2 vx vy H2 I2 g2 rx ry => pairs_ok hK r I2 e4 fun ph' H' I' g h1 => ?_
    unfold pairD at e3'
    split at e3'
    · split at e3'
      · rename_i i dd hsc
        cases e3'
        cases rx
        have := k ph' H' I' (g2.trans g) (fun kv hkv => by
          rcases List.mem_cons.mp hkv with rfl | hh
          · exact hsc
          · exact h1 kv hh)
        rw [toV_eq hsc ry]
        exact this
      · cases e3'
    · cases e3'
  | .cons ik .nil, ph, H, μ, μ', kvs, Q, I, ev, k => by
    have : (M.no : M (List (Int × D))) μ = .ok kvs μ' := by simpa [evPs] using ev
    cases this
theorem merge_look : ∀ (kvs : List (Int × D)) (k : Int) (acc : List (Key × V)) (oD : Option D), valV acc (Sum.inl k) = oD.map toV →
    valV (mergeK acc (kvV kvs)) (Sum.inl k) = (kvs.foldl (fun acc kv => if k = kv.1 then some kv.2 else acc) oD).map toV
  | [], k, acc, oD, h => h
  | (i, d) :: kvs, k, acc, oD, h => by
    refine merge_look kvs k (putK acc (Sum.inl i) (toV d)) (if k = i then some d else oD) ?_
    rw [valV_put]
    by_cases hk : k = i
    · subst hk
      rw [if_pos rfl, if_pos rfl]
      rfl
    · rw [if_neg (fun z => hk (Sum.inl.inj z)), if_neg hk]
      exact h
theorem dlook_sc : ∀ (kvs : List (Int × D)) (k : Int) (oD : Option D), (∀ kv ∈ kvs, kv.2.sc = true) → (∀ d, oD = some d → d.sc = true) → ∀ d, kvs.foldl (fun acc kv => if k = kv.1 then some kv.2 else acc) oD = some d → d.sc = true
  | [], _, _, _, h, d, e => h d e
  | (i, x) :: kvs, k, oD, hs, h, d, e => by
    refine dlook_sc kvs k (if k = i then some x else oD) (fun kv hkv => hs kv (List.mem_cons_of_mem _ hkv)) (fun d' e' => ?_) d e
    by_cases hk : k = i
    · rw [if_pos hk] at e'; cases e'; exact hs (i, x) (by simp)
    · rw [if_neg hk] at e'; exact h d' e'
/-- a dict of its own is replaced: nothing else is touched -/
theorem Stt.dict {F : Fx} {own : Nat → Option Addr} {ρ : Env} {σ : L2.St} {ph : List Addr} {H : Hp} {μ : Mu} {p : Addr} {m m' : List (Key × V)} (I : Stt F own ph ρ μ σ H) (e : H p = some (.dK m)) (h0 : F.H0 p = none) : Stt F own ph ρ μ σ (upd H p (.dK m')) := by
  have ne : ∀ {a o}, H a = some o → (∀ m, o ≠ .dK m) → a ≠ p := fun {a o} h q z => by subst z; rw [h] at e; cases e; exact q m rfl
  have kT : ∀ a vs, H a = some (.tup vs) → upd H p (.dK m') a = some (.tup vs) := fun a vs h => by rw [upd_ne (ne h fun m z => by cases z)]; exact h
  have kL : ∀ a vs, H a = some (.lst vs) → upd H p (.dK m') a = some (.lst vs) := fun a vs h => by rw [upd_ne (ne h fun m z => by cases z)]; exact h
  have rep : ∀ {A : Addr → Prop} {v : V} {d : D}, Rep F.sa ph A H v d → Rep F.sa ph A (upd H p (.dK m')) v d := fun {A v d} r => Rep.mono kT (fun a vs h n1 n2 => ⟨kL a vs h, n1, n2⟩) (fun _ _ z => z) d v r
  have reps : ∀ {A : Addr → Prop} {v : List V} {d : List D}, Reps F.sa ph A H v d → Reps F.sa ph A (upd H p (.dK m')) v d := fun {A v d} r => Reps.mono kT (fun a vs h n1 n2 => ⟨kL a vs h, n1, n2⟩) (fun _ _ z => z) d v r
  have some' : ∀ {a}, H a ≠ none → upd H p (.dK m') a ≠ none := fun {a} h z => by
    by_cases q : a = p
    · subst q; rw [upd_same] at z; cases z
    · rw [upd_ne q] at z; exact h z
  refine ⟨fun i b d h => ?_, I.lenE, ⟨I.mu.len, I.mu.nd, fun n a mo h1 h2 => ?_⟩, fun a o h n => ?_, fun a o h => some' (I.old a o h), I.phx, I.onew, I.ophi, I.oinj, fun i q h => ?_, fun a h => some' (I.bdom a h), I.bphi, I.onb, ?_, fun q hq => rep (I.held q hq)⟩
  · obtain ⟨v, h1, h2⟩ := I.slots i b d h
    refine ⟨v, h1, ?_⟩
    cases b with
    | false => exact rep h2
    | true =>
      obtain ⟨q, vs, ds, q1, q2, q3, q4, q5⟩ := h2
      exact ⟨q, vs, ds, q1, q2, q3, kL _ _ q4, reps q5⟩
  · have r := I.mu.mo n a mo h1 h2
    refine r.mono (fun o ho => ?_) reps
    rcases I.mu.obj (List.mem_of_getElem? h1) with ⟨ws, e'⟩ | ⟨C, dx, gs, e'⟩ <;> (rw [ho] at e'; cases e'; rw [upd_ne (ne ho fun m z => by cases z)]; exact ho)
  · rw [upd_ne (fun z => by subst z; rw [h0] at h; cases h)]
    exact I.fr a o h n
  · obtain ⟨vs, q1⟩ := I.oreal i q h
    exact ⟨vs, kL _ _ q1⟩
  · refine ⟨I.scr.1, ?_⟩
    rcases I.scr.2 with ⟨ob, q⟩ | q
    · exact .inl ⟨ob, by rw [upd_ne (ne q fun m z => by cases z)]; exact q⟩
    · exact .inr q
theorem disp_ok {F : Fx} {own : Nat → Option Addr} {ρ : Env} {σ : L2.St} {ph : List Addr} {H : Hp} {μ μ' : Mu} {kvs : List (Int × D)} {Q : VK} (hK : F.K = X.K) (I : Stt F own ph ρ μ σ H) (ev : evPs F.S (cl F.S) ies ρ μ = .ok kvs μ') (h15 : kvs.length ≤ 15)
    (k : ∀ ph' H' p m, Stt F own ph' ρ μ' σ H' → Grow ph H ph' H' → H p = none → H' p = some (.dK m) → (∀ i, valV m (Sum.inl i) = (dlook kvs i).map toV) → (∀ i d, dlook kvs i = some d → d.sc = true) → Q (.ref p) H') : tDisp (tPs X.K cl ies) σ H Q := by
  intro p hp
  have I1 : Stt F own ph ρ μ σ (upd H p (.dK [])) := I.laid hp
  have g1 : Grow ph H ph (upd H p (.dK [])) := Grow.new hp
  refine pairs_ok hK ies I1 ev fun ph' H' I' g hsc => ?_
  have e1 : H' p = some (.dK []) := g.keep p _ upd_same (I.notPhi hp)
  refine ⟨e1, kvV kvs, rfl, by unfold kvV; rw [List.length_map]; exact h15, ?_⟩
  have h0 : F.H0 p = none := by
    cases q : F.H0 p with
    | none => rfl
    | some o => exact absurd hp (I.old p o q)
  refine k ph' _ p _ (I'.dict e1 h0) ⟨fun a o h n => ?_, (g1.trans g).ext, fun a o h => ?_⟩ hp upd_same (fun i => merge_look kvs i [] none rfl) fun i d h => dlook_sc kvs i none hsc (fun _ z => by cases z) d h
  · rw [upd_ne (ne_of_none h hp)]
    exact (g1.trans g).keep a o h n
  · rw [upd_ne (ne_of_none h hp)]
    exact (g1.trans g).old a o h
theorem plain_dict {ks : List (Option Expr)} {vs : List Expr} : attributeBase (.Dict ks vs p) "get" X.env (eval (.Dict ks vs p) X.env) = eval (.Dict ks vs p) X.env := rfl
theorem s_dget {ks : List (Option Expr)} {vs : List Expr} {p1 apos : Pos} (hu : X.A.units + 64 < cLine) (h : SPs X cl ks vs ies) (h0 : ks ≠ []) (h15 : ks.length ≤ 15) (hline : (apos.endLine == pos.line) = true) (ha : SE X cl a ia) (hb : SE X cl b ib) :
    SE X cl (.Call (.Attribute (.Dict ks vs p1) "get" apos) [a, b] [] pos) (.dget ies ia ib) := by
  obtain ⟨hp, hall, hl⟩ := h.pps (pos := p1)
  have sa := plain_star (X := X) (es := [b]) ha.pl
  have sb := plain_star (X := X) (es := []) hb.pl
  have tr : backTo pos (starEach [a, b] X.env) = [(false, eval a X.env), (false, eval b X.env)] := by rw [sa, sb]; rfl
  have hlen : ∀ {S : List Int} {c : Nat → List D → M D} {ρ : Env} {μ μ' : Mu} {kvs : List (Int × D)}, evPs S c ies ρ μ = .ok kvs μ' → kvs.length ≤ 15 := fun {S c ρ μ μ' kvs} ev => by
    have : ∀ {ks : List (Option Expr)} {vs : List Expr} {ies : IEs}, SPs X cl ks vs ies → ∀ {μ μ' : Mu} {kvs : List (Int × D)}, evPs S c ies ρ μ = .ok kvs μ' → kvs.length = ks.length := fun {ks vs ies} h => by
      induction h with
      | nil => intro μ μ' kvs ev; obtain ⟨rfl, rfl⟩ := pure_ok (show (pure [] : M (List (Int × D))) μ = .ok kvs μ' by simpa [evPs] using ev); rfl
      | cons _ _ _ ih =>
        intro μ μ' kvs ev
        unfold evPs at ev
        obtain ⟨x, μ1, e1, ev⟩ := bind_ok ev
        obtain ⟨y, μ2, e2, ev⟩ := bind_ok ev
        obtain ⟨pp, μ3, e3, ev⟩ := bind_ok ev
        obtain ⟨ps, μ4, e4, ev⟩ := bind_ok ev
        obtain ⟨rfl, rfl⟩ := pure_ok ev
        simp [ih e4]
    rw [this h ev]; exact h15
  have h : PE X (.Call (.Attribute (.Dict ks vs p1) "get" apos) [a, b] [] pos) (tE X.K cl (.dget ies ia ib)) := by
    refine (pe_dget2 (by omega) (pe_disp hp hall hl h0 h15) ha.pe hb.pe ⟨plain_dict, by rw [tr]; rfl, hline, tr⟩).imp fun σ H Q q => ?_
    obtain ⟨F, own, ph, ρ, μ, d, μ', hK, I, ev, k⟩ := q
    obtain ⟨kvs, μ1, e1, ev⟩ := bind_ok (show (evPs F.S (cl F.S) ies ρ >>= fun kvs => evE F.S (cl F.S) ia ρ >>= fun x => evE F.S (cl F.S) ib ρ >>= fun y => M.opt (dgetD kvs x y)) μ = .ok d μ' by simpa [evE] using ev)
    obtain ⟨x, μ2, e2, ev⟩ := bind_ok ev
    obtain ⟨y, μ3, e3, ev⟩ := bind_ok ev
    obtain ⟨e4, rfl⟩ := opt_ok ev
    refine disp_ok hK I e1 (hlen e1) fun ph1 H1 q m I1 g1 hq hH hv hs => ⟨q, rfl, .inl ⟨m, .inl hH⟩, ?_⟩
    refine two hK I1 e2 e3 fun ph2 vx vy H2 I2 g2 rx ry => ?_
    obtain ⟨i, rfl⟩ : ∃ i, x = .int i := by
      cases x <;> first | exact ⟨_, rfl⟩ | cases e4
    have e4 : some ((dlook kvs i).getD y) = some d := e4
    cases e4
    cases rx
    have hH2 : H2 q = some (.dK m) := g2.keep q _ hH (fun z => by rcases I1.mu.obj z with ⟨ws, z'⟩ | ⟨C, dx, gs, z'⟩ <;> (rw [hH] at z'; cases z'))
    refine ⟨_, DGet.k (k := Sum.inl i) hH2, ?_⟩
    rw [hv i]
    cases hd : dlook kvs i with
    | none => rw [hd] at k; exact k ph2 _ H2 I2 (g1.trans g2) ⟨ry, fun z => by cases z⟩
    | some dd => rw [hd] at k; exact k ph2 _ H2 I2 (g1.trans g2) ⟨toV_rep (hs i dd hd), fun z => by cases z⟩
  exact ⟨h, fun _ => pt_of h, rfl, fun z => by cases z⟩
theorem sps_len {S : List Int} {c : Nat → List D → M D} {ρ : Env} {ks : List (Option Expr)} {vs : List Expr} {ies : IEs} (h : SPs X cl ks vs ies) : ∀ {μ μ' : Mu} {kvs : List (Int × D)}, evPs S c ies ρ μ = .ok kvs μ' → kvs.length = ks.length := by
  induction h with
  | nil => intro μ μ' kvs ev; obtain ⟨rfl, rfl⟩ := pure_ok (show (pure [] : M (List (Int × D))) μ = .ok kvs μ' by simpa [evPs] using ev); rfl
  | cons _ _ _ ih =>
    intro μ μ' kvs ev
    unfold evPs at ev
    obtain ⟨x, μ1, e1, ev⟩ := bind_ok ev
    obtain ⟨y, μ2, e2, ev⟩ := bind_ok ev
    obtain ⟨pp, μ3, e3, ev⟩ := bind_ok ev
    obtain ⟨ps, μ4, e4, ev⟩ := bind_ok ev
    obtain ⟨rfl, rfl⟩ := pure_ok ev
    simp [ih e4]
theorem s_didx {ks : List (Option Expr)} {vs : List Expr} {p1 : Pos} (hu : X.A.units + 64 < cLine) (h : SPs X cl ks vs ies) (h0 : ks ≠ []) (h15 : ks.length ≤ 15) (ha : SE X cl a ia) :
    SE X cl (.Subscript (.Dict ks vs p1) a pos) (.didx ies ia) := by
  obtain ⟨hp, hall, hl⟩ := h.pps (pos := p1)
  have h : PE X (.Subscript (.Dict ks vs p1) a pos) (tE X.K cl (.didx ies ia)) := by
    refine (pe_dget (by omega) (pe_disp hp hall hl h0 h15) ha.pe (plain_ix ha.pl)).imp fun σ H Q q => ?_
    obtain ⟨F, own, ph, ρ, μ, d, μ', hK, I, ev, k⟩ := q
    obtain ⟨kvs, μ1, e1, ev⟩ := bind_ok (show (evPs F.S (cl F.S) ies ρ >>= fun kvs => evE F.S (cl F.S) ia ρ >>= fun x => M.opt (didxD kvs x)) μ = .ok d μ' by simpa [evE] using ev)
    obtain ⟨x, μ2, e2, ev⟩ := bind_ok ev
    obtain ⟨e4, rfl⟩ := opt_ok ev
    refine disp_ok hK I e1 (by rw [sps_len h e1]; exact h15) fun ph1 H1 q m I1 g1 hq hH hv hs => one hK I1 e2 fun ph2 vx H2 I2 g2 rx => ?_
    obtain ⟨i, rfl⟩ : ∃ i, x = .int i := by
      cases x <;> first | exact ⟨_, rfl⟩ | cases e4
    have e4 : dlook kvs i = some d := e4
    cases rx
    have hH2 : H2 q = some (.dK m) := g2.keep q _ hH (fun z => by rcases I1.mu.obj z with ⟨ws, z'⟩ | ⟨C, dx, gs, z'⟩ <;> (rw [hH] at z'; cases z'))
    have hg := DGet.k (k := Sum.inl i) hH2
    rw [hv i, e4] at hg
    exact ⟨q, toV d, rfl, hg, k ph2 _ H2 I2 (g1.trans g2) ⟨toV_rep (hs i d e4), fun z => by cases z⟩⟩
  exact ⟨h, fun _ => pt_of h, rfl, fun z => by cases z⟩
/-! ### an int of a dict of the top: NAME[int] -/
/-- what a dict of the top is -/
def KDI (K : PySem.W.Frag) (a : Addr) (kvs : List (Int × Int)) : Prop := ∃ es n, K.lookup a = some ⟨.type "dict", none, .dict es n, #[]⟩ ∧ es.toList.map entI = kvs.map fun p => some (p.1, hashInt p.1, p.2)
theorem entI_ok {e : DictEntry} {k h v : Int} (q : entI e = some (k, h, v)) : (∃ t, e.key = .int k t) ∧ e.hash = h ∧ ∃ t, e.val = .int v t := by
  unfold entI at q
  split at q
  · rename_i k' t v' u h1 h2
    simp only [Option.some.injEq, Prod.mk.injEq] at q
    obtain ⟨rfl, rfl, rfl⟩ := q
    exact ⟨⟨_, h1⟩, rfl, ⟨_, h2⟩⟩
  · cases q
theorem KDI.keys {P : Program} {w : World} : ∀ {es : List DictEntry} {kvs : List (Int × Int)}, es.map entI = kvs.map (fun p => some (p.1, hashInt p.1, p.2)) → ∀ e ∈ es, ∃ k, (intKind P w).is k e.key = true ∧ e.hash = (intKind P w).hash k
  | [], _, _, e, he => by cases he
  | _ :: _, [], h, _, _ => by cases h
  | e0 :: es, p :: kvs, h, e, he => by
    rw [List.map_cons, List.map_cons] at h
    injection h with h1 h2
    rcases List.mem_cons.mp he with rfl | he
    · obtain ⟨⟨t, q1⟩, q2, _⟩ := entI_ok h1
      exact ⟨p.1, by rw [q1]; simp [intKind, Value.isInt], q2⟩
    · exact KDI.keys h2 e he
theorem KDI.find {P : Program} {w : World} {k v : Int} : ∀ {es : List DictEntry} {kvs : List (Int × Int)}, es.map entI = kvs.map (fun p => some (p.1, hashInt p.1, p.2)) → kvs.lookup k = some v → ∃ t, (es.find? fun e => (intKind P w).is k e.key).map (·.val) = some (.int v t)
  | [], [], _, e => by cases e
  | [], _ :: _, h, _ => by cases h
  | _ :: _, [], h, _ => by cases h
  | e0 :: es, (k0, v0) :: kvs, h, e => by
    rw [List.map_cons, List.map_cons] at h
    injection h with h1 h2
    obtain ⟨⟨t, q1⟩, q2, ⟨u, q3⟩⟩ := entI_ok h1
    rw [List.lookup_cons] at e
    by_cases hk : k = k0
    · subst hk
      rw [beq_self_eq_true] at e
      cases e
      refine ⟨u, ?_⟩
      rw [List.find?_cons, show (intKind P w).is k e0.key = true by rw [q1]; simp [intKind, Value.isInt]]
      simp [q3]
    · rw [beq_eq_false_iff_ne.mpr hk] at e
      obtain ⟨t2, e2⟩ := KDI.find (P := P) (w := w) h2 e
      refine ⟨t2, ?_⟩
      rw [List.find?_cons, show (intKind P w).is k e0.key = false by rw [q1]; simp [intKind, Value.isInt]; exact fun z => hk z.symm]
      exact e2
def HasDct (X : Cx) (x : Str) (kvs : List (Int × Int)) : Prop := ∃ a, X.mg x = some (.ref a) ∧ KDI X.K a kvs
theorem s_gidx {x : Str} {kvs : List (Int × Int)} (hD : HasDct X x kvs) (hg : Gl X x) (hdb : (x == ("__debug__" : Str)) = false) (ha : SE X cl a ia) : SE X cl (.Subscript (.Name x p) a pos) (.gidx x kvs ia) := by
  obtain ⟨dA, hm, es, n, hl, hes⟩ := hD
  have h : PE X (.Subscript (.Name x p) a pos) (tE X.K cl (.gidx x kvs ia)) := by
    refine ⟨fun pins s σ H Q I q => ?_⟩
    obtain ⟨F, own, ph, ρ, μ, d, μ', hK, I0, ev, k⟩ := q
    obtain ⟨y, μ1, e1, ev⟩ := bind_ok (show (evE F.S (cl F.S) ia ρ >>= fun x => M.opt (gidxD kvs x)) μ = .ok d μ' by simpa [evE] using ev)
    obtain ⟨e4, rfl⟩ := opt_ok ev
    obtain ⟨i, rfl⟩ : ∃ i, y = .int i := by
      cases y <;> first | exact ⟨_, rfl⟩ | cases e4
    obtain ⟨v, e5, rfl⟩ := Option.map_eq_some_iff.mp (show (kvs.lookup i).map D.int = some d from e4)
    refine subD_of PySem.F.slot_dict_getitem.lookup (plain_ix ha.pl) (ld_glob I hg hm ?_ hdb)
    have hq := one hK I0 e1 (Q2 := fun vx H2 => ∃ ph2, vx = .int i ∧ Stt F own ph2 ρ μ1 σ H2 ∧ Grow ph H ph2 H2) fun ph2 vx H2 I2 g2 rx => by
      cases rx
      exact ⟨ph2, rfl, I2, g2⟩
    refine thn (ha.pe.run pins s σ H _ I hq) fun u s2 ⟨vx, H2, J, rv, ph2, e, I2, g2⟩ => ?_
    subst e
    obtain ⟨t, rfl⟩ := rv
    obtain ⟨t2, hf⟩ := KDI.find (P := X.prog) (w := X.w) hes e5
    have hmap : s2.heap.MapOf (intKind X.prog X.w) dA (findBy (intKind X.prog X.w).is es) := ⟨_, es, n, J.kIn _ _ hl, ⟨rfl, rfl, rfl⟩, rfl, fun e he => KDI.keys hes e (by simpa using he), fun _ => rfl⟩
    refine ⟨hmap.typeIs, wpAny_getItem_of (k := i) (by simp [intKind, Value.isInt]) hmap (v := .int v t2) ?_ ?_⟩
    · unfold findBy
      rw [← hf]
      obtain ⟨l⟩ := es
      simp
    · exact ⟨.int v, H2, J.tok _, ⟨t2, rfl⟩, k ph2 _ H2 I2 g2 (val0 (.int _) rfl)⟩
  exact ⟨h, fun _ => pt_of h, rfl, fun z => by cases z⟩
end
end Ev

set_option Elab.async false
set_option linter.all false
set_option maxRecDepth 100000
set_option maxHeartbeats 4000000
namespace Ev
open PySem L2 PyProof.Rows
section
variable {X : Cx} {cl : Calls} {a b c : Expr} {ia ib ic : IE} {pos p : Pos} {es : List Expr} {ies : IEs}
/-! ### calls of defs -/
/-- a def's promise by the evaluator -/
def spF (K : PySem.W.Frag) (cl : Calls) (f np : Nat) : Sp := fun vs H Q _ => vs.length = np ∧ ∃ S sa ph μ B ds d μ', Reps sa ph B H vs ds ∧ MuOk sa ph H μ ∧ ScrR K S sa H ∧ (∀ a, B a → H a ≠ none) ∧ (∀ a, B a → a ∉ ph) ∧ cl S f ds μ = .ok d μ' ∧
  ∀ ph' v H', Grow ph H ph' H' → MuOk sa ph' H' μ' → Rep sa ph' B H' v d → Q v H'
theorem passE {X : Cx} : Passes (L2.CX X.prog X.w) X E0 := fun _ _ _ _ _ _ _ h => by
  obtain ⟨_, _, _, _, _, _, _, _, _, _, _, _, z⟩ := h
  exact z.elim
structure HasFn (X : Cx) (cl : Calls) (k : Nat) (x : Str) (f np : Nat) (dk : Option (Str × Int)) : Prop where
  ex : ∃ fa fd ps, FnOk X.prog X.w X.K X.mg X.base (L2.CX X.prog X.w) k fa fd ps (spF X.K cl f np) ∧ X.mg x = some (.ref fa) ∧ PySem.W.keepIn X.K (.ref fa) = true ∧ (dk = none → Binds X.K fd ps []) ∧
    ∀ kw d, dk = some (kw, d) → (∃ ds, Vals [V.int d] ds ∧ Binds X.K fd ps ds) ∧ ∃ n g, np = n + 1 ∧ KBn X.K fd ps n [kw] g (fun vs zs => vs ++ zs)
  len : ∀ S ds μ d μ', cl S f ds μ = .ok d μ' → ds.length = np
theorem s_call {k : Nat} {x : Str} {f np : Nat} (hF : HasFn X cl k x f np none) (hr : Room k X.A) (hg : Gl X x) (hdb : (x == ("__debug__" : Str)) = false) (ha : SA X cl es ies) : SE X cl (.Call (.Name x p) es [] pos) (.call f ies) := by
  obtain ⟨fa, fd, ps, F0, hm, hk, hb, _⟩ := hF.ex
  have hb := hb rfl
  have main : ∀ {σ : L2.St} {H : Hp} {Q : VK}, tE X.K cl (.call f ies) σ H Q → tCall (spF X.K cl f np) [] E0 (tEs X.K cl ies) σ H Q := fun {σ H Q} q => by
    obtain ⟨F, own, ph, ρ, μ, d, μ', hK, I, ev, kk⟩ := q
    obtain ⟨ds, μ1, e1, ev⟩ := bind_ok (show (evEs F.S (cl F.S) ies ρ >>= fun ds => cl F.S f ds) μ = .ok d μ' by simpa [evE] using ev)
    refine ⟨F, own, ph, ρ, μ, ds, μ1, hK, I, e1, fun ph1 vs H1 I1 g1 rs => ⟨?_, F.S, F.sa, ph1, μ1, Av F own (lks ies), ds, d, μ', ?_, I1.mu, hK ▸ I1.scr, fun a h => I1.dom h, fun a h => I1.avphi h, ev, fun ph' v H' g M r => ?_⟩⟩
    · rw [List.append_nil, rs.length]; exact hF.len _ _ _ _ _ ev
    · rw [List.append_nil]; exact rs
    · exact kk ph' v H' (I1.grow g M) (g1.trans g) ⟨r, fun z => by cases z⟩
  have h : PE X (.Call (.Name x p) es [] pos) (tE X.K cl (.call f ies)) := by
    cases es with
    | nil =>
      refine (pe_call0 F0 hr hg hm hk hb .nil passE hdb).imp fun σ H Q q => ?_
      cases ies with
      | nil =>
        obtain ⟨F, own, ph, ρ, μ, ds, μ1, hK, I, e1, kk⟩ := main q
        obtain ⟨rfl, rfl⟩ := pure_ok (show (pure [] : M (List D)) μ = .ok ds μ1 by simpa [evEs] using e1)
        exact kk ph [] H I (Grow.refl _ _) .nil
      | cons ie r =>
        have := ha.ln
        cases this
    | cons e es =>
      have hp := ha.pl
      rw [List.all_cons, Bool.and_eq_true] at hp
      exact (pe_call F0 hr hg hm hk hb .nil passE ha.pa hdb (plain_star hp.1) (noStars hp.2 pos)).imp fun σ H Q q => main q
  exact ⟨h, fun _ => pt_of h, rfl, fun z => by cases z⟩
theorem s_callF {k : Nat} {x : Str} {f np : Nat} (hF : HasFn X cl k x f np none) (hr : Room k X.A) (hg : Gl X x) (hdb : (x == ("__debug__" : Str)) = false) (hn : newL ia = true) (h0 : SE X cl a ia) (ha : SA X cl es ies) : SE X cl (.Call (.Name x p) (a :: es) [] pos) (.callF f ia ies) := by
  obtain ⟨fa, fd, ps, F0, hm, hk, hb, _⟩ := hF.ex
  have hb := hb rfl
  have hp := ha.pl
  have h : PE X (.Call (.Name x p) (a :: es) [] pos) (tE X.K cl (.callF f ia ies)) := by
    refine (pe_call F0 hr hg hm hk hb .nil passE (pa_cons h0.pe ha.pa (plain_star h0.pl)) hdb (plain_star h0.pl) (noStars hp pos)).imp fun σ H Q q => ?_
    obtain ⟨F, own, ph, ρ, μ, d, μ', hK, I, ev, kk⟩ := q
    obtain ⟨d0, μ1, e1, ev⟩ := bind_ok (show (evE F.S (cl F.S) ia ρ >>= fun x => if (x.flat && x.isL) = true then evEs F.S (cl F.S) ies ρ >>= fun ds => cl F.S f (x :: ds) else M.no) μ = .ok d μ' by simpa [evE] using ev)
    obtain ⟨hc, ev⟩ : (d0.flat && d0.isL) = true ∧ (evEs F.S (cl F.S) ies ρ >>= fun ds => cl F.S f (d0 :: ds)) μ1 = .ok d μ' := by
      by_cases hc : (d0.flat && d0.isL) = true
      · rw [if_pos hc] at ev; exact ⟨hc, ev⟩
      · rw [if_neg hc] at ev; cases ev
    rw [Bool.and_eq_true] at hc
    obtain ⟨ds, μ2, e2, ev⟩ := bind_ok ev
    obtain ⟨xs, hxs⟩ : ∃ xs, d0 = .lst xs := by
      have := hc.2
      cases d0 <;> first | exact ⟨_, rfl⟩ | (cases this; done)
    subst hxs
    refine ⟨F, own, ph, ρ, μ, _, μ1, hK, I, e1, fun ph1 v H1 I1 g1 V1 => ⟨F, own, ph1, ρ, μ1, ds, μ2, hK, I1, e2, fun ph2 vs H2 I2 g2 rs => ?_⟩⟩
    obtain ⟨q, us, rfl, hq0, hq1, hq2, rq⟩ := V1.new hn xs rfl
    have hq3 : H2 q = some (.lst us) := g2.keep _ _ hq1 hq2
    have hq4 : q ∉ ph2 := fun z => by
      obtain ⟨nw, e, hnw⟩ := g2.ext
      rw [e] at z
      rcases List.mem_append.mp z with z | z
      · exact hq2 z
      · rw [hnw q z] at hq1
        cases hq1
    have hq5 : ¬ Av F own (lks ies) q := fun z => I.dom z hq0
    refine ⟨?_, F.S, F.sa, ph2, μ2, Av F own (lks ies), .lst xs :: ds, d, μ', ?_, I2.mu, hK ▸ I2.scr, fun a h => I2.dom h, fun a h => I2.avphi h, ev, fun ph' v H' g M r => ?_⟩
    · rw [List.append_nil, List.length_cons, rs.length]
      have := hF.len _ _ _ _ _ ev
      rw [List.length_cons] at this
      exact this
    · rw [List.append_nil]
      exact .cons (.lst hq3 hq5 hq4 (Reps.scal hc.1 rq)) rs
    · exact kk ph' v H' (I2.grow g M) ((g1.trans g2).trans g) ⟨r, fun z => by cases z⟩
  exact ⟨h, fun _ => pt_of h, rfl, fun z => by cases z⟩
theorem s_callD {k : Nat} {x kw : Str} {f np : Nat} {dv : Int} {e : Expr} (hF : HasFn X cl k x f np (some (kw, dv))) (hr : Room k X.A) (hg : Gl X x) (hdb : (x == ("__debug__" : Str)) = false) (ha : SA X cl (e :: es) ies) : SE X cl (.Call (.Name x p) (e :: es) [] pos) (.callD f ies (.int dv)) := by
  obtain ⟨fa, fd, ps, F0, hm, hk, _, hb⟩ := hF.ex
  obtain ⟨⟨dvs, hv, hb⟩, _⟩ := hb kw dv rfl
  have hp := ha.pl
  rw [List.all_cons, Bool.and_eq_true] at hp
  have h : PE X (.Call (.Name x p) (e :: es) [] pos) (tE X.K cl (.callD f ies (.int dv))) := by
    refine (pe_call F0 hr hg hm hk hb hv passE ha.pa hdb (plain_star hp.1) (noStars hp.2 pos)).imp fun σ H Q q => ?_
    obtain ⟨F, own, ph, ρ, μ, d, μ', hK, I, ev, kk⟩ := q
    obtain ⟨ds, μ1, e1, ev⟩ := bind_ok (show (evEs F.S (cl F.S) ies ρ >>= fun ds => cl F.S f (ds ++ [.int dv])) μ = .ok d μ' by simpa [evE] using ev)
    refine ⟨F, own, ph, ρ, μ, ds, μ1, hK, I, e1, fun ph1 vs H1 I1 g1 rs => ⟨?_, F.S, F.sa, ph1, μ1, Av F own (lks ies), ds ++ [.int dv], d, μ', rs.append (.cons (.int dv) .nil), I1.mu, hK ▸ I1.scr, fun a h => I1.dom h, fun a h => I1.avphi h, ev, fun ph' v H' g M r => ?_⟩⟩
    · rw [List.length_append, rs.length]
      have := hF.len _ _ _ _ _ ev
      rw [List.length_append] at this
      exact this
    · exact kk ph' v H' (I1.grow g M) (g1.trans g) ⟨r, fun z => by cases z⟩
  exact ⟨h, fun _ => pt_of h, rfl, fun z => by cases z⟩
theorem s_callK {k : Nat} {x kw : Str} {f np : Nat} {dv : Int} {e : Expr} {kp : Pos} (hF : HasFn X cl k x f np (some (kw, dv))) (hr : Room k X.A) (hg : Gl X x) (hdb : (x == ("__debug__" : Str)) = false) (ha : SA X cl (e :: es) ies) (hb : SE X cl b ib) :
    SE X cl (.Call (.Name x p) (e :: es) [⟨some kw, b, kp⟩] pos) (.callK f ies kw ib) := by
  obtain ⟨fa, fd, ps, F0, hm, hk, _, hbn⟩ := hF.ex
  obtain ⟨_, n, g, hn, hbn⟩ := hbn kw dv rfl
  have hp := ha.pl
  rw [List.all_cons, Bool.and_eq_true] at hp
  have hpl : ((backTo pos (starEach (e :: es) X.env)).any (·.1) || (backToKw pos (keywordEach [⟨some kw, b, kp⟩] X.env)).any (·.1.isNone)) = false := by
    rw [noStars ha.pl pos]
    rfl
  have h : PE X (.Call (.Name x p) (e :: es) [⟨some kw, b, kp⟩] pos) (tE X.K cl (.callK f ies kw ib)) := by
    refine (pe_callN F0 hr hg hm hk hbn passE ha.pa (pk_cons hb.pe pk_nil) rfl rfl hdb (plain_star hp.1) hpl).imp fun σ H Q q => ?_
    obtain ⟨F, own, ph, ρ, μ, d, μ', hK, I, ev, kk⟩ := q
    obtain ⟨ds, μ1, e1, ev⟩ := bind_ok (show (evEs F.S (cl F.S) ies ρ >>= fun ds => evE F.S (cl F.S) ib ρ >>= fun d => cl F.S f (ds ++ [d])) μ = .ok d μ' by simpa [evE] using ev)
    obtain ⟨dd, μ2, e2, ev⟩ := bind_ok ev
    have hl := hF.len _ _ _ _ _ ev
    rw [List.length_append, hn] at hl
    have hl : ds.length + 1 = n + 1 := hl
    refine ⟨F, own, ph, ρ, μ, ds, μ1, hK, I, e1, fun ph1 vs H1 I1 g1 rs => one hK I1 e2 fun ph2 vx H2 I2 g2 rx => ⟨?_, rfl, ?_, F.S, F.sa, ph2, μ2, Av F own (lks ies ++ lk ib), ds ++ [dd], d, μ', ?_, I2.mu, hK ▸ I2.scr, fun a h => I2.dom h, fun a h => I2.avphi h, ev, fun ph' v H' g M r => ?_⟩⟩
    · rw [rs.length]; omega
    · show (vs ++ [vx]).length = np
      rw [List.length_append, rs.length, hn]
      show ds.length + 1 = n + 1
      omega
    · exact ((g2.reps I1.mu rs).weaken lkA).append (.cons (rx.weaken lkB) .nil)
    · exact kk ph' v H' (I2.grow g M) ((g1.trans g2).trans g) ⟨r, fun z => by cases z⟩
  exact ⟨h, fun _ => pt_of h, rfl, fun z => by cases z⟩

/-! ### what is walked -/
/-- J gives out the data ds, as long as what is held is there -/
def IterR (sa : Sa) (J : It) (held : List (V × D)) (ds : List D) : Prop := ∀ (ph : List Addr) (A : Addr → Prop) (H : Hp), (∀ p ∈ held, Rep sa ph A H p.1 p.2) →
  (∀ (i : Nat) (d : D), ds[i]? = some d → J.go i H ∧ ∀ x H', J.yld i H x H' → (H' = H ∧ Rep sa ph A H x d) ∨ ∃ T vs es, x = .ref T ∧ H T = none ∧ H' = upd H T (.tup vs) ∧ d = .tup es ∧ Reps sa ph A H vs es) ∧ J.stop ds.length H
def tI (K : PySem.W.Frag) (cl : Calls) (it : IT) : TI := fun σ H R => ∃ F own ph ρ μ ds μ', F.K = K ∧ Stt F own ph ρ μ σ H ∧ evT F.S (cl F.S) it ρ μ = .ok ds μ' ∧
  ∀ ph' H' J held, Stt F own ph' ρ μ' σ H' → Grow ph H ph' H' → (∀ p ∈ held, Rep F.sa ph' (Av F own (lostT it ds)) H' p.1 p.2) → IterR F.sa J held ds → R J H'
theorem _root_.L2.PI.imp {X : Cx} {tg e : Expr} {t t' : TI} (h : PI X tg e t) (hm : ∀ σ H R, t' σ H R → t σ H R) : PI X tg e t' := ⟨fun pins s σ H R I q => h.run pins s σ H R I (hm σ H R q)⟩
structure SI (X : Cx) (cl : Calls) (tg e : Expr) (it : IT) : Prop where
  pi : PI X tg e (tI X.K cl it)
  pl : plainX e = true
def iSeq (K : PySem.W.Frag) (tl : TE) : TI := fun σ H R => tl σ H fun x H1 => ∃ a, x = .ref a ∧ (((∃ xs, SqL K H1 a xs) ∧ R (Itl K a) H1) ∨ ((∃ xs, SqT K H1 a xs) ∧ R (Itt K a) H1))
theorem pi_seq {tg l : Expr} {tl : TE} (hl : PE X l tl) : PI X tg l (iSeq X.K tl) := by
  refine ⟨fun pins s σ H R I h => ?_⟩
  refine thn (hl.run pins s σ H _ I h) fun v s1 ⟨x, H1, I1, r1, q1⟩ => ?_
  obtain ⟨a, e, q1⟩ := q1
  subst e
  cases r1
  rcases q1 with ⟨⟨xs, hq⟩, q⟩ | ⟨⟨xs, hq⟩, q⟩
  · obtain ⟨its, rv, p, hz⟩ := I1.list hq
    refine wpAny_pyIter_list p.isList ?_
    refine ⟨s1.heap.objs.size, [s1.heap.objs.size], _, _, H1, rfl, I1.kept (t' := s1.toks) fun b o e => Heap.get?_push_of_some _ e, turn_list a _, ⟨_, Heap.get?_push_size _ rfl, rfl, rfl⟩, fun b hb => ?_, q⟩
    have e : b = s1.heap.objs.size := by simpa using hb
    subst e
    exact I1.fpOk (Nat.le_refl _) (I1.hok.fresh (Nat.le_refl _))
  · obtain ⟨its, rv, p, hz⟩ := I1.tuple hq
    refine wpAny_pyIter_tuple (show s1.heap.IsTuple a its.toArray from p) ?_
    refine ⟨s1.heap.objs.size, [s1.heap.objs.size], _, _, H1, rfl, I1.kept (t' := s1.toks) fun b o e => Heap.get?_push_of_some _ e, turn_tuple a _, ⟨_, Heap.get?_push_size _ rfl, rfl, rfl⟩, fun b hb => ?_, q⟩
    have e : b = s1.heap.objs.size := by simpa using hb
    subst e
    exact I1.fpOk (Nat.le_refl _) (I1.hok.fresh (Nat.le_refl _))
theorem iter_lst {K : PySem.W.Frag} {sa : Sa} {a : Addr} {ds : List D} : IterR sa (Itl K a) [(.ref a, .lst ds)] ds := by
  intro ph A H h
  cases h (.ref a, .lst ds) (by simp) with
  | lst e _ _ r =>
    refine ⟨fun i d hd => ?_, _, SqL.of e, by rw [r.length]; exact Nat.le_refl _⟩
    obtain ⟨v, h1, h2⟩ := r.get hd
    refine ⟨⟨_, v, SqL.of e, h1⟩, fun x H' y => .inl ⟨y.1, ?_⟩⟩
    have := y.2 _ (SqL.of e)
    rw [h1] at this
    cases this
    exact h2
theorem iter_tup {K : PySem.W.Frag} {sa : Sa} {a : Addr} {ds : List D} : IterR sa (Itt K a) [(.ref a, .tup ds)] ds := by
  intro ph A H h
  cases h (.ref a, .tup ds) (by simp) with
  | tup e r =>
    refine ⟨fun i d hd => ?_, _, SqT.of e, by rw [r.length]; exact Nat.le_refl _⟩
    obtain ⟨v, h1, h2⟩ := r.get hd
    refine ⟨⟨_, v, SqT.of e, h1⟩, fun x H' y => .inl ⟨y.1, ?_⟩⟩
    have := y.2 _ (SqT.of e)
    rw [h1] at this
    cases this
    exact h2
theorem iter_rng {sa : Sa} {lo hi : Int} : IterR sa (Itr lo (hi - lo).toNat) [] (rngD lo hi) := by
  intro ph A H _
  unfold rngD
  refine ⟨fun i d hd => ?_, by show (hi - lo).toNat ≤ _; rw [List.length_map, List.length_range]; exact Nat.le_refl _⟩
  rw [List.getElem?_map] at hd
  obtain ⟨j, h1, rfl⟩ := Option.map_eq_some_iff.mp hd
  have hl : i < (List.range (hi - lo).toNat).length := (List.getElem?_eq_some_iff.mp h1).1
  rw [List.length_range] at hl
  rw [List.getElem?_eq_getElem (by rw [List.length_range]; exact hl), List.getElem_range] at h1
  cases h1
  exact ⟨hl, fun x H' y => .inl ⟨y.1, by rw [y.2]; exact .int _⟩⟩
/-! ### zip of lists and tuples in any mix -/
def SqA (k : Bool) (K : PySem.W.Frag) (H : Hp) (a : Addr) (xs : List V) : Prop := if k then SqL K H a xs else SqT K H a xs
def ItA (k : Bool) (h : Heap) (it a : Addr) (i : Nat) : Prop := if k then h.IsListIter it a i else h.IsTupleIter it a i
def IsA (k : Bool) (h : Heap) (a : Addr) (items : Array Value) : Prop := if k then h.IsList a items else h.IsTuple a items
def obA (k : Bool) (a : Addr) : Obj := if k then { cls := .type "list_iterator", data := .fields #[.ref a, .int 0 0] } else { cls := .type "tuple_iterator", data := .fields #[.ref a, .int 0 0] }
theorem Inv.seqA {pins : List (Addr × Obj)} {σ : L2.St} {H : Hp} {s : Shared} {k : Bool} {a : Addr} {xs : List V} (I : Inv X pins σ H s) (h : SqA k X.K H a xs) : ∃ its : List Value, Vals xs its ∧ IsA k s.heap a its.toArray ∧ a < s.heap.objs.size := by
  cases k with
  | true =>
    obtain ⟨its, rv, p, _⟩ := I.list (show SqL X.K H a xs from h)
    exact ⟨its, rv, p.isList, p.lt⟩
  | false =>
    obtain ⟨its, rv, p, _⟩ := I.tuple (show SqT X.K H a xs from h)
    obtain ⟨o, ho, _⟩ := id p
    exact ⟨its, rv, p, Heap.lt_size ho⟩
theorem Inv.seqA_inj {pins : List (Addr × Obj)} {σ : L2.St} {H : Hp} {s : Shared} {k : Bool} {a : Addr} {xs ys : List V} (I : Inv X pins σ H s) (h : SqA k X.K H a xs) (h' : SqA k X.K H a ys) : xs = ys := by
  cases k with
  | true => exact I.list_inj (show SqL X.K H a xs from h) h'
  | false => exact I.tuple_inj (show SqT X.K H a xs from h) h'
theorem drawsA {prog : Program} {w : World} {A : Around} (hh : A.handled = none) (k : Bool) (it l : Addr) (hne : l ≠ it) (items : Array Value) : Draws prog w A it [it, l] items.size (fun i v => items[i]? = some v) (fun i h => ItA k h it l i ∧ IsA k h l items) := by
  cases k with
  | true => exact Draws.list hh it l hne items
  | false => exact Draws.tuple hh it l hne items
theorem beginsA (k : Bool) (l : Addr) (items : Array Value) : Begins (.ref l) (obA k l) fun h => IsA k h l items := by
  cases k with
  | true => exact begins_list l items
  | false => exact begins_tuple l items
theorem ItA.ob {k : Bool} {h : Heap} {it a : Addr} {i : Nat} (x : ItA k h it a i) : ∃ o, h.get? it = some o ∧ ∀ v, o.data ≠ .cell v := by
  cases k with
  | true => obtain ⟨o, e, _, d⟩ := (show h.IsListIter it a i from x); exact ⟨o, e, fun v q => by rw [d] at q; cases q⟩
  | false => obtain ⟨o, e, _, d⟩ := (show h.IsTupleIter it a i from x); exact ⟨o, e, fun v q => by rw [d] at q; cases q⟩
theorem ItA.at {k : Bool} {h h' : Heap} {it a : Addr} {i : Nat} (x : ItA k h it a i) (f : ∀ o, h.get? it = some o → h'.get? it = some o) : ItA k h' it a i := by
  cases k with
  | true => exact Heap.IsListIter.at (show h.IsListIter it a i from x) f
  | false => exact Heap.IsTupleIter.at (show h.IsTupleIter it a i from x) f
def ItzA (K : PySem.W.Frag) (k1 k2 : Bool) (a b : Addr) : It :=
  ⟨fun i H => ∃ (xs ys : List V) (x y : V), SqA k1 K H a xs ∧ SqA k2 K H b ys ∧ xs[i]? = some x ∧ ys[i]? = some y,
    fun i H v H' => ∃ T x y, v = .ref T ∧ H T = none ∧ H' = upd H T (.tup [x, y]) ∧ (∀ xs, SqA k1 K H a xs → xs[i]? = some x) ∧ ∀ ys, SqA k2 K H b ys → ys[i]? = some y,
    fun i H => ∃ xs ys : List V, SqA k1 K H a xs ∧ SqA k2 K H b ys ∧ i ≤ xs.length ∧ i ≤ ys.length ∧ (i = xs.length ∨ i = ys.length)⟩
theorem turn_zipA {P : Program} {w : World} {K : PySem.W.Frag} {elts : List Expr} {kk : Nat} {tpos : Pos} {k1 k2 : Bool} {a b z TI TO i1 i2 : Addr} (D : ZipSep2 z TI TO i1 i2 [i1, a] [i2, b]) (na : a ≠ i1) (nb : b ≠ i2) :
    Turn P w K (.Tuple elts kk tpos) (ItzA K k1 k2 a b) [z, TI, TO, i1, i2] z (fun i h => IsZip h z TI TO .none ∧ IsTupOf2 h TI (.ref i1) (.ref i2) ∧ (∃ x y, IsTupOf2 h TO x y) ∧ ItA k1 h i1 a i ∧ ItA k2 h i2 b i) where
  mem := by simp
  obj := fun i h st c hc => by
    obtain ⟨hz, hTI, ⟨x, y, hTO⟩, h1, h2⟩ := st
    have e' : c = z ∨ c = TI ∨ c = TO ∨ c = i1 ∨ c = i2 := by simpa using hc
    rcases e' with q | q | q | q | q
    · rw [q]; exact ⟨_, hz, fun v q => nomatch q⟩
    · rw [q]; exact ⟨_, hTI, fun v q => nomatch q⟩
    · rw [q]; exact ⟨_, hTO, fun v q => nomatch q⟩
    · rw [q]; exact h1.ob
    · rw [q]; exact h2.ob
  keep := fun i h h' st k => by
    obtain ⟨hz, hTI, ⟨x, y, hTO⟩, h1, h2⟩ := st
    exact ⟨k z (by simp) _ hz, k TI (by simp) _ hTI, ⟨x, y, k TO (by simp) _ hTO⟩, h1.at fun o q => k i1 (by simp) o q, h2.at fun o q => k i2 (by simp) o q⟩
  item := by
    intro X hP hw hK hc i pins s σ H E I hf st hg
    subst hP hw hK
    obtain ⟨hz, hTI, ⟨x0, y0, hTO⟩, h1, h2⟩ := st
    obtain ⟨xs, ys, x, y, hqx, hqy, hx, hy⟩ := hg
    obtain ⟨its, rv, p, _⟩ := Inv.seqA I hqx
    obtain ⟨its2, rv2, p2, _⟩ := Inv.seqA I hqy
    obtain ⟨u, hu, ru⟩ := rv.get hx
    obtain ⟨u2, hu2, ru2⟩ := rv2.get hy
    have hzl : z < s.heap.objs.size := Heap.lt_size hz
    have l1 : i < its.toArray.size := by rw [List.size_toArray]; exact (List.getElem?_eq_some_iff.mp hu).1
    have l2 : i < its2.toArray.size := by rw [List.size_toArray]; exact (List.getElem?_eq_some_iff.mp hu2).1
    have hh : (X.A.in1).handled = none := I.ok.hd hc
    refine wpAny_pyNext_zipD2_item D (drawsA hh k1 i1 a na its.toArray) (drawsA hh k2 i2 b nb its2.toArray) hz hTI hTO ⟨h1, p⟩ ⟨h2, p2⟩ l1 l2 fun x1 x2 h' tk y1 y2 z' TO' d1 d2 hT hsz hk => ?_
    have y1 : its.toArray[i]? = some x1 := y1
    have y2 : its2.toArray[i]? = some x2 := y2
    have y1 : its[i]? = some x1 := by simpa using y1
    have y2 : its2[i]? = some x2 := by simpa using y2
    rw [hu] at y1; cases y1
    rw [hu2] at y2; cases y2
    refine ⟨_, rfl, wpAny_letOwnedTupleGo_zip (s := { s with heap := h', toks := tk }) z' fun h'' z'' sb => ?_⟩
    have hT2 : h''.get? s.heap.objs.size = some { cls := .type "tuple", data := .seq #[u, u2] } := (sb.2 _ (Nat.ne_of_gt hzl)).trans hT
    have new : ObjOk X.prog X.w (upd H s.heap.objs.size (.tup [x, y])) h'' s.heap.objs.size (.tup [x, y]) :=
      ⟨by show 2 ≤ sizeLine; decide, [u, u2], .cons ru (.cons ru2 .nil), ⟨_, hT2, rfl, _, rfl⟩⟩
    have I1 : Inv X pins σ (upd H s.heap.objs.size (.tup [x, y])) { s with heap := h'', toks := tk } :=
      I.turnedNew (ch := [z, TI, TO, i1, i2]) (fun c o hb q => (sb.2 c (fun q' => hb (by simp [q']))).trans (hk c o (fun q' => hb (by simp [q'])) (fun q' => hb (by simp [q'])) (fun q' => hb (by simp [q'])) (fun q' => hb (by simp [q'])) q)) hf (Nat.le_refl _) new
    refine ⟨.ref s.heap.objs.size, _, I1, rfl, ⟨_, x, y, rfl, I.hok.fresh (Nat.le_refl _), rfl, fun l hl => by rw [Inv.seqA_inj I hl hqx]; exact hx, fun l hl => by rw [Inv.seqA_inj I hl hqy]; exact hy⟩, ⟨z'', ?_, ⟨u, u2, ?_⟩, ?_, ?_⟩, fun c hcm => ?_⟩
    · exact (sb.2 _ D.TIz).trans (hk _ _ D.TIz D.TITO D.TIi1 D.TIi2 hTI)
    · exact (sb.2 _ D.TOz).trans TO'
    · exact d1.1.at fun o q => (sb.2 _ (Ne.symm D.zi1)).trans q
    · exact d2.1.at fun o q => (sb.2 _ (Ne.symm D.zi2)).trans q
    · have hlt : c < s.heap.objs.size := by
        have e' : c = z ∨ c = TI ∨ c = TO ∨ c = i1 ∨ c = i2 := by simpa using hcm
        rcases e' with q | q | q | q | q
        · rw [q]; exact hzl
        · rw [q]; exact Heap.lt_size hTI
        · rw [q]; exact Heap.lt_size hTO
        · rw [q]; obtain ⟨_, e1, _⟩ := h1.ob; exact Heap.lt_size e1
        · rw [q]; obtain ⟨_, e2, _⟩ := h2.ob; exact Heap.lt_size e2
      rw [upd_ne (Nat.ne_of_lt hlt)]
      exact (hf c hcm).1
  done := by
    intro X hP hw hK hc i pins s σ H E I hf st hg
    subst hP hw hK
    obtain ⟨hz, hTI, ⟨x0, y0, hTO⟩, h1, h2⟩ := st
    obtain ⟨xs, ys, hqx, hqy, g1, g2, hend⟩ := hg
    obtain ⟨its, rv, p, _⟩ := Inv.seqA I hqx
    obtain ⟨its2, rv2, p2, _⟩ := Inv.seqA I hqy
    have l1 := rv.length
    have l2 := rv2.length
    have hh : (X.A.in1).handled = none := I.ok.hd hc
    have z1 : its.toArray.size = xs.length := by rw [List.size_toArray]; exact l1.symm
    have z2 : its2.toArray.size = ys.length := by rw [List.size_toArray]; exact l2.symm
    exact wpAny_pyNext_zipD2_end D (drawsA hh k1 i1 a na its.toArray) (drawsA hh k2 i2 b nb its2.toArray) hz hTI hTO ⟨h1, p⟩ ⟨h2, p2⟩ (by omega) (by omega) (by omega) fun h' tk hk => ⟨rfl, I.turnedL (t' := tk) (ch := [z, TI, TO, i1, i2]) (fun c o hb q =>
      hk c o (fun q' => hb (by simp [q'])) (fun q' => hb (by simp [q'])) (fun q' => hb (by simp [q'])) (fun q' => hb (by simp [q'])) q) hf⟩
  self := fun A i s Q E st h => wpAny_pyIter_zip st.1 h
def iZipB (K : PySem.W.Frag) (ta : TA) : TI := fun σ H R => ta σ H fun vs H1 => ∃ k1 k2 a b xs ys, vs = [.ref a, .ref b] ∧ SqA k1 K H1 a xs ∧ SqA k2 K H1 b ys ∧ R (ItzA K k1 k2 a b) H1
theorem pi_zipB {e e2 : Expr} {ta : TA} {tpos : Pos} {elts : List Expr} {kk : Nat} (hg : Gl X "zip") (hm : X.mg "zip" = none) (ha : PA X [e, e2] ta)
    (hs : starEach [e, e2] X.env = (false, eval e X.env) :: starEach [e2] X.env) (hpl : (backTo pos (starEach [e2] X.env)).any (·.1) = false) :
    PI X (.Tuple elts kk tpos) (.Call (.Name "zip" p) [e, e2] [] pos) (iZipB X.K ta) := by
  refine ⟨fun pins s σ H R I h => ?_⟩
  refine Call_ (ld_blt I hg hm PyProof.Rows.boot_zip (PyProof.Rows.callWith_type1 (thn (ha.run pos pins s σ H _ I h) fun us s1 ⟨vs, H1, I1, r1, q1⟩ => ?_) hs hpl))
  obtain ⟨k1, k2, a, b, xs, ys, ex, hqx, hqy, q⟩ := q1
  subst ex
  cases r1 with
  | cons r rr =>
    cases rr with
    | cons r' rr =>
      cases rr
      cases r
      cases r'
      have fresh5 : ∀ c, c ∈ [s1.heap.objs.size + 4, s1.heap.objs.size + 2, s1.heap.objs.size + 3, s1.heap.objs.size, s1.heap.objs.size + 1] → FpOk X pins H1 c := fun c hcm => by
        have e' : c = s1.heap.objs.size + 4 ∨ c = s1.heap.objs.size + 2 ∨ c = s1.heap.objs.size + 3 ∨ c = s1.heap.objs.size ∨ c = s1.heap.objs.size + 1 := by simpa using hcm
        have hle : s1.heap.objs.size ≤ c := by
          rcases e' with z | z | z | z | z
          · rw [z]; exact Nat.le_add_right _ _
          · rw [z]; exact Nat.le_add_right _ _
          · rw [z]; exact Nat.le_add_right _ _
          · rw [z]; exact Nat.le_refl _
          · rw [z]; exact Nat.le_add_right _ _
        exact I1.fpOk hle (I1.hok.fresh hle)
      obtain ⟨its, rv, p1, la⟩ := Inv.seqA I1 hqx
      obtain ⟨its2, rv2, p2, lb⟩ := Inv.seqA I1 hqy
      refine zip_begins2 (beginsA k1 a its.toArray) (beginsA k2 b its2.toArray) p1 p2 fun h' hz hTI hTO h1 h2 hsz hk => wpAny_pyIter_zip hz ?_
      have I2 : Inv X pins σ H1 { s1 with heap := h' } := I1.kept (t' := s1.toks) hk
      refine ⟨s1.heap.objs.size + 4, [s1.heap.objs.size + 4, s1.heap.objs.size + 2, s1.heap.objs.size + 3, s1.heap.objs.size, s1.heap.objs.size + 1], _, _, H1, rfl, I2, turn_zipA (k1 := k1) (k2 := k2) (zip_sep2 (fp1 := [a]) (fp2 := [b]) (fun c hc => by simp at hc; rw [hc]; exact la) (fun c hc => by simp at hc; rw [hc]; exact lb)) (Nat.ne_of_lt la) (Nat.ne_of_lt (Nat.lt_succ_of_lt lb)), ⟨hz, hTI, ⟨_, _, hTO⟩, ?_, ?_⟩, fresh5, q⟩
      · cases k1 with
        | true => exact ⟨_, h1, rfl, rfl⟩
        | false => exact ⟨_, h1, rfl, rfl⟩
      · cases k2 with
        | true => exact ⟨_, h2, rfl, rfl⟩
        | false => exact ⟨_, h2, rfl, rfl⟩
/-- what items sees, as a sequence -/
theorem seq_of {K : PySem.W.Frag} {sa : Sa} {ph : List Addr} {A : Addr → Prop} {H : Hp} {v : V} {x : D} {ds : List D} (r : Rep sa ph A H v x) (e : items x = some ds) : ∃ k a, v = .ref a ∧ x = (if k then .lst ds else .tup ds) ∧ ∀ {ph : List Addr} {A : Addr → Prop} {H : Hp}, Rep sa ph A H (.ref a) x → ∃ vs, SqA k K H a vs ∧ Reps sa ph A H vs ds := by
  cases x <;> simp only [items] at e <;> try (cases e; done)
  · cases e
    cases r with
    | tup h1 r1 => exact ⟨false, _, rfl, rfl, fun {ph A H} r => by cases r with | tup h r => exact ⟨_, SqT.of h, r⟩⟩
  · cases e
    cases r with
    | lst h1 _ _ r1 => exact ⟨true, _, rfl, rfl, fun {ph A H} r => by cases r with | lst h _ _ r => exact ⟨_, SqL.of h, r⟩⟩
theorem iter_zip {K : PySem.W.Frag} {sa : Sa} {a b : Addr} {k1 k2 : Bool} {x y : D} {xs ys : List D} (hx : ∀ {ph : List Addr} {A : Addr → Prop} {H : Hp}, Rep sa ph A H (.ref a) x → ∃ vs, SqA k1 K H a vs ∧ Reps sa ph A H vs xs)
    (hy : ∀ {ph : List Addr} {A : Addr → Prop} {H : Hp}, Rep sa ph A H (.ref b) y → ∃ vs, SqA k2 K H b vs ∧ Reps sa ph A H vs ys) : IterR sa (ItzA K k1 k2 a b) [(.ref a, x), (.ref b, y)] ((xs.zip ys).map fun p => .tup [p.1, p.2]) := by
  intro ph A H h
  obtain ⟨vs, s1, r1⟩ := hx (h (.ref a, x) (by simp))
  obtain ⟨ws, s2, r2⟩ := hy (h (.ref b, y) (by simp))
  refine ⟨fun i d hd => ?_, vs, ws, s1, s2, ?_⟩
  · rw [List.getElem?_map] at hd
    obtain ⟨p, h1, rfl⟩ := Option.map_eq_some_iff.mp hd
    obtain ⟨g1, g2⟩ := List.getElem?_zip_eq_some.mp h1
    obtain ⟨v1, q1, q2⟩ := r1.get g1
    obtain ⟨v2, q3, q4⟩ := r2.get g2
    refine ⟨⟨vs, ws, v1, v2, s1, s2, q1, q3⟩, fun z H' yy => ?_⟩
    obtain ⟨T, z1, z2, rfl, nT, rfl, f1, f2⟩ := yy
    have e1 := f1 vs s1
    have e2 := f2 ws s2
    rw [q1] at e1
    rw [q3] at e2
    cases e1
    cases e2
    exact .inr ⟨T, _, _, rfl, nT, rfl, rfl, .cons q2 (.cons q4 .nil)⟩
  · rw [List.length_map, List.length_zip, r1.length, r2.length]
    omega
/-! ### the iterators' terms -/
theorem si_seq {tg : Expr} (ha : SE X cl a ia) : SI X cl tg a (.seq ia) := by
  refine ⟨(pi_seq ha.pe).imp fun σ H R q => ?_, ha.pl⟩
  obtain ⟨F, own, ph, ρ, μ, ds, μ', hK, I, ev, k⟩ := q
  obtain ⟨x, μ1, e1, ev⟩ := bind_ok (show (evE F.S (cl F.S) ia ρ >>= fun x => M.opt (items x)) μ = .ok ds μ' by simpa [evT] using ev)
  obtain ⟨e3, rfl⟩ := opt_ok ev
  refine ⟨F, own, ph, ρ, μ, x, _, hK, I, e1, fun ph' v H' I' g V0 => ?_⟩
  have hl : ∀ {L : List Nat}, (newL ia && ds.all D.sc) = false → L = lk ia → lostT (.seq ia) ds = L := fun {L} h1 h2 => by
    show (if (newL ia && ds.all D.sc) = true then [] else lk ia) = L
    rw [if_neg (by rw [h1]; exact Bool.false_ne_true), h2]
  cases x <;> simp only [items] at e3 <;> try (cases e3; done)
  · cases e3
    have rp := V0.rep
    cases rp with
    | tup h1 r1 =>
      refine ⟨_, rfl, .inr ⟨⟨_, SqT.of h1⟩, k ph' H' _ [(.ref _, .tup ds)] I' g (fun q hq => ?_) iter_tup⟩⟩
      simp only [List.mem_singleton] at hq
      subst hq
      by_cases hs : (newL ia && ds.all D.sc) = true
      · rw [Bool.and_eq_true] at hs
        exact .tup h1 (r1.scal hs.2)
      · rw [hl (by simpa using hs) rfl]
        exact .tup h1 r1
  · cases e3
    have rp := V0.rep
    cases rp with
    | lst h1 n1 n2 r1 =>
      refine ⟨_, rfl, .inl ⟨⟨_, SqL.of h1⟩, k ph' H' _ [(.ref _, .lst ds)] I' g (fun q hq => ?_) iter_lst⟩⟩
      simp only [List.mem_singleton] at hq
      subst hq
      by_cases hs : (newL ia && ds.all D.sc) = true
      · rw [Bool.and_eq_true] at hs
        obtain ⟨p0, vs0, e0, hp0, _, _, _⟩ := V0.new hs.1 ds rfl
        cases e0
        exact .lst h1 (I.notAv hp0) n2 (r1.scal hs.2)
      · rw [hl (by simpa using hs) rfl]
        exact .lst h1 n1 n2 r1
theorem si_rng1 {tg : Expr} (hg : Gl X "range") (hm : X.mg "range" = none) (ha : SE X cl a ia) : SI X cl tg (.Call (.Name "range" p) [a] [] pos) (.rng1 ia) := by
  have st := plain_star (X := X) (es := []) ha.pl
  refine ⟨(pi_range1 hg hm (pa_cons ha.pe pa_nil st) st).imp fun σ H R q => ?_, rfl⟩
  obtain ⟨F, own, ph, ρ, μ, ds, μ', hK, I, ev, k⟩ := q
  unfold evT at ev
  obtain ⟨x, μ1, e1, ev⟩ := bind_ok ev
  obtain ⟨e3, rfl⟩ := opt_ok ev
  obtain ⟨i, rfl⟩ : ∃ i, x = .int i := by
    cases x <;> first | exact ⟨_, rfl⟩ | cases e3
  simp only at e3
  split at e3
  · rename_i hs
    cases e3
    have hs := of_decide_eq_true hs
    refine one hK I e1 fun ph2 vx H2 I2 g2 rx => ?_
    cases rx
    refine ⟨i, rfl, hs.1, hs.2, k ph2 H2 _ [] I2 g2 (fun q hq => by cases hq) ?_⟩
    have := iter_rng (sa := F.sa) (lo := 0) (hi := i)
    rwa [Int.sub_zero] at this
  · cases e3
theorem si_rng2 {tg : Expr} (hg : Gl X "range") (hm : X.mg "range" = none) (ha : SE X cl a ia) (hb : SE X cl b ib) : SI X cl tg (.Call (.Name "range" p) [a, b] [] pos) (.rng2 ia ib) := by
  have sb := plain_star (X := X) (es := []) hb.pl
  have st := plain_star (X := X) (es := [b]) ha.pl
  refine ⟨(pi_range2 hg hm (pa_cons ha.pe (pa_cons hb.pe pa_nil sb) st) (by rw [st, sb]; rfl) (by rw [sb]; rfl)).imp fun σ H R q => ?_, rfl⟩
  obtain ⟨F, own, ph, ρ, μ, ds, μ', hK, I, ev, k⟩ := q
  unfold evT at ev
  obtain ⟨x, μ1, e1, ev⟩ := bind_ok ev
  obtain ⟨y, μ2, e2, ev⟩ := bind_ok ev
  obtain ⟨e3, rfl⟩ := opt_ok ev
  obtain ⟨i, j, rfl, rfl⟩ : ∃ i j, x = .int i ∧ y = .int j := by
    cases x <;> cases y <;> first | exact ⟨_, _, rfl, rfl⟩ | cases e3
  simp only at e3
  split at e3
  · rename_i hs
    cases e3
    rw [Bool.and_eq_true] at hs
    have h1 := of_decide_eq_true hs.1
    have h2 := of_decide_eq_true hs.2
    refine two hK I e1 e2 fun ph2 vx vy H2 I2 g2 rx ry => ?_
    cases rx
    cases ry
    exact ⟨i, j, rfl, ⟨h1.1, h1.2, h2.1, h2.2⟩, k ph2 H2 _ [] I2 g2 (fun q hq => by cases hq) iter_rng⟩
  · cases e3
theorem si_zip {elts : List Expr} {kk : Nat} {tpos : Pos} (hg : Gl X "zip") (hm : X.mg "zip" = none) (ha : SE X cl a ia) (hb : SE X cl b ib) : SI X cl (.Tuple elts kk tpos) (.Call (.Name "zip" p) [a, b] [] pos) (.zip ia ib) := by
  have sb := plain_star (X := X) (es := []) hb.pl
  have st := plain_star (X := X) (es := [b]) ha.pl
  refine ⟨(pi_zipB hg hm (pa_cons ha.pe (pa_cons hb.pe pa_nil sb) st) st (noStars (by simp [hb.pl]) pos)).imp fun σ H R q => ?_, rfl⟩
  obtain ⟨F, own, ph, ρ, μ, ds, μ', hK, I, ev, k⟩ := q
  unfold evT at ev
  obtain ⟨x, μ1, e1, ev⟩ := bind_ok ev
  obtain ⟨y, μ2, e2, ev⟩ := bind_ok ev
  obtain ⟨e3, rfl⟩ := opt_ok ev
  obtain ⟨xs, h1, e3⟩ := Option.bind_eq_some_iff.mp e3
  obtain ⟨ys, h2, rfl⟩ := Option.map_eq_some_iff.mp e3
  refine two hK I e1 e2 fun ph2 vx vy H2 I2 g2 rx ry => ?_
  obtain ⟨k1, a1, rfl, _, f1⟩ := seq_of (K := X.K) rx h1
  obtain ⟨k2, a2, rfl, _, f2⟩ := seq_of (K := X.K) ry h2
  obtain ⟨vs, s1, _⟩ := f1 rx
  obtain ⟨ws, s2, _⟩ := f2 ry
  refine ⟨k1, k2, a1, a2, vs, ws, rfl, s1, s2, k ph2 H2 _ [(.ref a1, x), (.ref a2, y)] I2 g2 (fun q hq => ?_) (iter_zip f1 f2)⟩
  simp only [List.mem_cons, List.not_mem_nil, or_false] at hq
  rcases hq with rfl | rfl
  · exact rx.weaken lkA
  · exact ry.weaken lkB
end
end Ev

set_option Elab.async false
set_option linter.all false
set_option maxRecDepth 100000
set_option maxHeartbeats 4000000
namespace Ev
open PySem L2 PyProof.Rows
section
variable {X : Cx} {cl : Calls} {a b c : Expr} {ia ib ic : IE} {pos p : Pos} {es : List Expr} {ies : IEs}
/-! ### targets -/
def gsOf : List Nat → TGs
  | [] => gNil
  | i :: is => gCons (gName i) (gsOf is)
def tgR (K : PySem.W.Frag) : Tg → TG
  | .one i => gName i
  | .many is => fun v σ H Q => gTup K is.length (gsOf is) v σ H Q ∨ gUnl K is.length (gsOf is) v σ H Q
def putsV (σ : L2.St) : List Nat → List V → L2.St
  | i :: is, v :: vs => putsV (σ.set i (some v)) is vs
  | _, _ => σ
theorem puts_ok {F : Fx} {own : Nat → Option Addr} {ph : List Addr} {μ : Mu} {H : Hp} : ∀ (is : List Nat) {ρ ρ1 : Env} {σ : L2.St} {vs : List V} {ds : List D} {Q : L2.St → Hp → Prop}, Stt F own ph ρ μ σ H → Reps F.sa ph (Av F own []) H vs ds → puts ρ is ds = some ρ1 →
    (Stt F own ph ρ1 μ (putsV σ is vs) H → Q (putsV σ is vs) H) → gsOf is vs σ H Q
  | [], ρ, ρ1, σ, vs, ds, Q, I, r, e, k => by
    cases ds with
    | nil => cases r; cases e; exact ⟨rfl, k I⟩
    | cons _ _ => cases e
  | i :: is, ρ, ρ1, σ, vs, ds, Q, I, r, e, k => by
    cases ds with
    | nil => cases e
    | cons d ds =>
      cases r with
      | cons r1 r2 => exact ⟨_, _, rfl, puts_ok is (I.put r1) r2 e k⟩
/-- the slots after a target's store -/
def tgV (σ : L2.St) (H : Hp) : Tg → V → L2.St
  | .one i, v => σ.set i (some v)
  | .many is, .ref a => (match H a with | some (.tup vs) => putsV σ is vs | some (.lst vs) => putsV σ is vs | _ => σ)
  | .many _, _ => σ
theorem puts_len {ρ ρ1 : Env} : ∀ {is : List Nat} {ds : List D}, puts ρ is ds = some ρ1 → is.length = ds.length := by
  intro is
  induction is generalizing ρ with
  | nil => intro ds e; cases ds with | nil => rfl | cons _ _ => cases e
  | cons i is ih => intro ds e; cases ds with | nil => cases e | cons d ds => exact congrArg Nat.succ (ih e)
theorem tg_ok {F : Fx} {own : Nat → Option Addr} {ph : List Addr} {μ : Mu} {H : Hp} {K : PySem.W.Frag} {tg : Tg} {ρ ρ1 : Env} {σ : L2.St} {v : V} {d : D} {Q : L2.St → Hp → Prop} (I : Stt F own ph ρ μ σ H) (r : Rep F.sa ph (Av F own []) H v d) (e : tgPut ρ tg d = some ρ1)
    (k : Stt F own ph ρ1 μ (tgV σ H tg v) H → Q (tgV σ H tg v) H) : tgR K tg v σ H Q := by
  cases tg with
  | one i =>
    cases e
    exact k (I.put r)
  | many is =>
    cases r with
    | @tup a vs ds h1 r1 =>
      have hk : tgV σ H (.many is) (.ref a) = putsV σ is vs := by unfold tgV; simp only [h1]
      rw [hk] at k
      exact .inl ⟨_, _, rfl, SqT.of h1, by rw [r1.length, puts_len e], puts_ok is I r1 e k⟩
    | @lst a vs ds h1 n1 n2 r1 =>
      have hk : tgV σ H (.many is) (.ref a) = putsV σ is vs := by unfold tgV; simp only [h1]
      rw [hk] at k
      exact .inr ⟨_, _, rfl, SqL.of h1, by rw [r1.length, puts_len e], puts_ok is I r1 e k⟩
    | non => cases e
    | bl _ => cases e
    | int _ => cases e
    | str _ => cases e
    | scr => cases e
    | mref _ => cases e
/-- a target and its term -/
inductive STg (X : Cx) : Expr → Tg → Prop
  | one {i : Nat} {x : Str} {pos : Pos} : X.N.Nodup → X.N[i]? = some x → Loc X.env.scope x → (X.fn x = true ∨ X.env.scope.names.lookup x = some .local) → STg X (.Name x pos) (.one i)
  | many {es : List Expr} {is : List Nat} {k : Nat} {pos : Pos} : X.calm = true → PGs X es (gsOf is) → es.length = is.length → es.all plainX = true → STg X (.Tuple es k pos) (.many is)
theorem assign_len {X : Cx} : ∀ {es : List Expr}, es.all plainX = true → (assignEach es X.env).length = es.length ∧ (assignEach es X.env).findIdx? (·.1) = none
  | [], _ => ⟨rfl, rfl⟩
  | e :: es, h => by
    rw [List.all_cons, Bool.and_eq_true] at h
    obtain ⟨h1, h2⟩ := assign_len (X := X) h.2
    have e1 : assignEach (e :: es) X.env = (false, assign e X.env) :: assignEach es X.env := by
      have := h.1
      cases e <;> first | rfl | (cases this; done)
    rw [e1]
    refine ⟨congrArg Nat.succ h1, ?_⟩
    rw [List.findIdx?_cons]
    simp [h2]
theorem STg.pg {tg : Expr} {t : Tg} (h : STg X tg t) : PG X tg (tgR X.K t) := by
  cases h with
  | one h1 h2 h3 h4 => exact pg_name h1 h2 h3 h4
  | @many es is k pos h1 h2 h3 h4 =>
    obtain ⟨e1, e2⟩ := assign_len (X := X) h4
    have a1 := pg_tup (pos := pos) (k := k) h1 h2 (by rw [e1, h3]) e2
    have a2 := pg_unl (pos := pos) (k := k) h1 h2 (by rw [e1, h3]) e2
    exact ⟨fun pins s σ H v u Q I r h => h.elim (a1.run pins s σ H v u Q I r) (a2.run pins s σ H v u Q I r)⟩
/-- names as targets, one after another -/
theorem pgs_names (hN : X.N.Nodup) : ∀ {es : List Expr} {is : List Nat}, (∀ j : Nat, ∀ e, es[j]? = some e → ∃ i x pos, is[j]? = some i ∧ e = .Name x pos ∧ X.N[i]? = some x ∧ Loc X.env.scope x ∧ (X.fn x = true ∨ X.env.scope.names.lookup x = some .local)) → es.length = is.length → PGs X es (gsOf is)
  | [], [], _, _ => pgs_nil
  | [], _ :: _, _, e => by cases e
  | _ :: _, [], _, e => by cases e
  | e :: es, i :: is, h, hl => by
    obtain ⟨i', x, pos, h1, rfl, h2, h3, h4⟩ := h 0 e rfl
    cases h1
    exact pgs_cons (pg_name hN h2 h3 h4) (pgs_names hN (fun j e he => h (j + 1) e he) (by simpa using hl))
theorem wipe_set {σ : L2.St} {x : Option V} {i : Nat} : ∀ {vs : List Nat}, i ∈ vs → L2.wipe (σ.set i x) vs = L2.wipe σ vs
  | [], h => by cases h
  | v :: vs, h => by
    unfold L2.wipe
    by_cases hv : i ∈ vs
    · rw [wipe_set hv]
    · have e : i = v := by rcases List.mem_cons.mp h with e | e; exact e; exact absurd e hv
      subst e
      have : L2.wipe (σ.set i x) vs = (L2.wipe σ vs).set i x := by
        clear h
        induction vs with
        | nil => rfl
        | cons w ws ih =>
          unfold L2.wipe
          rw [ih (fun z => hv (List.mem_cons_of_mem _ z)), List.set_comm _ _ (fun z => hv (by rw [z]; simp))]
      rw [this, List.set_set]
theorem wipe_idem {σ : L2.St} : ∀ {vs ws : List Nat}, (∀ v ∈ ws, v ∈ vs) → L2.wipe (L2.wipe σ ws) vs = L2.wipe σ vs
  | vs, [], _ => rfl
  | vs, w :: ws, h => by
    show L2.wipe ((L2.wipe σ ws).set w none) vs = L2.wipe σ vs
    rw [wipe_set (h w (by simp)), wipe_idem fun v hv => h v (List.mem_cons_of_mem _ hv)]
theorem wipe_puts {vs : List Nat} : ∀ {is : List Nat} {xs : List V} {σ : L2.St}, (∀ i ∈ is, i ∈ vs) → L2.wipe (putsV σ is xs) vs = L2.wipe σ vs
  | [], xs, σ, _ => by cases xs <;> rfl
  | i :: is, [], σ, _ => rfl
  | i :: is, x :: xs, σ, h => by
    show L2.wipe (putsV (σ.set i (some x)) is xs) vs = _
    rw [wipe_puts fun j hj => h j (List.mem_cons_of_mem _ hj), wipe_set (h i (by simp))]
def tgIn (vs : List Nat) : Tg → Bool
  | .one i => decide (i ∈ vs)
  | .many is => is.all fun i => decide (i ∈ vs)
theorem wipe_tg {vs : List Nat} {tg : Tg} {σ : L2.St} {H : Hp} {v : V} (h : tgIn vs tg = true) : L2.wipe (tgV σ H tg v) vs = L2.wipe σ vs := by
  cases tg with
  | one i => exact wipe_set (of_decide_eq_true h)
  | many is =>
    have hi : ∀ i ∈ is, i ∈ vs := fun i hi => of_decide_eq_true (List.all_eq_true.mp h i hi)
    cases v with
    | ref a =>
      show L2.wipe (match H a with | some (.tup vs) => putsV σ is vs | some (.lst vs) => putsV σ is vs | _ => σ) vs = _
      split
      · exact wipe_puts hi
      · exact wipe_puts hi
      · rfl
    | _ => rfl

/-! ### comprehensions -/
/-- the state within: the new list at D is not reached, what is walked is held -/
theorem Stt.inner {F : Fx} {own : Nat → Option Addr} {ph : List Addr} {ρ : Env} {μ : Mu} {σ : L2.St} {H : Hp} {D : Addr} {o : HO} {held : List (V × Ev.D)} (I : Stt F own ph ρ μ σ H) (hD : H D = none) (hh : ∀ p ∈ held, Rep F.sa ph (Av F own []) H p.1 p.2) :
    Stt { F with B := fun a => F.B a ∨ a = D, held := held ++ F.held } own ph ρ μ σ (upd H D o) := by
  have J := I.laid (o := o) hD
  have g : Grow ph H ph (upd H D o) := Grow.new hD
  have nav : ∀ a, Av { F with B := fun a => F.B a ∨ a = D, held := held ++ F.held } own [] a → Av F own [] a ∨ H a = none := fun a z => by
    rcases z with (z | z) | z
    · exact .inl (.inl z)
    · exact .inr (by rw [z]; exact hD)
    · exact .inl (.inr z)
  have pown : ∀ j, own j ≠ some D := fun j e => by
    obtain ⟨ws, e'⟩ := I.oreal j D e
    rw [hD] at e'; cases e'
  refine ⟨fun i b d h => ?_, J.lenE, J.mu, J.fr, J.old, J.phx, J.onew, J.ophi, J.oinj, J.oreal, fun a h => ?_, fun a h => ?_, fun i q e h => ?_, J.scr, fun q hq => ?_⟩
  · obtain ⟨v, h1, h2⟩ := I.slots i b d h
    refine ⟨v, h1, ?_⟩
    cases b with
    | false => exact g.repN I.mu nav h2
    | true =>
      obtain ⟨q, vs, ds, q1, q2, q3, q4, q5⟩ := h2
      exact ⟨q, vs, ds, q1, q2, q3, g.keep _ _ q4 (I.ophi i q q3), g.repsN I.mu nav q5⟩
  · rcases h with h | h
    · exact J.bdom a h
    · rw [h, upd_same]; exact fun z => by cases z
  · rcases h with h | h
    · exact J.bphi a h
    · rw [h]; exact I.notPhi hD
  · rcases h with h | h
    · exact J.onb i q e h
    · rw [h] at e; exact pown i e
  · rcases List.mem_append.mp hq with hq | hq
    · exact g.repN I.mu nav (hh q hq)
    · exact g.repN I.mu nav (I.held q hq)
/-- a list that nothing reaches is changed -/
theorem Stt.updB {F : Fx} {own : Nat → Option Addr} {ph : List Addr} {ρ : Env} {μ : Mu} {σ : L2.St} {H : Hp} {D : Addr} {xs ys : List V} (I : Stt F own ph ρ μ σ H) (hB : F.B D) (hD : H D = some (.lst xs)) (h0 : F.H0 D = none) : Stt F own ph ρ μ σ (upd H D (.lst ys)) := by
  have kT : ∀ a vs, H a = some (.tup vs) → upd H D (.lst ys) a = some (.tup vs) := fun a vs h => by
    rw [upd_ne (fun z => by subst z; rw [h] at hD; cases hD)]; exact h
  have neA : ∀ {L : List Nat} {a}, ¬ Av F own L a → a ≠ D := fun {L a} n z => n (.inl (by rw [z]; exact hB))
  have rep : ∀ {L : List Nat} {v : V} {d : Ev.D}, Rep F.sa ph (Av F own L) H v d → Rep F.sa ph (Av F own L) (upd H D (.lst ys)) v d := fun {L v d} r =>
    Rep.mono kT (fun a vs h n1 n2 => ⟨by rw [upd_ne (neA n1)]; exact h, n1, n2⟩) (fun _ _ z => z) d v r
  have reps : ∀ {L : List Nat} {v : List V} {d : List Ev.D}, Reps F.sa ph (Av F own L) H v d → Reps F.sa ph (Av F own L) (upd H D (.lst ys)) v d := fun {L v d} r =>
    Reps.mono kT (fun a vs h n1 n2 => ⟨by rw [upd_ne (neA n1)]; exact h, n1, n2⟩) (fun _ _ z => z) d v r
  have repT : ∀ {v : List V} {d : List Ev.D}, Reps F.sa ph (fun _ => True) H v d → Reps F.sa ph (fun _ => True) (upd H D (.lst ys)) v d := fun {v d} r =>
    Reps.mono kT (fun a vs h n1 n2 => absurd trivial n1) (fun _ _ z => z) d v r
  have some' : ∀ {a}, H a ≠ none → upd H D (.lst ys) a ≠ none := fun {a} h z => by
    by_cases q : a = D
    · subst q; rw [upd_same] at z; cases z
    · rw [upd_ne q] at z; exact h z
  refine ⟨fun i b d h => ?_, I.lenE, ⟨I.mu.len, I.mu.nd, fun n a mo h1 h2 => ?_⟩, fun a o h n => ?_, fun a o h => some' (I.old a o h), I.phx, I.onew, I.ophi, I.oinj, fun i q h => ?_, fun a h => some' (I.bdom a h), I.bphi, I.onb, ?_, fun q hq => rep (I.held q hq)⟩
  · obtain ⟨v, h1, h2⟩ := I.slots i b d h
    refine ⟨v, h1, ?_⟩
    cases b with
    | false => exact rep h2
    | true =>
      obtain ⟨q, vs, ds, q1, q2, q3, q4, q5⟩ := h2
      exact ⟨q, vs, ds, q1, q2, q3, by rw [upd_ne (fun z => I.onb i q q3 (by rw [z]; exact hB))]; exact q4, reps q5⟩
  · have r := I.mu.mo n a mo h1 h2
    exact r.mono (fun o q1 => by rw [upd_ne (fun z => I.bphi D hB (by rw [← z]; exact List.mem_of_getElem? h1))]; exact q1) repT
  · rw [upd_ne (fun z => by subst z; rw [h0] at h; cases h)]
    exact I.fr a o h n
  · obtain ⟨vs, q1⟩ := I.oreal i q h
    exact ⟨vs, by rw [upd_ne (fun z => I.onb i q h (by rw [z]; exact hB))]; exact q1⟩
  · refine ⟨I.scr.1, ?_⟩
    rcases I.scr.2 with ⟨ob, q⟩ | q
    · exact .inl ⟨ob, by rw [upd_ne (fun z => by rw [z, hD] at q; cases q)]; exact q⟩
    · exact .inr q
theorem Grow.updN {ph ph' : List Addr} {H H' : Hp} {D : Addr} {o : HO} (g : Grow ph H ph' H') (hD : H D = Option.none) : Grow ph H ph' (upd H' D o) :=
  ⟨fun a u h n => by rw [upd_ne (ne_of_none h hD)]; exact g.keep a u h n, g.ext, fun a u h => by rw [upd_ne (ne_of_none h hD)]; exact g.old a u h⟩
/-- the test of a clause -/
def tCd (K : PySem.W.Frag) (cl : Calls) : IO → TT
  | .none => tYes
  | .some e => tT K cl e
theorem compM_cons {f : D → M (Option D)} {d : D} {ds rs : List D} {μ μ' : Mu} (h : compM f (d :: ds) μ = .ok rs μ') : ∃ r μ1 t, f d μ = .ok r μ1 ∧ compM f ds μ1 = .ok t μ' ∧ rs = (match r with | some d => d :: t | none => t) := by
  obtain ⟨r, μ1, e1, h⟩ := bind_ok (show (f d >>= fun r => compM f ds >>= fun rs => pure (match r with | some d => d :: rs | none => rs)) μ = .ok rs μ' from h)
  obtain ⟨t, μ2, e2, h⟩ := bind_ok h
  obtain ⟨h1, h2⟩ := pure_ok h
  subst h2
  exact ⟨r, μ1, t, e1, e2, h1.symm⟩
theorem lostT_sub {it : IT} {ds : List D} : ∀ i ∈ lostT it ds, i ∈ lkT it := by
  intro i h
  cases it with
  | seq a =>
    have h : i ∈ (if (newL a && ds.all D.sc) = true then [] else lk a) := h
    by_cases q : (newL a && ds.all D.sc) = true
    · rw [if_pos q] at h; cases h
    · rw [if_neg q] at h; exact h
  | rng1 a => exact h
  | rng2 a b => exact h
  | zip a b => exact h
  | enum a => exact h
theorem Reps.updB {F : Fx} {own : Nat → Option Addr} {ph : List Addr} {H : Hp} {D : Addr} {xs ys : List V} {L : List Nat} {vs : List V} {ds : List Ev.D} (r : Reps F.sa ph (Av F own L) H vs ds) (hB : F.B D) (hD : H D = some (.lst xs)) : Reps F.sa ph (Av F own L) (upd H D (.lst ys)) vs ds :=
  Reps.mono (fun a vs h => by rw [upd_ne (fun z => by subst z; rw [h] at hD; cases hD)]; exact h) (fun a vs h n1 n2 => ⟨by rw [upd_ne (fun z => n1 (.inl (by rw [z]; exact hB)))]; exact h, n1, n2⟩) (fun _ _ z => z) ds vs r
theorem cond_ok {F : Fx} {own : Nat → Option Addr} {ph : List Addr} {ρ : Env} {μ μ' : Mu} {σ : L2.St} {H : Hp} {io : IO} {kb : Bool} {Q : Bool → Hp → Prop} {K : PySem.W.Frag} (hK : F.K = K) (S : Stt F own ph ρ μ σ H) (e : evC F.S (cl F.S) io ρ μ = .ok kb μ')
    (k : ∀ ph' H', Stt F own ph' ρ μ' σ H' → Grow ph H ph' H' → Q kb H') : tCd K cl io σ H Q := by
  cases io with
  | none =>
    obtain ⟨rfl, rfl⟩ := pure_ok (show (pure true : M Bool) μ = .ok kb μ' by simpa [evC] using e)
    exact k ph H S (Grow.refl _ _)
  | some ie =>
    obtain ⟨x, μ1, e1, e⟩ := bind_ok (show (evE F.S (cl F.S) ie ρ >>= fun x => M.opt (truth x)) μ = .ok kb μ' by simpa [evC] using e)
    obtain ⟨e2, rfl⟩ := opt_ok e
    rw [truth_bl e2] at e1
    exact ⟨F, own, ph, ρ, μ, kb, _, hK, S, e1, k⟩
/-- the yielded item, whatever it is -/
theorem yld_ok {F : Fx} {own : Nat → Option Addr} {ph : List Addr} {ρ : Env} {μ : Mu} {σ : L2.St} {H H' : Hp} {x : V} {d : D} (S : Stt F own ph ρ μ σ H)
    (h : (H' = H ∧ Rep F.sa ph (Av F own []) H x d) ∨ ∃ T vs es, x = .ref T ∧ H T = none ∧ H' = upd H T (.tup vs) ∧ d = .tup es ∧ Reps F.sa ph (Av F own []) H vs es) :
    Stt F own ph ρ μ σ H' ∧ Grow ph H ph H' ∧ Rep F.sa ph (Av F own []) H' x d := by
  rcases h with ⟨rfl, r⟩ | ⟨T, vs, es, rfl, nT, rfl, rfl, r⟩
  · exact ⟨S, Grow.refl _ _, r⟩
  · exact ⟨S.laid nT, Grow.new nT, .tup upd_same ((Grow.new nT).reps S.mu r)⟩
theorem comp_main {K : PySem.W.Frag} {vs : List Nat} {t : Tg} {it : IT} {cond : IO} {ielt : IE} (hin : tgIn vs t = true) {σ : L2.St} {H : Hp} {Q : VK} (q : tE K cl (.comp vs t it cond ielt) σ H Q) :
    tLc (tI K cl it) (tgR K t) (tCd K cl cond) (tE K cl ielt) vs σ H Q := by
  obtain ⟨F, own, ph, ρ, μ, d, μ', hK, I, ev, k⟩ := q
  unfold evE at ev
  obtain ⟨ds, μ1, e1, ev⟩ := bind_ok ev
  obtain ⟨rs, μ2, e2, ev⟩ := bind_ok ev
  split at ev
  · rename_i hz
    obtain ⟨rfl, rfl⟩ := pure_ok ev
    refine ⟨F, own, ph, ρ, μ, ds, μ1, hK, I, e1, fun ph1 H1 J held I1 g1 hh hit => ?_⟩
    intro D hD
    have J0 : Stt F (owns own (lkT it)) ph1 (thaw (wipeE ρ vs) (lkT it)) μ1 (L2.wipe σ vs) H1 := (I1.wipe vs).thaw (lkT it)
    have hh0 : ∀ p ∈ held, Rep F.sa ph1 (Av F (owns own (lkT it)) []) H1 p.1 p.2 := fun p hp => (hh p hp).weaken fun a z => av_sub lostT_sub (av_owns.mp z)
    have J1 := J0.inner (o := .lst []) hD hh0
    generalize hF : ({ F with B := fun a => F.B a ∨ a = D, held := held ++ F.held } : Fx) = F' at J1
    have eS : F'.S = F.S := by rw [← hF]
    have eK : F'.K = K := by rw [← hF]; exact hK
    have ea : F'.sa = F.sa := by rw [← hF]
    have eB : F'.B D := by rw [← hF]; exact .inr rfl
    have e0 : F'.H0 D = none := by
      rw [← hF]
      cases q : F.H0 D with
      | none => rfl
      | some o => exact absurd hD (I1.old D o q)
    have eheld : ∀ p ∈ held, p ∈ F'.held := fun p hp => by rw [← hF]; exact List.mem_append_left _ hp
    have av' : ∀ a, Av F own (lkT it ++ lk ielt) a ∨ a = D → Av F' (owns own (lkT it)) (lk ielt) a := fun a z => by
      rw [← hF]
      rcases z with (z | ⟨j, z1, z2⟩) | z
      · exact .inl (.inl z)
      · refine .inr ⟨j, ?_, fun q => z2 (List.mem_append_right _ q)⟩
        unfold owns
        rw [if_neg fun q => z2 (List.mem_append_left _ q)]
        exact z1
      · exact .inl (.inr z)
    rw [← ea] at hit
    refine ⟨fun i m H' => m = ds.length - i ∧ i ≤ ds.length ∧ ∃ ph' μi accV acc rest, Stt F' (owns own (lkT it)) ph' (thaw (wipeE ρ vs) (lkT it)) μi (L2.wipe σ vs) H' ∧ Grow ph1 H1 ph' H' ∧ H' D = some (.lst accV) ∧
        Reps F'.sa ph' (Av F' (owns own (lkT it)) (lk ielt)) H' accV acc ∧ compM (fun d => M.opt (tgPut (thaw (wipeE ρ vs) (lkT it)) t d) >>= fun ρ1 =>
      evC F.S (cl F.S) cond ρ1 >>= fun k => if k = true then evE F.S (cl F.S) ielt ρ1 >>= fun x => pure (some x) else pure none) (ds.drop i) μi = .ok rest μ2 ∧ rs = acc ++ rest,
      ⟨ds.length, rfl, Nat.zero_le _, ph1, μ1, [], [], rs, J1, (Grow.new hD), upd_same, .nil, e2, rfl⟩, ?_⟩
    rintro i m H' ⟨rfl, hi, ph', μi, accV, acc, rest, S, g, hDl, ra, ec, er⟩
    obtain ⟨fgo, fstop⟩ := hit ph' (Av F' (owns own (lkT it)) []) H' fun p hp => S.held p (eheld p hp)
    by_cases hlt : i < ds.length
    · have hd : ds[i]? = some ds[i] := List.getElem?_eq_getElem hlt
      rw [List.drop_eq_getElem_cons hlt] at ec
      obtain ⟨r, μ3, tl, f1, f2, f3⟩ := compM_cons ec
      obtain ⟨ρ1, μ4, f4, f1⟩ := bind_ok f1
      obtain ⟨f4', f4''⟩ := opt_ok f4
      subst f4''
      obtain ⟨kb, μ5, f5, f1⟩ := bind_ok f1
      refine .inr ⟨(fgo i _ hd).1, _, fun H'' p' => ⟨ds.length - (i + 1), by omega, rfl, hlt, p'⟩, fun x H2 y => ?_⟩
      obtain ⟨S2, g2, rx⟩ := yld_ok S ((fgo i _ hd).2 x H2 y)
      refine tg_ok S2 rx f4' fun S3 => ⟨by rw [wipe_tg hin, wipe_idem fun v hv => hv], ?_⟩
      rw [← eS] at f5 f1
      refine cond_ok eK S3 f5 fun ph3 H3 S4 g3 => ?_
      have hD3 : ∀ {ph3 : List Addr} {H3 : Hp}, Grow ph' H' ph3 H3 → H3 D = some (.lst accV) := fun g => g.keep D _ hDl (S.bphi D eB)
      cases kb with
      | false =>
        obtain ⟨h1, h2⟩ := pure_ok f1
        subst h2
        subst h1
        rw [if_neg Bool.false_ne_true]
        have gg := g2.trans g3
        exact ⟨ph3, _, accV, acc, tl, S.grow gg S4.mu, g.trans gg, hD3 gg, gg.reps S.mu ra, f2, by rw [er, f3]⟩
      | true =>
        obtain ⟨xd, μ6, f6, f1⟩ := bind_ok f1
        obtain ⟨h1, h2⟩ := pure_ok f1
        subst h2
        subst h1
        rw [if_pos rfl]
        refine ⟨F', owns own (lkT it), ph3, ρ1, _, xd, _, eK, S4, f6, fun ph5 v H5 S5 g5 V5 => ?_⟩
        have gg := (g2.trans g3).trans g5
        have hz' : acc.length < 1000000 := by
          rw [er, f3, List.length_append] at hz
          simp only [List.length_cons] at hz
          omega
        refine ⟨accV, hD3 gg, by rw [ra.length]; exact Nat.lt_of_lt_of_le hz' million, ph5, _, accV ++ [v], acc ++ [xd], tl, (S.grow gg S5.mu).updB eB (hD3 gg) e0, (g.trans gg).updN hD, upd_same, ?_, f2, by rw [er, f3, List.append_assoc]; rfl⟩
        exact Reps.updB ((gg.reps S.mu ra).append (.cons V5.rep .nil)) eB (hD3 gg)
    · have e : i = ds.length := by omega
      subst e
      rw [List.drop_length] at ec
      obtain ⟨h1, h2⟩ := pure_ok (show (pure [] : M (List Ev.D)) μi = .ok rest μ2 from ec)
      subst h1 h2
      rw [List.append_nil] at er
      subst er
      refine .inl ⟨fstop, ?_⟩
      have gx := g1.trans g
      rw [ea] at ra
      refine k ph' _ H' (I1.grow g (ea ▸ S.mu)) gx ⟨.lst hDl (I1.notAv hD) (S.bphi D eB) (ra.weaken fun a z => av' a (.inl z)), fun _ es e => ?_⟩
      cases e
      exact ⟨D, accV, rfl, g1.none hD, hDl, S.bphi D eB, ra.weaken fun a z => av' a z⟩
  · cases ev
/-- name = [..]: the model stores within the comprehension where the name is a plain local -/
def swB (scope : Scope) (pos : Pos) (y : Str) (py : Pos) (env : PySem.Env) : Bool := env.blockKind == .function && env.kindOf y == some .local && py.line == pos.line && !(scope.names.any fun (n, k) => n == y && (k == .local || k == .cell))
theorem sw_eq {elt : Expr} {gs : List Comprehension} {scope : Scope} {pos py : Pos} {y : Str} {l : Nat} {env : PySem.Env} : swapsWith (.ListComp elt gs scope pos) (some (.Name y py)) l env = pure (swB scope pos y py env) := rfl
theorem asg_by {elt : Expr} {gs : List Comprehension} {scope : Scope} {te : TE} (h : PE X (.ListComp elt gs scope pos) te)
    (h2 : ∀ (i : Nat) (y : Str) (py spos : Pos), X.N[i]? = some y → X.env.scope.names.lookup y = some .local → swapsWith (.ListComp elt gs scope pos) (some (.Name y py)) spos.line X.env = pure true → PS X (.Assign [.Name y py] (.ListComp elt gs scope pos) spos) (tAsg te (gName i))) :
    ∀ (i : Nat) (y : Str) (py spos : Pos), X.N.Nodup → X.N[i]? = some y → Loc X.env.scope y → (X.fn y = true ∨ X.env.scope.names.lookup y = some .local) → PS X (.Assign [.Name y py] (.ListComp elt gs scope pos) spos) (tAsg te (gName i)) := by
  intro i y py spos hN hi hl hf
  by_cases hs : swB scope pos y py X.env = true
  · have hk : X.env.kindOf y = some .local := by
      unfold swB at hs
      simp only [Bool.and_eq_true] at hs
      exact eq_of_beq hs.1.1.2
    exact h2 i y py spos hi hk (by rw [sw_eq, hs])
  · have hs' : swB scope pos y py X.env = false := by simpa using hs
    exact ps_set hN hi hl h (by rw [sw_eq, hs']) hf
theorem s_comp {elt tg iter : Expr} {ifs : List Expr} {scope : Scope} {ownN : List (Str × Nat)} {vs : List Nat} {t : Tg} {it : IT} {cond : IO} {ielt : IE} (hc : X.calm = true) (hN : X.N.Nodup) (hi : SI X cl tg iter it) (ok : BlkOk X.N X.env.scope scope ownN) (hv : ownN.map (·.2) = vs) (hin : tgIn vs t = true)
    (hg : ∀ (s : Shared) (H : Hp) (C : Addr) (c : List (Str × Addr)) (fp : List Addr), PG (X.blk s H scope (compEnvC scope c C X.env) fp) tg (tgR X.K t)) (ht : ∀ (s : Shared) (H : Hp) (C : Addr) (c : List (Str × Addr)) (fp : List Addr), PTs (X.blk s H scope (compEnvC scope c C X.env) fp) ifs (tCd X.K cl cond))
    (he : ∀ (s : Shared) (H : Hp) (C : Addr) (c : List (Str × Addr)) (fp : List Addr), PE (X.blk s H scope (compEnvC scope c C X.env) fp) elt (tE X.K cl ielt)) :
    SE X cl (.ListComp elt [⟨tg, iter, ifs, 0⟩] scope pos) (.comp vs t it cond ielt) := by
  subst hv
  have h : PE X (.ListComp elt [⟨tg, iter, ifs, 0⟩] scope pos) (tE X.K cl (.comp (ownN.map (·.2)) t it cond ielt)) := (pe_lc hc hN hi.pi ok hg ht he (plain_fold hi.pl)).imp fun σ H Q q => comp_main hin q
  refine ⟨h, fun _ => pt_of h, rfl, fun _ => asg_by h fun i y py spos hy hl hs => ?_⟩
  exact (ps_setLc hc hN hy hl hs hi.pi ok hg ht he (plain_fold hi.pl)).imp fun D σ H q => comp_main hin q
/-! ### two clauses -/
theorem compM2_cons {f : D → M (List D)} {d : D} {ds rs : List D} {μ μ' : Mu} (h : compM2 f (d :: ds) μ = .ok rs μ') : ∃ r μ1 t, f d μ = .ok r μ1 ∧ compM2 f ds μ1 = .ok t μ' ∧ rs = r ++ t := by
  obtain ⟨r, μ1, e1, h⟩ := bind_ok (show (f d >>= fun r => compM2 f ds >>= fun rs => pure (r ++ rs)) μ = .ok rs μ' from h)
  obtain ⟨t, μ2, e2, h⟩ := bind_ok h
  obtain ⟨h1, h2⟩ := pure_ok h
  subst h2
  exact ⟨r, μ1, t, e1, e2, h1.symm⟩
theorem comp2_main {K : PySem.W.Frag} {vs vs1 : List Nat} {t t1 : Tg} {it it1 : IT} {ielt : IE} (hin : tgIn vs t = true) (hin1 : tgIn vs1 t1 = true) {σ : L2.St} {H : Hp} {Q : VK} (q : tE K cl (.comp2 vs vs1 t it t1 it1 ielt) σ H Q) :
    tLc2 (tI K cl it) (tgR K t) tYes (tI K cl it1) (tgR K t1) tYes (tE K cl ielt) vs vs1 σ H Q := by
  obtain ⟨F, own, ph, ρ, μ, d, μ', hK, I, ev, k⟩ := q
  unfold evE at ev
  obtain ⟨ds, μ1, e1, ev⟩ := bind_ok ev
  obtain ⟨rs, μ2, e2, ev⟩ := bind_ok ev
  split at ev
  · rename_i hz
    obtain ⟨rfl, rfl⟩ := pure_ok ev
    refine ⟨F, own, ph, ρ, μ, ds, μ1, hK, I, e1, fun ph1 H1 J held I1 g1 hh hit => ?_⟩
    intro D hD
    have J0 : Stt F (owns own (lkT it)) ph1 (thaw (wipeE ρ vs) (lkT it)) μ1 (L2.wipe σ vs) H1 := (I1.wipe vs).thaw (lkT it)
    have hh0 : ∀ p ∈ held, Rep F.sa ph1 (Av F (owns own (lkT it)) []) H1 p.1 p.2 := fun p hp => (hh p hp).weaken fun a z => av_sub lostT_sub (av_owns.mp z)
    have J1 := J0.inner (o := .lst []) hD hh0
    generalize hF : ({ F with B := fun a => F.B a ∨ a = D, held := held ++ F.held } : Fx) = F' at J1
    have eS : F'.S = F.S := by rw [← hF]
    have eK : F'.K = K := by rw [← hF]; exact hK
    have ea : F'.sa = F.sa := by rw [← hF]
    have eB : F'.B D := by rw [← hF]; exact .inr rfl
    have e0 : F'.H0 D = none := by
      rw [← hF]
      cases q : F.H0 D with
      | none => rfl
      | some o => exact absurd hD (I1.old D o q)
    have eheld : ∀ p ∈ held, p ∈ F'.held := fun p hp => by rw [← hF]; exact List.mem_append_left _ hp
    have av' : ∀ a, Av F own (lkT it ++ (lkT it1 ++ lk ielt)) a ∨ a = D → Av F' (owns own (lkT it)) (lkT it1 ++ lk ielt) a := fun a z => by
      rw [← hF]
      rcases z with (z | ⟨j, z1, z2⟩) | z
      · exact .inl (.inl z)
      · refine .inr ⟨j, ?_, fun q => z2 (List.mem_append_right _ q)⟩
        unfold owns
        rw [if_neg fun q => z2 (List.mem_append_left _ q)]
        exact z1
      · exact .inl (.inr z)
    rw [← ea] at hit
    refine ⟨fun i m H' => m = ds.length - i ∧ i ≤ ds.length ∧ ∃ ph' μi accV acc rest, Stt F' (owns own (lkT it)) ph' (thaw (wipeE ρ vs) (lkT it)) μi (L2.wipe σ vs) H' ∧ Grow ph1 H1 ph' H' ∧ H' D = some (.lst accV) ∧
        Reps F'.sa ph' (Av F' (owns own (lkT it)) (lkT it1 ++ lk ielt)) H' accV acc ∧ compM2 (fun d => M.opt (tgPut (thaw (wipeE ρ vs) (lkT it)) t d) >>= fun ρ1 =>
      evT F.S (cl F.S) it1 ρ1 >>= fun es => compM (fun e => M.opt (tgPut (thaw (wipeE ρ1 vs1) (lkT it1)) t1 e) >>= fun ρ2 => evE F.S (cl F.S) ielt ρ2 >>= fun x => pure (some x)) es) (ds.drop i) μi = .ok rest μ2 ∧ rs = acc ++ rest,
      ⟨ds.length, rfl, Nat.zero_le _, ph1, μ1, [], [], rs, J1, (Grow.new hD), upd_same, .nil, e2, rfl⟩, ?_⟩
    rintro i m H' ⟨rfl, hi, ph', μi, accV, acc, rest, S, g, hDl, ra, ec, er⟩
    obtain ⟨fgo, fstop⟩ := hit ph' (Av F' (owns own (lkT it)) []) H' fun p hp => S.held p (eheld p hp)
    by_cases hlt : i < ds.length
    · have hd : ds[i]? = some ds[i] := List.getElem?_eq_getElem hlt
      rw [List.drop_eq_getElem_cons hlt] at ec
      obtain ⟨r, μ3, tl, f1, f2, f3⟩ := compM2_cons ec
      obtain ⟨ρ1, μ4, f4, f1⟩ := bind_ok f1
      obtain ⟨f4', f4''⟩ := opt_ok f4
      subst f4''
      obtain ⟨es, μ5, f5, f1⟩ := bind_ok f1
      refine .inr ⟨(fgo i _ hd).1, _, fun H'' p' => ⟨ds.length - (i + 1), by omega, rfl, hlt, p'⟩, fun x H2 y => ?_⟩
      obtain ⟨S2, g2, rx⟩ := yld_ok S ((fgo i _ hd).2 x H2 y)
      refine tg_ok S2 rx f4' fun S3 => ⟨by rw [wipe_tg hin, wipe_idem fun v hv => hv], ?_⟩
      rw [← eS] at f5 f1
      simp only [tYes, if_true]
      -- the inner walk
      refine ⟨F', owns own (lkT it), ph', ρ1, _, es, μ5, eK, S3, f5, fun ph3 H3 J3 held3 S4 g3 hh3 hit3 => ?_⟩
      generalize hσ : tgV (L2.wipe σ vs) H2 t x = σ1 at S3 S4
      have T0 : Stt F' (owns (owns own (lkT it)) (lkT it1)) ph3 (thaw (wipeE ρ1 vs1) (lkT it1)) μ5 (L2.wipe σ1 vs1) H3 := (S4.wipe vs1).thaw (lkT it1)
      have hh4 : ∀ p ∈ held3, Rep F'.sa ph3 (Av F' (owns (owns own (lkT it)) (lkT it1)) []) H3 p.1 p.2 := fun p hp => (hh3 p hp).weaken fun a z => av_sub lostT_sub (av_owns.mp z)
      have T1 : Stt { F' with held := held3 ++ F'.held } (owns (owns own (lkT it)) (lkT it1)) ph3 (thaw (wipeE ρ1 vs1) (lkT it1)) μ5 (L2.wipe σ1 vs1) H3 :=
        ⟨T0.slots, T0.lenE, T0.mu, T0.fr, T0.old, T0.phx, T0.onew, T0.ophi, T0.oinj, T0.oreal, T0.bdom, T0.bphi, T0.onb, T0.scr, fun p hp => (List.mem_append.mp hp).elim (hh4 p) (T0.held p)⟩
      generalize hF2 : ({ F' with held := held3 ++ F'.held } : Fx) = F2 at T1
      have eS2 : F2.S = F'.S := by rw [← hF2]
      have eK2 : F2.K = K := by rw [← hF2]; exact eK
      have ea2 : F2.sa = F'.sa := by rw [← hF2]
      have eB2 : F2.B D := by rw [← hF2]; exact eB
      have e02 : F2.H0 D = none := by rw [← hF2]; exact e0
      have eheld2 : ∀ p ∈ held3, p ∈ F2.held := fun p hp => by rw [← hF2]; exact List.mem_append_left _ hp
      have av2 : ∀ a, Av F' (owns own (lkT it)) (lkT it1 ++ lk ielt) a → Av F2 (owns (owns own (lkT it)) (lkT it1)) (lk ielt) a := fun a z => by
        rw [← hF2]
        rcases z with z | ⟨j, z1, z2⟩
        · exact .inl z
        · refine .inr ⟨j, ?_, fun q => z2 (List.mem_append_right _ q)⟩
          show owns (owns own (lkT it)) (lkT it1) j = some a
          unfold owns
          rw [if_neg fun q => z2 (List.mem_append_left _ q)]
          exact z1
      rw [← ea2] at hit3
      have hg03 : Grow ph' H' ph3 H3 := g2.trans g3
      refine ⟨fun j m H' => m = es.length - j ∧ j ≤ es.length ∧ ∃ ph4 μj accW acc2 rest2, Stt F2 (owns (owns own (lkT it)) (lkT it1)) ph4 (thaw (wipeE ρ1 vs1) (lkT it1)) μj (L2.wipe σ1 vs1) H' ∧ Stt F' (owns own (lkT it)) ph4 (thaw (wipeE ρ vs) (lkT it)) μj (L2.wipe σ vs) H' ∧ Grow ph1 H1 ph4 H' ∧ H' D = some (.lst accW) ∧
          Reps F'.sa ph4 (Av F' (owns own (lkT it)) (lkT it1 ++ lk ielt)) H' accW acc2 ∧ compM (fun e => M.opt (tgPut (thaw (wipeE ρ1 vs1) (lkT it1)) t1 e) >>= fun ρ2 => evE F'.S (cl F'.S) ielt ρ2 >>= fun x => pure (some x)) (es.drop j) μj = .ok rest2 μ3 ∧ acc ++ r = acc2 ++ rest2,
        ⟨es.length, rfl, Nat.zero_le _, ph3, μ5, accV, acc, r, T1, S.grow hg03 S4.mu, g.trans hg03, hg03.keep D _ hDl (S.bphi D eB), hg03.reps S.mu ra, f1, rfl⟩, ?_⟩
      rintro j m H5 ⟨rfl, hj, ph4, μj, accW, acc2, rest2, U, W5, g5, hD5, ra5, ec5, er5⟩
      obtain ⟨fgo5, fstop5⟩ := hit3 ph4 (Av F2 (owns (owns own (lkT it)) (lkT it1)) []) H5 fun p hp => U.held p (eheld2 p hp)
      by_cases hlt5 : j < es.length
      · have hd5 : es[j]? = some es[j] := List.getElem?_eq_getElem hlt5
        rw [List.drop_eq_getElem_cons hlt5] at ec5
        obtain ⟨r5, μ7, tl5, b1, b2, b3⟩ := compM_cons ec5
        obtain ⟨ρ2, μ8, b4, b1⟩ := bind_ok b1
        obtain ⟨b4', b4''⟩ := opt_ok b4
        subst b4''
        obtain ⟨xd, μ9, b5, b1⟩ := bind_ok b1
        obtain ⟨h1, h2⟩ := pure_ok b1
        subst h2
        subst h1
        refine .inr ⟨(fgo5 j _ hd5).1, _, fun H'' p' => ⟨es.length - (j + 1), by omega, rfl, hlt5, p'⟩, fun x5 H6 y5 => ?_⟩
        obtain ⟨U2, g6, rx5⟩ := yld_ok U ((fgo5 j _ hd5).2 x5 H6 y5)
        refine tg_ok U2 rx5 b4' fun U3 => ⟨by rw [wipe_tg hin1, wipe_idem fun v hv => hv], ?_⟩
        rw [← eS2] at b5
        refine ⟨F2, owns (owns own (lkT it)) (lkT it1), ph4, ρ2, _, xd, _, eK2, U3, b5, fun ph7 v H7 U7 g7 V7 => ?_⟩
        have gg := g6.trans g7
        have hD7 : H7 D = some (.lst accW) := gg.keep D _ hD5 (U.bphi D eB2)
        have M7 : MuOk F'.sa ph7 H7 _ := ea2 ▸ U7.mu
        have hz' : acc2.length < 1000000 := by
          have q1 := congrArg List.length er5
          rw [b3] at q1
          rw [er, f3, List.length_append, List.length_append] at hz
          simp only [List.length_append, List.length_cons] at q1
          omega
        refine ⟨accW, hD7, by rw [ra5.length]; exact Nat.lt_of_lt_of_le hz' million, ph7, _, accW ++ [v], acc2 ++ [xd], tl5, (U.grow gg U7.mu).updB eB2 hD7 e02, (W5.grow gg M7).updB eB hD7 e0, (g5.trans gg).updN hD, upd_same, ?_, b2, by rw [er5, b3, List.append_assoc]; rfl⟩
        have rv : Rep F'.sa ph7 (Av F' (owns own (lkT it)) (lkT it1 ++ lk ielt)) H7 v xd := by
          have := V7.rep
          rw [ea2] at this
          exact this.weaken av2
        exact Reps.updB ((gg.reps W5.mu ra5).append (.cons rv .nil)) eB hD7
      · have e : j = es.length := by omega
        subst e
        rw [List.drop_length] at ec5
        obtain ⟨h1, h2⟩ := pure_ok (show (pure [] : M (List Ev.D)) μj = .ok rest2 μ3 from ec5)
        subst h1 h2
        rw [List.append_nil] at er5
        refine .inl ⟨fstop5, ph4, _, accW, acc2, tl, W5, g5, hD5, ra5, f2, ?_⟩
        rw [er, f3, ← List.append_assoc, er5]
    · have e : i = ds.length := by omega
      subst e
      rw [List.drop_length] at ec
      obtain ⟨h1, h2⟩ := pure_ok (show (pure [] : M (List Ev.D)) μi = .ok rest μ2 from ec)
      subst h1 h2
      rw [List.append_nil] at er
      subst er
      refine .inl ⟨fstop, ?_⟩
      have gx := g1.trans g
      rw [ea] at ra
      refine k ph' _ H' (I1.grow g (ea ▸ S.mu)) gx ⟨.lst hDl (I1.notAv hD) (S.bphi D eB) (ra.weaken fun a z => av' a (.inl z)), fun _ es e => ?_⟩
      cases e
      exact ⟨D, accV, rfl, g1.none hD, hDl, S.bphi D eB, ra.weaken fun a z => av' a z⟩
  · cases ev
theorem s_comp2 {elt tg iter tg1 iter1 : Expr} {scope : Scope} {ownN : List (Str × Nat)} {vs vs1 : List Nat} {t t1 : Tg} {it it1 : IT} {ielt : IE} (hc : X.calm = true) (hN : X.N.Nodup) (hi : SI X cl tg iter it) (ok : BlkOk X.N X.env.scope scope ownN) (hv : ownN.map (·.2) = vs) (hv1 : ∀ i ∈ vs1, i ∈ vs) (hin : tgIn vs t = true) (hin1 : tgIn vs1 t1 = true)
    (hg : ∀ (s : Shared) (H : Hp) (C : Addr) (c : List (Str × Addr)) (fp : List Addr), PG (X.blk s H scope (compEnvC scope c C X.env) fp) tg (tgR X.K t))
    (hi1 : ∀ (s : Shared) (H : Hp) (C : Addr) (c : List (Str × Addr)) (fp : List Addr), PI (X.blk s H scope (compEnvC scope c C X.env) fp) tg1 iter1 (tI X.K cl it1)) (hp1 : plainX iter1 = true)
    (hg1 : ∀ (s : Shared) (H : Hp) (C : Addr) (c : List (Str × Addr)) (fp : List Addr), PG (X.blk s H scope (compEnvC scope c C X.env) fp) tg1 (tgR X.K t1))
    (he : ∀ (s : Shared) (H : Hp) (C : Addr) (c : List (Str × Addr)) (fp : List Addr), PE (X.blk s H scope (compEnvC scope c C X.env) fp) elt (tE X.K cl ielt)) :
    SE X cl (.ListComp elt [⟨tg, iter, [], 0⟩, ⟨tg1, iter1, [], 0⟩] scope pos) (.comp2 vs vs1 t it t1 it1 ielt) := by
  subst hv
  have hs1 : ∀ env x, foldedSetIterable iter1 env x = pure x := fun env x => by cases iter1 <;> first | rfl | (cases hp1; done)
  have h : PE X (.ListComp elt [⟨tg, iter, [], 0⟩, ⟨tg1, iter1, [], 0⟩] scope pos) (tE X.K cl (.comp2 (ownN.map (·.2)) vs1 t it t1 it1 ielt)) :=
    (pe_lc2 hc hN hi.pi ok hv1 hg (fun _ _ _ _ _ => pts_nil) hi1 hg1 (fun _ _ _ _ _ => pts_nil) he (plain_fold hi.pl) hs1).imp fun σ H Q q => comp2_main hin hin1 q
  refine ⟨h, fun _ => pt_of h, rfl, fun _ => asg_by h fun i y py spos hy hl hs => ?_⟩
  exact (ps_setLc2 hc hN hy hl hs hi.pi ok hv1 hg (fun _ _ _ _ _ => pts_nil) hi1 hg1 (fun _ _ _ _ _ => pts_nil) he (plain_fold hi.pl) hs1).imp fun D σ H q => comp2_main hin hin1 q
end
end Ev

set_option Elab.async false
set_option linter.all false
set_option maxRecDepth 100000
set_option maxHeartbeats 4000000
namespace Ev
open PySem L2 PyProof.Rows
section
variable {F : Fx} {own : Nat → Option Addr} {ph ph' : List Addr} {ρ : Env} {μ μ' : Mu} {σ : L2.St} {H H' : Hp}
/-! ### changes of an own list, of an object -/
theorem Stt.updO {x : Nat} {p : Addr} {xs ys : List V} {es : List D} (I : Stt F own ph ρ μ σ H) (ho : own x = some p) (hs : σ[x]? = some (some (.ref p))) (hp : H p = some (.lst xs)) (r : Reps F.sa ph (Av F own []) H ys es) :
    Stt F own ph (ρ.set x (some (true, .lst es))) μ σ (upd H p (.lst ys)) := by
  have hav : Av F own [] p := .inr ⟨x, ho, by simp⟩
  have kT : ∀ a vs, H a = some (.tup vs) → upd H p (.lst ys) a = some (.tup vs) := fun a vs h => by
    rw [upd_ne (fun z => by subst z; rw [h] at hp; cases hp)]; exact h
  have neA : ∀ {a}, ¬ Av F own [] a → a ≠ p := fun {a} n z => n (by rw [z]; exact hav)
  have rep : ∀ {v : V} {d : Ev.D}, Rep F.sa ph (Av F own []) H v d → Rep F.sa ph (Av F own []) (upd H p (.lst ys)) v d := fun {v d} r =>
    Rep.mono kT (fun a vs h n1 n2 => ⟨by rw [upd_ne (neA n1)]; exact h, n1, n2⟩) (fun _ _ z => z) d v r
  have reps : ∀ {v : List V} {d : List Ev.D}, Reps F.sa ph (Av F own []) H v d → Reps F.sa ph (Av F own []) (upd H p (.lst ys)) v d := fun {v d} r =>
    Reps.mono kT (fun a vs h n1 n2 => ⟨by rw [upd_ne (neA n1)]; exact h, n1, n2⟩) (fun _ _ z => z) d v r
  have repT : ∀ {v : List V} {d : List Ev.D}, Reps F.sa ph (fun _ => True) H v d → Reps F.sa ph (fun _ => True) (upd H p (.lst ys)) v d := fun {v d} r =>
    Reps.mono kT (fun a vs h n1 n2 => absurd trivial n1) (fun _ _ z => z) d v r
  have some' : ∀ {a}, H a ≠ none → upd H p (.lst ys) a ≠ none := fun {a} h z => by
    by_cases q : a = p
    · subst q; rw [upd_same] at z; cases z
    · rw [upd_ne q] at z; exact h z
  refine ⟨fun i b d h => ?_, by rw [List.length_set]; exact I.lenE, ⟨I.mu.len, I.mu.nd, fun n a mo h1 h2 => ?_⟩, fun a o h n => ?_, fun a o h => some' (I.old a o h), I.phx, I.onew, I.ophi, I.oinj, fun i q h => ?_, fun a h => some' (I.bdom a h), I.bphi, I.onb, ?_, fun q hq => rep (I.held q hq)⟩
  · by_cases hi : x = i
    · subst hi
      by_cases hl : x < ρ.length
      · rw [List.getElem?_set_self hl] at h
        cases h
        exact ⟨.ref p, hs, p, ys, es, rfl, rfl, ho, upd_same, reps r⟩
      · rw [List.getElem?_set, if_pos rfl, if_neg hl] at h; cases h
    · rw [List.getElem?_set_ne hi] at h
      obtain ⟨v, h1, h2⟩ := I.slots i b d h
      refine ⟨v, h1, ?_⟩
      cases b with
      | false => exact rep h2
      | true =>
        obtain ⟨q, vs, ds, q1, q2, q3, q4, q5⟩ := h2
        exact ⟨q, vs, ds, q1, q2, q3, by rw [upd_ne (fun z => hi (I.oinj x i p ho (by rw [← z]; exact q3)))]; exact q4, reps q5⟩
  · have r := I.mu.mo n a mo h1 h2
    exact r.mono (fun o q1 => by rw [upd_ne (fun z => I.ophi x p ho (by rw [← z]; exact List.mem_of_getElem? h1))]; exact q1) repT
  · rw [upd_ne (fun z => by subst z; rw [I.onew x a ho] at h; cases h)]
    exact I.fr a o h n
  · by_cases e : q = p
    · subst e; exact ⟨ys, upd_same⟩
    · obtain ⟨vs, q1⟩ := I.oreal i q h
      exact ⟨vs, by rw [upd_ne e]; exact q1⟩
  · refine ⟨I.scr.1, ?_⟩
    rcases I.scr.2 with ⟨ob, q⟩ | q
    · exact .inl ⟨ob, by rw [upd_ne (fun z => by rw [z, hp] at q; cases q)]; exact q⟩
    · exact .inr q
/-- an object changes -/
theorem Stt.updG {n : Nat} {a : Addr} {o0 ov : HO} {mv : MO} (I : Stt F own ph ρ μ σ H) (hn : ph[n]? = some a) (hp : H a = some o0) (hT : ∀ vs, o0 ≠ .tup vs) (hF : ∀ ob u, o0 ≠ .frz ob u)
    (r : (∀ {A : Addr → Prop} {v : List V} {d : List Ev.D}, Reps F.sa ph A H v d → Reps F.sa ph A (upd H a ov) v d) → MoR F.sa ph (upd H a ov) a mv) :
    Stt F own ph ρ (μ.set n mv) σ (upd H a ov) := by
  have hm : a ∈ ph := List.mem_of_getElem? hn
  have kT : ∀ b vs, H b = some (.tup vs) → upd H a ov b = some (.tup vs) := fun b vs h => by
    rw [upd_ne (fun z => by subst z; rw [h] at hp; exact hT vs (Option.some.inj hp).symm)]; exact h
  have rep : ∀ {A : Addr → Prop} {v : V} {d : Ev.D}, Rep F.sa ph A H v d → Rep F.sa ph A (upd H a ov) v d := fun {A v d} r =>
    Rep.mono kT (fun b vs h n1 n2 => ⟨by rw [upd_ne (fun z => n2 (by rw [z]; exact hm))]; exact h, n1, n2⟩) (fun _ _ z => z) d v r
  have reps : ∀ {A : Addr → Prop} {v : List V} {d : List Ev.D}, Reps F.sa ph A H v d → Reps F.sa ph A (upd H a ov) v d := fun {A v d} r =>
    Reps.mono kT (fun b vs h n1 n2 => ⟨by rw [upd_ne (fun z => n2 (by rw [z]; exact hm))]; exact h, n1, n2⟩) (fun _ _ z => z) d v r
  have some' : ∀ {b}, H b ≠ none → upd H a ov b ≠ none := fun {b} h z => by
    by_cases q : b = a
    · subst q; rw [upd_same] at z; cases z
    · rw [upd_ne q] at z; exact h z
  refine ⟨fun i b d h => ?_, I.lenE, ⟨by rw [List.length_set]; exact I.mu.len, I.mu.nd, fun k b mo h1 h2 => ?_⟩, fun b o h q => ?_, fun b o h => some' (I.old b o h), I.phx, I.onew, I.ophi, I.oinj, fun i q h => ?_, fun b h => some' (I.bdom b h), I.bphi, I.onb, ?_, fun q hq => rep (I.held q hq)⟩
  · obtain ⟨v, h1, h2⟩ := I.slots i b d h
    refine ⟨v, h1, ?_⟩
    cases b with
    | false => exact rep h2
    | true =>
      obtain ⟨q, vs, ds, q1, q2, q3, q4, q5⟩ := h2
      exact ⟨q, vs, ds, q1, q2, q3, by rw [upd_ne (fun z => I.ophi i q q3 (by rw [z]; exact hm))]; exact q4, reps q5⟩
  · by_cases e : n = k
    · subst e
      rw [hn] at h1
      cases h1
      rw [List.getElem?_set_self (by rw [← I.mu.len]; exact (List.getElem?_eq_some_iff.mp hn).1)] at h2
      cases h2
      exact r reps
    · rw [List.getElem?_set_ne e] at h2
      have r := I.mu.mo k b mo h1 h2
      have ne : b ≠ a := fun z => by
        subst z
        obtain ⟨l1, e1⟩ := List.getElem?_eq_some_iff.mp hn
        obtain ⟨l2, e2⟩ := List.getElem?_eq_some_iff.mp h1
        exact e ((List.getElem_inj I.mu.nd).mp (e1.trans e2.symm))
      exact r.mono (fun o q1 => by rw [upd_ne ne]; exact q1) reps
  · rw [upd_ne (fun z => ?_)]
    · exact I.fr b o h q
    · subst z
      obtain ⟨nw, e1, e2⟩ := I.phx
      rw [e1] at hm
      rcases List.mem_append.mp hm with z | z
      · exact q z
      · rw [e2 b z] at h; cases h
  · obtain ⟨vs, q1⟩ := I.oreal i q h
    exact ⟨vs, by rw [upd_ne (fun z => I.ophi i q h (by rw [z]; exact hm))]; exact q1⟩
  · refine ⟨I.scr.1, ?_⟩
    rcases I.scr.2 with ⟨ob, q⟩ | q
    · exact .inl ⟨ob, by rw [upd_ne (fun z => by rw [z, hp] at q; exact hF _ _ (Option.some.inj q))]; exact q⟩
    · exact .inr q
theorem Stt.updM {n : Nat} {a : Addr} {vs ys : List V} {es : List D} (I : Stt F own ph ρ μ σ H) (hn : ph[n]? = some a) (hp : H a = some (.lst vs)) (r : Reps F.sa ph (fun _ => True) H ys es) :
    Stt F own ph ρ (μ.set n (.lst es)) σ (upd H a (.lst ys)) := I.updG hn hp (fun _ z => nomatch z) (fun _ _ z => nomatch z) fun reps => ⟨ys, upd_same, reps r⟩
/-- a new object -/
theorem Stt.newG {p : Addr} {mv : MO} (I0 : Stt F own ph ρ μ σ H) (I : Stt F own ph ρ μ σ H') (g : Grow ph H ph H') (hp : H p = none) (hm : MoR F.sa (ph ++ [p]) H' p mv) :
    Stt F own (ph ++ [p]) ρ (μ ++ [mv]) σ H' ∧ Grow ph H (ph ++ [p]) H' ∧ (ph ++ [p])[μ.length]? = some p := by
  have g2 : Grow ph H (ph ++ [p]) H' := ⟨g.keep, ⟨[p], rfl, fun a ha => by rw [List.mem_singleton.mp ha]; exact hp⟩, g.old⟩
  have hn : p ∉ ph := I0.notPhi hp
  have hM : MuOk F.sa (ph ++ [p]) H' (μ ++ [mv]) := by
    refine ⟨by rw [List.length_append, List.length_append, I.mu.len]; rfl, ?_, fun n a mo h1 h2 => ?_⟩
    · rw [List.nodup_append]
      refine ⟨I.mu.nd, by simp, fun a ha b hb => ?_⟩
      rw [List.mem_singleton.mp hb]
      exact fun z => hn (by rw [← z]; exact ha)
    · by_cases hl : n < ph.length
      · rw [List.getElem?_append_left hl] at h1
        rw [List.getElem?_append_left (by rw [← I.mu.len]; exact hl)] at h2
        refine (I.mu.mo n a mo h1 h2).mono (fun _ h => h) fun {v d} q2 => ?_
        refine Reps.mono (fun _ _ h => h) (fun _ _ _ n1 _ => absurd trivial n1) (fun m b h => ?_) d v q2
        rw [List.getElem?_append_left (List.getElem?_eq_some_iff.mp h).1]; exact h
      · rw [List.getElem?_append_right (by omega)] at h1
        rw [List.getElem?_append_right (by rw [← I.mu.len]; omega), ← I.mu.len] at h2
        cases q : n - ph.length with
        | zero =>
          rw [q] at h1 h2
          cases h1
          cases h2
          exact hm
        | succ k => rw [q] at h1; simp at h1
  exact ⟨I0.grow g2 hM, g2, by rw [← I.mu.len, List.getElem?_append_right (Nat.le_refl _)]; simp⟩
theorem Stt.newObj {i : Nat} {p : Addr} (I0 : Stt F own ph ρ μ σ H) (I : Stt F own ph ρ μ σ H') (g : Grow ph H ph H') (hp : H p = none) (hH : H' p = some (.lst [])) :
    Stt F own (ph ++ [p]) (ρ.set i (some (false, .mref μ.length))) (μ ++ [.lst []]) (σ.set i (some (.ref p))) H' := by
  obtain ⟨J, _, e⟩ := I0.newG (mv := .lst []) I g hp ⟨[], hH, .nil⟩
  exact J.put (.mref e)
theorem Val.lost {e : IE} {v : V} {d : D} (I0 : Stt F own ph ρ μ σ H) (V0 : Val F own (lk e) (newL e) H ph' H' v d) : Rep F.sa ph' (Av F own (lost e d)) H' v d := by
  unfold Ev.lost
  by_cases hs : (d.sc || newL e && d.flat) = true
  · rw [if_pos hs]
    by_cases hd : d.sc = true
    · exact V0.rep.scal hd
    · have q : (newL e && d.flat) = true := by
        rcases Bool.or_eq_true_iff.mp hs with q | q
        · exact absurd q hd
        · exact q
      rw [Bool.and_eq_true] at q
      cases d with
      | lst ds =>
        obtain ⟨p, vs, rfl, hp, hH, hn, r⟩ := V0.new q.1 ds rfl
        exact .lst hH (I0.notAv hp) hn (Reps.scal q.2 r)
      | tup ds => simp [D.flat, D.sc] at q
      | scr => simp [D.flat, D.sc] at q
      | mref n => simp [D.flat, D.sc] at q
      | non => exact absurd rfl hd
      | bl b => exact absurd rfl hd
      | int b => exact absurd rfl hd
      | str b => exact absurd rfl hd
  · rw [if_neg hs]
    exact V0.rep
/-- a new list that is not yet anyone's is kept clear of -/
theorem Stt.guard {p : Addr} {vs : List V} (I0 : Stt F own ph ρ μ σ H) (I : Stt F own ph' ρ μ' σ H') (g : Grow ph H ph' H') (hp : H p = none) (hH : H' p = some (.lst vs)) (hn : p ∉ ph') : Stt { F with B := fun a => F.B a ∨ a = p } own ph' ρ μ' σ H' := by
  have nav : ∀ a, Av { F with B := fun a => F.B a ∨ a = p } own [] a → Av F own [] a ∨ H a = none := fun a z => by
    rcases z with (z | z) | z
    · exact .inl (.inl z)
    · exact .inr (by rw [z]; exact hp)
    · exact .inl (.inr z)
  have pown : ∀ j, own j ≠ some p := fun j e => by
    obtain ⟨ws, e'⟩ := I0.oreal j p e
    rw [hp] at e'; cases e'
  refine ⟨fun i b d h => ?_, I.lenE, I.mu, I.fr, I.old, I.phx, I.onew, I.ophi, I.oinj, I.oreal, fun a h => ?_, fun a h => ?_, fun i q e h => ?_, I.scr, fun q hq => g.repN I0.mu nav (I0.held q hq)⟩
  · obtain ⟨v, h1, h2⟩ := I0.slots i b d h
    refine ⟨v, h1, ?_⟩
    cases b with
    | false => exact g.repN I0.mu nav h2
    | true =>
      obtain ⟨q, vs, ds, q1, q2, q3, q4, q5⟩ := h2
      exact ⟨q, vs, ds, q1, q2, q3, g.keep _ _ q4 (I0.ophi i q q3), g.repsN I0.mu nav q5⟩
  · rcases h with h | h
    · exact I.bdom a h
    · rw [h, hH]; exact fun z => by cases z
  · rcases h with h | h
    · exact I.bphi a h
    · rw [h]; exact hn
  · rcases h with h | h
    · exact I.onb i q e h
    · rw [h] at e; exact pown i e
/-- .. and becomes a slot's own -/
theorem Stt.take {i : Nat} {p : Addr} {vs : List V} {ds : List D} (I : Stt { F with B := fun a => F.B a ∨ a = p } own ph ρ μ σ H) (h0 : F.H0 p = none) (hb : ¬ F.B p) (hH : H p = some (.lst vs)) (r : Reps F.sa ph (fun a => Av F own [] a ∨ a = p) H vs ds) :
    Stt F (fun j => if j = i then some p else own j) ph (ρ.set i (some (true, .lst ds))) μ (σ.set i (some (.ref p))) H := by
  have look : ∀ {j a}, (if j = i then some p else own j) = some a → (j = i ∧ a = p) ∨ (j ≠ i ∧ own j = some a) := fun {j a} z => by
    by_cases hj : j = i
    · rw [if_pos hj] at z; cases z; exact .inl ⟨hj, rfl⟩
    · rw [if_neg hj] at z; exact .inr ⟨hj, z⟩
  have nav : ∀ a, Av F (fun j => if j = i then some p else own j) [] a → Av { F with B := fun a => F.B a ∨ a = p } own [] a := fun a z => by
    rcases z with z | ⟨j, z, _⟩
    · exact .inl (.inl z)
    · rcases look z with ⟨_, q⟩ | ⟨_, q⟩
      · exact .inl (.inr q)
      · exact .inr ⟨j, q, by simp⟩
  have pown : ∀ j, own j ≠ some p := fun j e => I.onb j p e (.inr rfl)
  refine ⟨fun j b d h => ?_, by rw [List.length_set, List.length_set]; exact I.lenE, I.mu, I.fr, I.old, I.phx, fun j q e => ?_, fun j q e => ?_, fun j k q e1 e2 => ?_, fun j q e => ?_, fun a h => I.bdom a (.inl h), fun a h => I.bphi a (.inl h), fun j q e h => ?_, I.scr, fun q hq => (I.held q hq).weaken nav⟩
  · by_cases hj : i = j
    · subst hj
      by_cases hl : i < ρ.length
      · rw [List.getElem?_set_self hl] at h
        cases h
        refine ⟨.ref p, List.getElem?_set_self (by rw [← I.lenE]; exact hl), p, vs, ds, rfl, rfl, if_pos rfl, hH, r.weaken fun a z => ?_⟩
        rcases nav a z with (z | z) | z
        · exact .inl (.inl z)
        · exact .inr z
        · exact .inl (.inr z)
      · rw [List.getElem?_set, if_pos rfl, if_neg hl] at h; cases h
    · rw [List.getElem?_set_ne hj] at h
      obtain ⟨w, h1, h2⟩ := I.slots j b d h
      refine ⟨w, by rw [List.getElem?_set_ne hj]; exact h1, ?_⟩
      cases b with
      | false => exact Rep.weaken nav h2
      | true =>
        obtain ⟨q, ws, es, q1, q2, q3, q4, q5⟩ := h2
        exact ⟨q, ws, es, q1, q2, by show (if j = i then some p else own j) = some q; rw [if_neg (Ne.symm hj)]; exact q3, q4, q5.weaken nav⟩
  · rcases look e with ⟨_, rfl⟩ | ⟨_, q'⟩
    · exact h0
    · exact I.onew j q q'
  · rcases look e with ⟨_, rfl⟩ | ⟨_, q'⟩
    · exact I.bphi q (.inr rfl)
    · exact I.ophi j q q'
  · rcases look e1 with ⟨a1, rfl⟩ | ⟨a1, q1⟩ <;> rcases look e2 with ⟨a2, a3⟩ | ⟨a2, q2⟩
    · rw [a1, a2]
    · exact absurd q2 (pown k)
    · subst a3; exact absurd q1 (pown j)
    · exact I.oinj j k q q1 q2
  · rcases look e with ⟨_, rfl⟩ | ⟨_, q'⟩
    · exact ⟨vs, hH⟩
    · exact I.oreal j q q'
  · rcases look e with ⟨a1, rfl⟩ | ⟨_, q'⟩
    · exact hb h
    · exact I.onb j q q' (.inl h)
/-- Stt.bind with the owners told -/
theorem Stt.bind' (I0 : Stt F own ph ρ μ σ H) (I : Stt F own ph' ρ μ' σ H') (g : Grow ph H ph' H') {e : IE} {i : Nat} {v : V} {d : D} (V0 : Val F own (lk e) (newL e) H ph' H' v d) :
    ∃ own', (∀ j a, own' j = some a → (own j = some a ∧ j ∉ lost e d) ∨ H a = none) ∧ Stt F own' ph' (bindTo ρ i e d) μ' (σ.set i (some v)) H' := by
  have J0 := I0.thaw (Ev.lost e d)
  have J := I.thaw (Ev.lost e d)
  unfold bindTo
  by_cases hN : (newL e && d.isL) = true
  · rw [hN]
    rw [Bool.and_eq_true] at hN
    cases d with
    | lst ds =>
      obtain ⟨p, vs, rfl, hp, hH, hn, r⟩ := V0.new hN.1 ds rfl
      refine ⟨_, fun j a e => ?_, J0.ownNew J g hp hH hn ?_⟩
      · by_cases hj : j = i
        · rw [if_pos hj] at e; cases e; exact .inr hp
        · rw [if_neg hj] at e; exact .inl (owns_some e)
      · by_cases hf : (D.lst ds).flat = true
        · exact Reps.scal hf r
        · have e1 : Ev.lost e (.lst ds) = lk e := by
            unfold Ev.lost
            rw [if_neg]
            intro z
            simp only [D.sc, Bool.false_or, Bool.and_eq_true] at z
            exact hf z.2
          rw [e1]
          exact r.weaken fun a z => z.imp (fun q => av_owns.mp q) id
    | _ => cases hN.2
  · have hN' : (newL e && d.isL) = false := by simpa using hN
    rw [hN']
    exact ⟨_, fun j a e => .inl (owns_some e), J.put ((V0.lost I0).weaken fun a z => av_owns.mp z)⟩
theorem Val.later {ph2 : List Addr} {H2 : Hp} {L : List Nat} {nw : Bool} {v : V} {d : D} (V0 : Val F own L nw H ph' H' v d) (g : Grow ph' H' ph2 H2) (M : MuOk F.sa ph' H' μ') : Val F own L nw H ph2 H2 v d := by
  refine ⟨g.rep M V0.rep, fun h ds e => ?_⟩
  obtain ⟨p, vs, h1, h2, h3, h4, h5⟩ := V0.new h ds e
  exact ⟨p, vs, h1, h2, g.keep _ _ h3 h4, g.notin h3 h4, g.reps M h5⟩
theorem Stt.unheld {held : List (V × D)} (I : Stt { F with held := held ++ F.held } own ph ρ μ σ H) : Stt F own ph ρ μ σ H :=
  ⟨I.slots, I.lenE, I.mu, I.fr, I.old, I.phx, I.onew, I.ophi, I.oinj, I.oreal, I.bdom, I.bphi, I.onb, I.scr, fun p hp => I.held p (List.mem_append_right _ hp)⟩
end

/-! ### readings of statements -/
/-- how a run ends -/
def EndR (F : Fx) (E : Ends) (μ : Mu) (ρ : Env) : Fl → Prop
  | .next => ∀ own ph σ H, Stt F own ph ρ μ σ H → E.nx σ H
  | .cont => ∀ own ph σ H, Stt F own ph ρ μ σ H → E.ct σ H
  | .ret d => ∀ own ph σ H v, Stt F own ph ρ μ σ H → Rep F.sa ph F.B H v d → E.rt v H
def tS (K : PySem.W.Frag) (cl : Calls) (s : IS) : TS := fun E σ H => ∃ F own ph ρ μ fl ρ' μ', F.K = K ∧ Stt F own ph ρ μ σ H ∧ evS F.S (cl F.S) s ρ μ = .ok (fl, ρ') μ' ∧ EndR F E μ' ρ' fl
def tSs (K : PySem.W.Frag) (cl : Calls) (s : ISs) : TS := fun E σ H => ∃ F own ph ρ μ fl ρ' μ', F.K = K ∧ Stt F own ph ρ μ σ H ∧ evSs F.S (cl F.S) s ρ μ = .ok (fl, ρ') μ' ∧ EndR F E μ' ρ' fl
section
variable {X : Cx} {cl : Calls} {a b c e : Expr} {ia ib ic ie : IE} {pos p px py : Pos} {st : Stmt} {rest : List Stmt} {s : IS} {ss ss' : ISs} {i j : Nat} {x y : Str}
theorem ss_nil : PSs X [] (tSs X.K cl .nil) := pss_nil.imp fun E σ H q => by
  obtain ⟨F, own, ph, ρ, μ, fl, ρ', μ', hK, I, ev, k⟩ := q
  unfold evSs at ev
  obtain ⟨h1, rfl⟩ := pure_ok ev
  cases h1
  exact k own ph σ H I
theorem ss_cons (h1 : PS X st (tS X.K cl s)) (h2 : PSs X rest (tSs X.K cl ss)) : PSs X (st :: rest) (tSs X.K cl (.cons s ss)) := (pss_cons h1 h2).imp fun E σ H q => by
  obtain ⟨F, own, ph, ρ, μ, fl, ρ', μ', hK, I, ev, k⟩ := q
  unfold evSs at ev
  obtain ⟨⟨fl1, ρ1⟩, μ1, e1, ev⟩ := bind_ok ev
  refine ⟨F, own, ph, ρ, μ, fl1, ρ1, μ1, hK, I, e1, ?_⟩
  cases fl1 with
  | next => exact fun own' ph' σ' H' I' => ⟨F, own', ph', ρ1, μ1, fl, ρ', μ', hK, I', ev, k⟩
  | cont =>
    obtain ⟨h, rfl⟩ := pure_ok ev
    cases h
    exact k
  | ret d =>
    obtain ⟨h, rfl⟩ := pure_ok ev
    cases h
    exact k
theorem noswap {tg : Option Expr} {l : Nat} (h : plainX e = true) (hc : isComp e = false) : swapsWith e tg l X.env = pure false := by
  cases e <;> first | rfl | (cases h; done) | (cases hc; done)
theorem ss_assign (h : SE X cl e ie) (hN : X.N.Nodup) (hi : X.N[i]? = some y) (hl : Loc X.env.scope y) (hf : X.fn y = true ∨ X.env.scope.names.lookup y = some .local) : PS X (.Assign [.Name y py] e pos) (tS X.K cl (.assign i ie)) := by
  have h0 : PS X (.Assign [.Name y py] e pos) (tAsg (tE X.K cl ie) (gName i)) := by
    by_cases hc : isComp e = true
    · exact h.asg hc i y py pos hN hi hl hf
    · exact ps_set hN hi hl h.pe (noswap h.pl (by simpa using hc)) hf
  refine h0.imp fun E σ H q => ?_
  obtain ⟨F, own, ph, ρ, μ, fl, ρ', μ', hK, I, ev, k⟩ := q
  unfold evS at ev
  obtain ⟨d, μ1, e1, ev⟩ := bind_ok ev
  obtain ⟨h1, rfl⟩ := pure_ok ev
  cases h1
  refine ⟨F, own, ph, ρ, μ, d, _, hK, I, e1, fun ph' v H' I' g V0 => ?_⟩
  obtain ⟨own', _, J⟩ := I.bind' I' g (i := i) V0
  exact k own' ph' _ H' J
theorem ss_newRef (hN : X.N.Nodup) (hi : X.N[i]? = some y) (hl : Loc X.env.scope y) (hf : X.fn y = true ∨ X.env.scope.names.lookup y = some .local) : PS X (.Assign [.Name y py] (.List [] p) pos) (tS X.K cl (.newRef i)) := by
  refine (ps_set hN hi hl (s_lst (cl := cl) sa_nil).pe rfl hf).imp fun E σ H q => ?_
  obtain ⟨F, own, ph, ρ, μ, fl, ρ', μ', hK, I, ev, k⟩ := q
  unfold evS at ev
  cases ev
  refine ⟨F, own, ph, ρ, μ, .lst [], μ, hK, I, by simp [evE, evEs]; rfl, fun ph' v H' I' g V0 => ?_⟩
  obtain ⟨q, vs, rfl, hp, hH, hn, r⟩ := V0.new rfl [] rfl
  cases r
  have e : ph' = ph := by
    obtain ⟨nw, e1, _⟩ := g.ext
    have h1 := I'.mu.len
    have h2 := I.mu.len
    rw [e1, List.length_append] at h1
    have : nw = [] := List.length_eq_zero_iff.mp (by omega)
    rw [e1, this, List.append_nil]
  subst e
  exact k own _ _ H' (I.newObj I' g hp hH)
theorem ss_expr (h : SE X cl e ie) (hc : isComp e = false) : PS X (.Expr e pos) (tS X.K cl (.expr ie)) := by
  refine (ps_expr h.pe (noswap h.pl hc)).imp fun E σ H q => ?_
  obtain ⟨F, own, ph, ρ, μ, fl, ρ', μ', hK, I, ev, k⟩ := q
  unfold evS at ev
  obtain ⟨d, μ1, e1, ev⟩ := bind_ok ev
  obtain ⟨h1, rfl⟩ := pure_ok ev
  cases h1
  exact ⟨F, own, ph, ρ, μ, d, _, hK, I, e1, fun ph' v H' I' g V0 => k own ph' σ H' I'⟩
theorem ss_ret (h : SE X cl e ie) : PS X (.Return (some e) pos) (tS X.K cl (.ret ie)) := by
  refine (ps_ret h.pe).imp fun E σ H q => ?_
  obtain ⟨F, own, ph, ρ, μ, fl, ρ', μ', hK, I, ev, k⟩ := q
  unfold evS at ev
  obtain ⟨d, μ1, e1, ev⟩ := bind_ok ev
  obtain ⟨h1, rfl⟩ := pure_ok ev
  cases h1
  exact ⟨F, own, ph, ρ, μ, d, _, hK, I, e1, fun ph' v H' I' g V0 => k own ph' σ H' v I' (V0.rep.weaken fun a z => .inl z)⟩
theorem ss_raise {c : Nat} : PS X st (tS X.K cl (.raise c)) := by
  refine ps_never.imp fun E σ H q => ?_
  obtain ⟨F, own, ph, ρ, μ, fl, ρ', μ', hK, I, ev, k⟩ := q
  unfold evS at ev
  cases ev
theorem ss_cont : PS X (.Continue pos) (tS X.K cl .cont) := by
  refine ps_continue.imp fun E σ H q => ?_
  obtain ⟨F, own, ph, ρ, μ, fl, ρ', μ', hK, I, ev, k⟩ := q
  unfold evS at ev
  obtain ⟨h1, rfl⟩ := pure_ok ev
  cases h1
  exact k own ph σ H I
theorem ss_ite {as bs : List Stmt} (hc : SE X cl c ic) (ht : tst ic = true) (ha : PSs X as (tSs X.K cl ss)) (hb : PSs X bs (tSs X.K cl ss')) : PS X (.If c as bs pos) (tS X.K cl (.ite ic ss ss')) := by
  refine (ps_if (hc.pt ht) ha hb).imp fun E σ H q => ?_
  obtain ⟨F, own, ph, ρ, μ, fl, ρ', μ', hK, I, ev, k⟩ := q
  unfold evS at ev
  obtain ⟨x, μ1, e1, ev⟩ := bind_ok ev
  obtain ⟨kb, μ2, e2, ev⟩ := bind_ok ev
  obtain ⟨e2', rfl⟩ := opt_ok e2
  rw [truth_bl e2'] at e1
  refine ⟨F, own, ph, ρ, μ, kb, _, hK, I, e1, fun ph' H' I' g => ?_⟩
  cases kb with
  | true => exact ⟨F, own, ph', ρ, _, fl, ρ', μ', hK, I', ev, k⟩
  | false => exact ⟨F, own, ph', ρ, _, fl, ρ', μ', hK, I', ev, k⟩
theorem ss_while {n : Nat} {body : List Stmt} (hp : PassesOwn (model X.prog X.w) X.A X.env X.xe) (hc : SE X cl c ic) (ht : tst ic = true) (hb : PSs X body (tSs X.K cl ss)) : PS X (.While c body [] pos) (tS X.K cl (.while_ n ic ss)) := by
  refine (ps_while hp (hc.pt ht) hb).imp fun E σ H q => ?_
  obtain ⟨F, own, ph, ρ, μ, fl, ρ', μ', hK, I, ev, k⟩ := q
  unfold evS at ev
  refine ⟨fun m σ H => ∃ own ph ρ μ, Stt F own ph ρ μ σ H ∧ whileM (fun ρ => evE F.S (cl F.S) ic ρ >>= fun x => M.opt (truth x)) (fun ρ => evSs F.S (cl F.S) ss ρ) m ρ μ = .ok (fl, ρ') μ', ⟨n, own, ph, ρ, μ, I, ev⟩, ?_⟩
  rintro m σ H ⟨own, ph, ρ, μ, I, ev⟩
  cases m with
  | zero => cases ev
  | succ m =>
    unfold whileM at ev
    obtain ⟨kb, μ1, e1, ev⟩ := bind_ok ev
    obtain ⟨x, μ2, e5, e2⟩ := bind_ok e1
    obtain ⟨e2', rfl⟩ := opt_ok e2
    rw [truth_bl e2'] at e5
    refine ⟨F, own, ph, ρ, μ, kb, _, hK, I, e5, fun ph' H' I' g => ?_⟩
    cases kb with
    | false =>
      obtain ⟨h1, rfl⟩ := pure_ok (show (pure (Fl.next, ρ) : M (Fl × Env)) _ = _ from ev)
      cases h1
      exact k own ph' σ H' I'
    | true =>
      obtain ⟨⟨fl1, ρ1⟩, μ3, e3, ev⟩ := bind_ok (show (evSs F.S (cl F.S) ss ρ >>= fun p => match p.1 with
      | .next => whileM (fun ρ => evE F.S (cl F.S) ic ρ >>= fun x => M.opt (truth x)) (fun ρ => evSs F.S (cl F.S) ss ρ) m p.2
      | .cont => whileM (fun ρ => evE F.S (cl F.S) ic ρ >>= fun x => M.opt (truth x)) (fun ρ => evSs F.S (cl F.S) ss ρ) m p.2
      | .ret d => pure (.ret d, p.2)) _ = _ from ev)
      refine ⟨fun σ H => ∃ own ph ρ μ, Stt F own ph ρ μ σ H ∧ whileM (fun ρ => evE F.S (cl F.S) ic ρ >>= fun x => M.opt (truth x)) (fun ρ => evSs F.S (cl F.S) ss ρ) m ρ μ = .ok (fl, ρ') μ', fun σ' H' h => ⟨m, Nat.lt_succ_self _, h⟩, F, own, ph', ρ, _, fl1, ρ1, μ3, hK, I', e3, ?_⟩
      cases fl1 with
      | next => exact fun own ph σ H I => ⟨own, ph, ρ1, μ3, I, ev⟩
      | cont => exact fun own ph σ H I => ⟨own, ph, ρ1, μ3, I, ev⟩
      | ret d =>
        obtain ⟨h, rfl⟩ := pure_ok (show (pure (Fl.ret d, ρ1) : M (Fl × Env)) _ = _ from ev)
        cases h
        exact k
theorem ss_for {tg iter : Expr} {t : Tg} {it : IT} {body : List Stmt} (hp : PassesOwn (model X.prog X.w) X.A X.env X.xe) (hc : X.calm = true) (hi : SI X cl tg iter it) (hg : STg X tg t) (hb : PSs X body (tSs X.K cl ss)) : PS X (.For tg iter body [] pos) (tS X.K cl (.for_ t it ss)) := by
  refine (ps_for hp hc hi.pi hg.pg hb (plain_fold hi.pl)).imp fun E σ H q => ?_
  obtain ⟨F, own, ph, ρ, μ, fl, ρ', μ', hK, I, ev, k⟩ := q
  unfold evS at ev
  obtain ⟨ds, μ1, e1, ev⟩ := bind_ok ev
  refine ⟨F, own, ph, ρ, μ, ds, μ1, hK, I, e1, fun ph1 H1 J held I1 g1 hh hit => ?_⟩
  have T0 := I1.thaw (lostT it ds)
  have T1 : Stt { F with held := held ++ F.held } (owns own (lostT it ds)) ph1 (thaw ρ (lostT it ds)) μ1 σ H1 :=
    ⟨T0.slots, T0.lenE, T0.mu, T0.fr, T0.old, T0.phx, T0.onew, T0.ophi, T0.oinj, T0.oreal, T0.bdom, T0.bphi, T0.onb, T0.scr, fun p hp => (List.mem_append.mp hp).elim (fun z => (hh p z).weaken fun a q => av_owns.mp q) (T0.held p)⟩
  refine ⟨fun i m σ H => m = ds.length - i ∧ i ≤ ds.length ∧ ∃ own ph ρ μ, Stt { F with held := held ++ F.held } own ph ρ μ σ H ∧ forM (fun d ρ => M.opt (tgPut ρ t d) >>= fun ρ1 => evSs F.S (cl F.S) ss ρ1) (ds.drop i) ρ μ = .ok (fl, ρ') μ',
    ⟨ds.length, rfl, Nat.zero_le _, _, _, _, _, T1, ev⟩, ?_⟩
  rintro i m σ H ⟨rfl, hi, own, ph, ρ, μ, I, ev⟩
  obtain ⟨fgo, fstop⟩ := hit ph (Av { F with held := held ++ F.held } own []) H fun p hp => I.held p (List.mem_append_left _ hp)
  by_cases hlt : i < ds.length
  · have hd : ds[i]? = some ds[i] := List.getElem?_eq_getElem hlt
    rw [List.drop_eq_getElem_cons hlt] at ev
    unfold forM at ev
    obtain ⟨⟨fl1, ρ1⟩, μ3, e3, ev⟩ := bind_ok ev
    obtain ⟨ρ2, μ4, e4, e3⟩ := bind_ok e3
    obtain ⟨e4', rfl⟩ := opt_ok e4
    refine .inr ⟨(fgo i _ hd).1, fun σ H => ∃ own ph ρ μ, Stt { F with held := held ++ F.held } own ph ρ μ σ H ∧ forM (fun d ρ => M.opt (tgPut ρ t d) >>= fun ρ1 => evSs F.S (cl F.S) ss ρ1) (ds.drop (i + 1)) ρ μ = .ok (fl, ρ') μ', fun σ' H' h => ⟨ds.length - (i + 1), by omega, rfl, hlt, h⟩, fun x H2 yy => ?_⟩
    obtain ⟨S2, g2, rx⟩ := yld_ok I ((fgo i _ hd).2 x H2 yy)
    refine tg_ok S2 rx e4' fun S3 => ⟨{ F with held := held ++ F.held }, own, ph, ρ2, _, fl1, ρ1, μ3, hK, S3, e3, ?_⟩
    cases fl1 with
    | next => exact fun own ph σ H I => ⟨own, ph, ρ1, μ3, I, ev⟩
    | cont => exact fun own ph σ H I => ⟨own, ph, ρ1, μ3, I, ev⟩
    | ret d =>
      obtain ⟨h, rfl⟩ := pure_ok (show (pure (Fl.ret d, ρ1) : M (Fl × Env)) _ = _ from ev)
      cases h
      exact fun own ph σ H v I r => k own ph σ H v I.unheld r
  · have e : i = ds.length := by omega
    subst e
    rw [List.drop_length] at ev
    unfold forM at ev
    obtain ⟨h1, rfl⟩ := pure_ok ev
    cases h1
    exact .inl ⟨fstop, k own ph σ H I.unheld⟩
def isTup : Expr → Bool
  | .Tuple _ _ _ => true
  | _ => false
theorem ss_unpack {es : List Expr} {is : List Nat} {n : Nat} {pt : Pos} (h : SE X cl e ie) (hc : isComp e = false) (ht : isTup e = false) (hg : STg X (.Tuple es n pt) (.many is)) : PS X (.Assign [.Tuple es n pt] e pos) (tS X.K cl (.unpack is ie)) := by
  have hw : swappedStores [.Tuple es n pt] e X.env = pure none := by
    cases e <;> first | rfl | (cases ht; done)
  have hs : swapsWithSole [.Tuple es n pt] e pos.line X.env = pure false := noswap (X := X) (tg := some (.Tuple es n pt)) (l := pos.line) h.pl hc
  refine (ps_asg h.pe hg.pg hs hw).imp fun E σ H q => ?_
  obtain ⟨F, own, ph, ρ, μ, fl, ρ', μ', hK, I, ev, k⟩ := q
  unfold evS at ev
  obtain ⟨d, μ1, e1, ev⟩ := bind_ok ev
  obtain ⟨ρ1, μ2, e2, ev⟩ := bind_ok ev
  obtain ⟨e2', rfl⟩ := opt_ok e2
  obtain ⟨h1, rfl⟩ := pure_ok ev
  cases h1
  refine ⟨F, own, ph, ρ, μ, d, _, hK, I, e1, fun ph' v H' I' g V0 => ?_⟩
  exact tg_ok (I'.thaw (lost ie d)) ((V0.lost I).weaken fun a z => av_owns.mp z) e2' fun S => k _ ph' _ H' S
theorem ss_aug (h : SE X cl e ie) (hN : X.N.Nodup) (hi : X.N[i]? = some y) (hl : Loc X.env.scope y) (hf : X.fn y = true ∨ X.env.scope.names.lookup y = some .local) : PS X (.AugAssign (.Name y py) .Add e pos) (tS X.K cl (.aug i ie)) := by
  refine (ps_aug hN hi hl h.pe ip_add hf).imp fun E σ H q => ?_
  obtain ⟨F, own, ph, ρ, μ, fl, ρ', μ', hK, I, ev, k⟩ := q
  unfold evS at ev
  obtain ⟨x, μ1, e1, ev⟩ := bind_ok ev
  obtain ⟨e1', rfl⟩ := opt_ok e1
  obtain ⟨z, μ2, e2, ev⟩ := bind_ok ev
  obtain ⟨e3, rfl⟩ := opt_ok ev
  unfold look at e1'
  split at e1'
  · rename_i bb dd hq
    cases e1'
    obtain ⟨v, h1, h2⟩ := I.slots i bb x hq
    cases x <;> cases z <;> simp only at e3 <;> try (cases e3; done)
    rename_i m _ n
    cases e3
    have hv : v = .int m := by
      cases bb with
      | false => cases h2; rfl
      | true => obtain ⟨_, _, _, _, z, _⟩ := h2; cases z
    subst hv
    refine ⟨.int m, h1, F, own, ph, ρ, _, .int n, _, hK, I, e2, fun ph' v H' I' g V0 => ?_⟩
    cases V0.rep
    exact ⟨m, n, rfl, rfl, k own ph' _ H' (I'.put (.int _))⟩
  · cases e1'
end
end Ev

set_option Elab.async false
set_option linter.all false
set_option maxRecDepth 100000
set_option maxHeartbeats 4000000
namespace Ev
open PySem L2 PyProof.Rows
section
variable {X : Cx} {cl : Calls} {a b c e : Expr} {ia ib ic ie : IE} {pos p px py pt apos cpos : Pos} {st : Stmt} {rest : List Stmt} {s : IS} {ss ss' : ISs} {i j : Nat} {x y : Str}
theorem Stt.ownAt {F : Fx} {own : Nat → Option Addr} {ph : List Addr} {ρ : Env} {μ : Mu} {σ : L2.St} {H : Hp} {ds : List D} (I : Stt F own ph ρ μ σ H) (h : ownL ρ i = some ds) :
    ∃ p vs, σ[i]? = some (some (.ref p)) ∧ own i = some p ∧ H p = some (.lst vs) ∧ Reps F.sa ph (Av F own []) H vs ds := by
  unfold ownL at h
  split at h
  · rename_i es hq
    cases h
    obtain ⟨v, h1, p, vs, ds', rfl, e, h3, h4, h5⟩ := I.slots i true _ hq
    cases e
    exact ⟨p, vs, h1, h3, h4, h5⟩
  · cases h
theorem few {cp : Pos} (h : plainX e = true) : ((backTo cp (starEach [e] X.env)).all (fun x => !x.1) && (backToKw cp (keywordEach [] X.env)).all (fun x => x.1.isSome)
      && decide ([e].length + ([] : List Keyword).length + (if ([] : List Keyword).isEmpty then 0 else 1) < 30)) = true := by
  rw [plain_star h]
  rfl
/-- the name's own address is the same through an evaluation -/
theorem same_at {σ : L2.St} {p q : Addr} (h : σ[i]? = some (some (V.ref p))) (k : σ[i]? = some (some (V.ref q))) : p = q := by
  rw [h] at k
  cases k
  rfl
theorem get_list : PGet X (rIxL X.K) := by
  intro pins s σ H o i ov iv Q I ro ri h
  obtain ⟨p, xs, k, z, rfl, rfl, hq, he, q⟩ := h
  cases ro
  obtain ⟨t, rfl⟩ := ri
  obtain ⟨its, r, pl, hz⟩ := I.list hq
  obtain ⟨j, h1, h2, h3, h4, h5⟩ := atI_get he
  obtain ⟨w, ew, rw'⟩ := r.get h2
  have hl := r.length
  have hn := line63
  by_cases h0 : 0 ≤ k
  · have hj : k.toNat = j := by
      rw [seqIndex_of h0 h5] at h1
      exact Option.some.inj h1
    exact wpAny_getItem_list pl.isList h0 (by omega) (by rw [hj]; simpa using ew) ⟨z, H, I, rw', q⟩
  · have hj : (k + (its.toArray.size : Int)).toNat = j := by
      rw [seqIndex_neg (by omega) h4] at h1
      rw [List.size_toArray, ← hl]
      exact Option.some.inj h1
    exact wpAny_getItem_list_neg pl.isList (by omega) (by rw [List.size_toArray] <;> omega) (by omega) (by rw [hj]; simpa using ew) ⟨z, H, I, rw', q⟩
theorem million' {n : Nat} (h : n < 1000000) : n < sizeLine := Nat.lt_of_lt_of_le h million
theorem iteM_ok {α : Type} {c : Prop} [Decidable c] {f : M α} {a : α} {μ μ' : Mu} (h : (if c then f else M.no : M α) μ = .ok a μ') : c ∧ f μ = .ok a μ' := by
  by_cases hc : c
  · rw [if_pos hc] at h; exact ⟨hc, h⟩
  · rw [if_neg hc] at h; cases h
theorem iteR_ok {α : Type} {c : Prop} [Decidable c] {f r : R α} (h : (if c then f else .bad : R α) = r) (hr : r ≠ .bad) : c ∧ f = r := by
  by_cases hc : c
  · rw [if_pos hc] at h; exact ⟨hc, h⟩
  · rw [if_neg hc] at h; exact absurd h.symm hr
theorem lit_ok {S : List Int} {c : Nat → List D → M D} {ie : IE} {ρ : Env} {μ μ1 : Mu} {d : D} (h : litE ie = true) (e : evE S c ie ρ μ = .ok d μ1) : μ1 = μ := by
  cases ie with
  | int i =>
    rw [evE] at e
    exact (pure_ok e).2.symm
  | _ => cases h
def mrefApp (ρ : Env) (d : D) (n : Nat) : M Env := fun μ => match muLst μ n with
      | some ds => if ds.length < 1000000 then .ok ρ (μ.set n (.lst (ds ++ [d]))) else .bad
      | none => .bad
theorem mrefApp_ok {ρ ρ1 : Env} {d : D} {n : Nat} {μ μ2 : Mu} (h : mrefApp ρ d n μ = .ok ρ1 μ2) : ∃ ds, muLst μ n = some ds ∧ ds.length < 1000000 ∧ ρ1 = ρ ∧ μ2 = μ.set n (.lst (ds ++ [d])) := by
  unfold mrefApp at h
  cases hm : muLst μ n with
  | none => rw [hm] at h; cases h
  | some ds =>
    rw [hm] at h
    obtain ⟨hz, h⟩ := iteR_ok h (fun z => by cases z)
    cases h
    exact ⟨ds, rfl, hz, rfl, rfl⟩
theorem appTo_ok {ρ ρ1 : Env} {e : IE} {d : D} {μ μ2 : Mu} (h : appTo ρ i e d μ = .ok ρ1 μ2) :
    (∃ ds, ownL ρ i = some ds ∧ i ∉ lost e d ∧ ds.length < 1000000 ∧ ρ1 = (thaw ρ (lost e d)).set i (some (true, .lst (ds ++ [d]))) ∧ μ2 = μ) ∨
    (∃ bb n ds, ρ[i]? = some (some (bb, .mref n)) ∧ (d.sc && litE e) = true ∧ muLst μ n = some ds ∧ ds.length < 1000000 ∧ ρ1 = ρ ∧ μ2 = μ.set n (.lst (ds ++ [d]))) := by
  unfold appTo at h
  unfold ownL
  generalize ρ[i]? = o at h
  cases o with
  | none => cases h
  | some o =>
    cases o with
    | none => cases h
    | some q =>
      obtain ⟨bb, dd⟩ := q
      have go : ∀ {n : Nat}, (if (d.sc && litE e) = true then mrefApp ρ d n else M.no : M Env) μ = .ok ρ1 μ2 → ∃ ds, (d.sc && litE e) = true ∧ muLst μ n = some ds ∧ ds.length < 1000000 ∧ ρ1 = ρ ∧ μ2 = μ.set n (.lst (ds ++ [d])) := fun {n} h => by
        obtain ⟨hd, h⟩ := iteM_ok h
        obtain ⟨ds, h⟩ := mrefApp_ok h
        exact ⟨ds, hd, h⟩
      cases dd with
      | lst ds =>
        cases bb with
        | false => cases h
        | true =>
          obtain ⟨hc, h⟩ := iteM_ok (f := pure ((thaw ρ (lost e d)).set i (some (true, .lst (ds ++ [d]))))) h
          obtain ⟨h1, h2⟩ := pure_ok h
          exact .inl ⟨ds, rfl, hc.1, hc.2, h1.symm, h2.symm⟩
      | mref n =>
        cases bb with
        | false => obtain ⟨ds, h⟩ := go h; exact .inr ⟨_, n, ds, rfl, h⟩
        | true => obtain ⟨ds, h⟩ := go h; exact .inr ⟨_, n, ds, rfl, h⟩
      | _ => cases bb <;> cases h
theorem ss_append (h : SE X cl e ie) (hN : X.N[i]? = some x) (hv : Vis X.env.scope x) (hd : (x == ("__debug__" : Str)) = false) (hcd : (x == ("__classdict__" : Str)) = false) (hline : (apos.endLine == cpos.line) = true) :
    PS X (.Expr (.Call (.Attribute (.Name x px) "append" apos) [e] [] cpos) pos) (tS X.K cl (.append i ie)) := by
  have h0 := ps_expr (pos := pos) (pe_bm PySem.F.plainAttrs_list PySem.F.slot_list_append PySem.F.type_list_append mt_append (pe_var (pos := px) hN hv hd hcd) (pa_cons h.pe pa_nil (plain_star h.pl)) rfl (few h.pl) hline (plain_star h.pl) rfl) rfl
  refine h0.imp fun E σ H q => ?_
  obtain ⟨F, own, ph, ρ, μ, fl, ρ', μ', hK, I, ev, k⟩ := q
  unfold evS at ev
  obtain ⟨d, μ1, e1, ev⟩ := bind_ok ev
  obtain ⟨ρ1, μ2, e2, ev⟩ := bind_ok ev
  obtain ⟨h1, h2⟩ := pure_ok ev
  cases h1
  subst h2
  rcases appTo_ok e2 with ⟨ds, ho, hc1, hc2, h2, h3⟩ | ⟨bb, n, ds, hq, hc, hm, hz, h2, h3⟩
  · subst h2 h3
    obtain ⟨q, vs, s1, o1, p1, r1⟩ := I.ownAt ho
    refine ⟨.ref q, s1, .inl ⟨rfl, vs, SqL.of p1⟩, F, own, ph, ρ, μ, d, _, hK, I, e1, fun ph' w H' I' g V0 => ?_⟩
    obtain ⟨q', vs', s1', o1', p1', r1'⟩ := I'.ownAt ho
    cases same_at s1 s1'
    refine ⟨q, vs', w, rfl, rfl, p1', million' (by rw [r1'.length]; exact hc2), k (owns own (lost ie d)) ph' σ _ ?_⟩
    refine (I'.thaw (lost ie d)).updO (x := i) (by unfold owns; rw [if_neg hc1]; exact o1') s1 p1' ?_
    exact (r1'.weaken fun a z => av_mono (av_owns.mp z)).append (.cons ((V0.lost I).weaken fun a z => av_owns.mp z) .nil)
  · subst h2 h3
    have slot : ∀ {ph H μ}, Stt F own ph ρ' μ σ H → ∃ a, σ[i]? = some (some (.ref a)) ∧ ph[n]? = some a := fun {ph H μ} I => by
      obtain ⟨v, s1, h2⟩ := I.slots i bb _ hq
      cases bb with
      | false => cases h2 with | mref h3 => exact ⟨_, s1, h3⟩
      | true => obtain ⟨_, _, _, _, z, _⟩ := h2; cases z
    have mo : ∀ {ph H μ a}, Stt F own ph ρ' μ σ H → ph[n]? = some a → ∀ {ds}, muLst μ n = some ds → ∃ vs, H a = some (.lst vs) ∧ Reps F.sa ph (fun _ => True) H vs ds := fun {ph H μ a} I hn {ds} hm => by
      unfold muLst at hm
      split at hm
      · rename_i es hq
        cases hm
        exact I.mu.mo n a _ hn hq
      · cases hm
    obtain ⟨a, s1, hn⟩ := slot I
    rw [Bool.and_eq_true] at hc
    have hμ : μ1 = μ := lit_ok hc.2 e1
    obtain ⟨vs, p1, _⟩ := mo I hn (hμ ▸ hm)
    refine ⟨.ref a, s1, .inl ⟨rfl, vs, SqL.of p1⟩, F, own, ph, ρ', μ, d, _, hK, I, e1, fun ph' w H' I' g V0 => ?_⟩
    have hn' : ph'[n]? = some a := g.idx hn
    obtain ⟨vs', p1', r1'⟩ := mo I' hn' hm
    refine ⟨a, vs', w, rfl, rfl, p1', million' (by rw [r1'.length]; exact hz), k own ph' σ _ ?_⟩
    exact I'.updM hn' p1' (r1'.append (.cons (V0.rep.scal hc.1) .nil))
theorem ss_extend (h : SE X cl e ie) (hN : X.N[i]? = some x) (hv : Vis X.env.scope x) (hd : (x == ("__debug__" : Str)) = false) (hcd : (x == ("__classdict__" : Str)) = false) (hline : (apos.endLine == cpos.line) = true) :
    PS X (.Expr (.Call (.Attribute (.Name x px) "extend" apos) [e] [] cpos) pos) (tS X.K cl (.extend i ie)) := by
  have h0 := ps_expr (pos := pos) (pe_bm PySem.F.plainAttrs_list PySem.F.slot_list_extend PySem.F.type_list_extend mt_extend (pe_var (pos := px) hN hv hd hcd) (pa_cons h.pe pa_nil (plain_star h.pl)) rfl (few h.pl) hline (plain_star h.pl) rfl) rfl
  refine h0.imp fun E σ H q => ?_
  obtain ⟨F, own, ph, ρ, μ, fl, ρ', μ', hK, I, ev, k⟩ := q
  unfold evS at ev
  obtain ⟨d, μ1, e1, ev⟩ := bind_ok ev
  obtain ⟨ds, μ2, e2, ev⟩ := bind_ok ev
  obtain ⟨ho, h2⟩ := opt_ok e2
  subst h2
  obtain ⟨es, hes⟩ : ∃ es, d = .lst es := by cases d <;> first | exact ⟨_, rfl⟩ | (cases ev; done)
  subst hes
  · by_cases hc : (newL ie && !decide (i ∈ lost ie (.lst es)) && decide (ds.length + es.length ≤ 1000000)) = true
    · simp only [if_pos hc] at ev
      obtain ⟨h1, h2⟩ := pure_ok ev
      cases h1
      subst h2
      simp only [Bool.and_eq_true, Bool.not_eq_true', decide_eq_false_iff_not, decide_eq_true_eq] at hc
      obtain ⟨⟨hnew, hni⟩, hz⟩ := hc
      obtain ⟨q, vs, s1, o1, p1, r1⟩ := I.ownAt ho
      refine ⟨.ref q, s1, .inl ⟨rfl, vs, SqL.of p1⟩, F, own, ph, ρ, μ, .lst es, _, hK, I, e1, fun ph' w H' I' g V0 => ?_⟩
      obtain ⟨q', vs', s1', o1', p1', r1'⟩ := I'.ownAt ho
      cases same_at s1 s1'
      obtain ⟨b, zs, rfl, hb, hB, hn, rz⟩ := V0.new hnew es rfl
      refine ⟨q, b, vs', zs, rfl, rfl, p1', hB, Nat.le_trans (by rw [r1'.length, rz.length]; exact hz) million, k (owns own (lost ie (.lst es))) ph' σ _ ?_⟩
      refine (I'.thaw (lost ie (.lst es))).updO (x := i) (by unfold owns; rw [if_neg hni]; exact o1') s1 p1' ?_
      refine (r1'.weaken fun a z => av_mono (av_owns.mp z)).append ?_
      by_cases hf : (D.lst es).flat = true
      · exact Reps.scal hf rz
      · have e1 : lost ie (.lst es) = lk ie := by
          unfold lost
          rw [if_neg]
          intro z
          simp only [D.sc, Bool.false_or, Bool.and_eq_true] at z
          exact hf z.2
        rw [e1]
        exact rz.weaken fun a z => .inl (av_owns.mp z)
    · simp only [if_neg hc] at ev
      cases ev
theorem ss_setIdx {kx : Expr} {ik : IE} (h : SE X cl e ie) (hk : SE X cl kx ik) (hN : X.N[i]? = some x) (hv : Vis X.env.scope x) (hd : (x == ("__debug__" : Str)) = false) (hcd : (x == ("__classdict__" : Str)) = false) :
    PS X (.Assign [.Subscript (.Name x px) kx pt] e pos) (tS X.K cl (.setIdx i ik ie)) := by
  have ha : ∀ v, assign (.Subscript (.Name x px) kx pt) X.env v = (do
      let ov ← holding [v] (eval (.Name x px) X.env)
      let iv ← holding [v, ov] (eval kx X.env)
      standAt pt
      holding [v, ov, iv] (setItem ov iv v)
      release [v, ov, iv] []) := by
    intro v
    have := hk.pl
    cases kx <;> first | rfl | (cases this; done)
  have hs : swapsWithSole [.Subscript (.Name x px) kx pt] e pos.line X.env = pure false := by cases e <;> rfl
  refine (ps_asg h.pe (pg_sub (pe_var (pos := px) hN hv hd hcd) hk.pe set_list ha) hs (by cases e <;> rfl) (by rfl)).imp fun E σ H q => ?_
  obtain ⟨F, own, ph, ρ, μ, fl, ρ', μ', hK, I, ev, k⟩ := q
  unfold evS at ev
  obtain ⟨d, μ1, e1, ev⟩ := bind_ok ev
  obtain ⟨jd, μ2, e2, ev⟩ := bind_ok ev
  obtain ⟨ds, μ3, e3, ev⟩ := bind_ok ev
  obtain ⟨ho, h3⟩ := opt_ok e3
  subst h3
  obtain ⟨es, μ4, e4, ev⟩ := bind_ok ev
  obtain ⟨hset, h4⟩ := opt_ok e4
  subst h4
  split at ev
  · rename_i hni
    obtain ⟨h1, h2⟩ := pure_ok ev
    cases h1
    subst h2
    refine ⟨F, own, ph, ρ, μ, d, _, hK, I, e1, fun ph1 w H1 I1 g1 V1 => ?_⟩
    obtain ⟨q, vs, s1, o1, p1, r1⟩ := I1.ownAt ho
    refine ⟨.ref q, s1, F, own, ph1, ρ, _, jd, _, hK, I1, e2, fun ph2 wj H2 I2 g2 V2 => ?_⟩
    obtain ⟨q', vs', s1', o1', p1', r1'⟩ := I2.ownAt ho
    cases same_at s1 s1'
    obtain ⟨n, hn⟩ : ∃ n, jd = .int n := by cases jd <;> first | exact ⟨_, rfl⟩ | (cases hset; done)
    subst hn
    simp only [setD] at hset
    obtain ⟨jj, hj, hes⟩ := Option.map_eq_some_iff.mp hset
    subst hes
    cases V2.rep
    refine ⟨q, vs', n, jj, rfl, rfl, p1', by rw [r1'.length]; exact hj, k (owns own (lost ie d)) ph2 σ _ ?_⟩
    refine (I2.thaw (lost ie d)).updO (x := i) (by unfold owns; rw [if_neg hni]; exact o1') s1 p1' ?_
    exact (r1'.weaken fun a z => av_mono (av_owns.mp z)).set jj ((g2.rep I1.mu (V1.lost I)).weaken fun a z => av_owns.mp z)
  · cases ev
theorem ss_augIdx {kx : Expr} {ik : IE} (h : SE X cl e ie) (hk : SE X cl kx ik) (hN : X.N[i]? = some x) (hv : Vis X.env.scope x) (hd : (x == ("__debug__" : Str)) = false) (hcd : (x == ("__classdict__" : Str)) = false) :
    PS X (.AugAssign (.Subscript (.Name x px) kx pt) .Add e pos) (tS X.K cl (.augIdx i ik ie)) := by
  refine (ps_augS (pe_var (pos := px) hN hv hd hcd) hk.pe get_list h.pe ip_add set_list (plain_aug hk.pl)).imp fun E σ H q => ?_
  obtain ⟨F, own, ph, ρ, μ, fl, ρ', μ', hK, I, ev, k⟩ := q
  unfold evS at ev
  obtain ⟨jd, μ1, e1, ev⟩ := bind_ok ev
  obtain ⟨ds, μ2, e2, ev⟩ := bind_ok ev
  obtain ⟨ho, h2⟩ := opt_ok e2
  subst h2
  obtain ⟨ad, μ3, e3, ev⟩ := bind_ok ev
  obtain ⟨hix, h3⟩ := opt_ok e3
  subst h3
  obtain ⟨bd, μ4, e4, ev⟩ := bind_ok ev
  obtain ⟨e5, h4⟩ := opt_ok ev
  subst h4
  obtain ⟨q, vs, s1, o1, p1, r1⟩ := I.ownAt ho
  refine ⟨.ref q, s1, F, own, ph, ρ, μ, jd, _, hK, I, e1, fun ph1 w H1 I1 g1 V1 => ?_⟩
  obtain ⟨q', vs1, s1', o1', p1', r1'⟩ := I1.ownAt ho
  cases same_at s1 s1'
  cases jd <;> simp only [idxD] at hix <;> try (cases hix; done)
  cases ad <;> cases bd <;> simp only at e5 <;> try (cases e5; done)
  obtain ⟨es, hset, hes⟩ := Option.map_eq_some_iff.mp e5
  cases hes
  simp only [setD] at hset
  obtain ⟨jj, hj, hes⟩ := Option.map_eq_some_iff.mp hset
  subst hes
  cases V1.rep
  obtain ⟨av, hav, rav⟩ := r1'.atI hix
  cases rav
  refine ⟨q, vs1, _, _, rfl, rfl, SqL.of p1', hav, F, own, ph1, ρ, _, _, _, hK, I1, e4, fun ph2 w2 H2 I2 g2 V2 => ?_⟩
  cases V2.rep
  obtain ⟨q', vs2, s2', o2', p2', r2'⟩ := I2.ownAt ho
  cases same_at s1 s2'
  refine ⟨_, _, rfl, rfl, q, vs2, _, jj, rfl, rfl, p2', by rw [r2'.length]; exact hj, k own ph2 σ _ ?_⟩
  exact I2.updO (x := i) o2' s1 p2' (r2'.set jj (.int _))
end
end Ev

set_option Elab.async false
set_option linter.all false
set_option maxRecDepth 100000
set_option maxHeartbeats 4000000
namespace Ev
open PySem L2 PyProof.Rows
section
variable {X : Cx} {cl : Calls} {a b c e : Expr} {ia ib ic ie : IE} {pos p px py pt apos cpos : Pos} {st : Stmt} {rest : List Stmt} {s : IS} {ss ss' : ISs} {i j : Nat} {x y : Str}
theorem par_sw {kt k2 : Nat} {pt2 : Pos} (hb : X.env.blockKind = .function) (hx : X.env.scope.names.lookup x = some .local) (hy : X.env.scope.names.lookup y = some .local) (hl : (py.line == px.line) = true) (hne : x ≠ y) (ha : plainX a = true) (hbp : plainX b = true)
    (hf : (foldedForSure 8 a && foldedForSure 8 b) = false) (hc : (constantsAlone 8 a && constantsAlone 8 b) = false) :
    swappedStores [.Tuple [.Name x px, .Name y py] kt pt] (.Tuple [a, b] k2 pt2) X.env = pure (some [x, y]) := by
  have hx' : (X.env.kindOf x == some .local) = true := by
    have : X.env.kindOf x = some .local := hx
    rw [this]; rfl
  have hy' : (X.env.kindOf y == some .local) = true := by
    have : X.env.kindOf y = some .local := hy
    rw [this]; rfl
  have hst : ∀ {e : Expr}, plainX e = true → (match e with | .Starred .. => true | _ => false) = false := fun {e} h => by cases e <;> first | rfl | (cases h; done)
  have hst' : ([a, b].any fun e => match e with | .Starred .. => true | _ => false) = false := by
    simp only [List.any_cons, List.any_nil, hst ha, hst hbp, Bool.or_false]
  have hd : ([x, y] : List Str).eraseDups.length = 2 := by
    have : (y == x) = false := by simpa using fun z => hne z.symm
    simp [List.eraseDups_cons, this]
  have h1 : (!(2 == 2 || 2 == 3) || (2 : Nat) != 2 || X.env.blockKind != .function) = false := by rw [hb]; rfl
  have h2 : ([a, b].all (foldedForSure 8)) = false := by simpa using hf
  have h3 : ([a, b].all (constantsAlone 8)) = false := by simpa using hc
  have hn : (X.env.blockKind != .function) = false := by rw [hb]; rfl
  unfold swappedStores
  simp only [List.length_cons, List.length_nil, hn]
  simp only [Nat.reduceAdd, bne_self_eq_false, beq_self_eq_true, Bool.true_or, Bool.not_true, Bool.or_self, if_false]
  have hh : (Option.map (fun x => x.pos.line) [Expr.Name x px, Expr.Name y py].head?).getD 0 = px.line := rfl
  rw [hh]
  rw [if_neg Bool.false_ne_true]
  rw [if_neg (by rw [Bool.not_eq_true]; exact hst')]
  simp only [List.filterMap_cons, List.filterMap_nil, hx', hy', hl, beq_self_eq_true, Bool.and_self, if_true, h2, h3, hd, List.length_cons, List.length_nil]
  rfl
theorem ps_parC {kt k2 : Nat} {pt2 : Pos} {ta : TA} (hc : X.calm = true) (hN : X.N.Nodup) (hi : X.N[i]? = some x) (hj : X.N[j]? = some y) (hx : Loc X.env.scope x) (hfx : X.fn x = true ∨ X.env.scope.names.lookup x = some .local) (hy : Loc X.env.scope y) (hfy : X.fn y = true ∨ X.env.scope.names.lookup y = some .local) (ha : PA X [a, b] ta)
    (hw : swappedStores [.Tuple [.Name x px, .Name y py] kt pt] (.Tuple [a, b] k2 pt2) X.env = pure none)
    (hs : swapsWithSole [.Tuple [.Name x px, .Name y py] kt pt] (.Tuple [a, b] k2 pt2) pos.line X.env = pure false := by rfl) :
    PS X (.Assign [.Tuple [.Name x px, .Name y py] kt pt] (.Tuple [a, b] k2 pt2) pos) (tPar i j ta) := by
  refine ⟨fun pins s σ H D I h => ?_⟩
  refine wpAny_Assign_stores (Tuple_ (thn (ha.run _ pins s σ H _ I h) fun us s1 ⟨vs, H1, I1, r1, q1⟩ => ?_)) hs hw
  obtain ⟨v, w, e1, q1⟩ := q1
  subst e1
  obtain ⟨u1, u2, rfl, rv, rw'⟩ : ∃ u1 u2, us = [u1, u2] ∧ RelV v u1 ∧ RelV w u2 := by
    cases r1 with
    | cons p q =>
      cases q with
      | cons p' q' =>
        cases q'
        exact ⟨_, _, rfl, p, p'⟩
  refine wpAny_newObj_type ?_ (by show 2 ≤ sizeLine; decide)
  have I2 : Inv X pins σ H1 { s1 with heap := s1.heap.push { cls := .type "tuple", data := .seq [u1, u2].toArray } } := I1.kept (t' := s1.toks) fun b o e => Heap.get?_push_of_some _ e
  show wpAny (model X.prog X.w) X.A (assign (.Tuple [.Name x px, .Name y py] kt pt) X.env (.ref s1.heap.objs.size)) _ _ _
  refine assign_Tuple_tuple (items := #[u1, u2]) (I.ok.hd hc) (IsTup.new s1.heap _) rfl rfl fun h' hx' => ?_
  have I3 := I2.kept (h' := h') (t' := s1.toks) fun b o e => hx' b o (Nat.ne_of_lt (Heap.lt_size e)) e
  have G : PGs X [.Name x px, .Name y py] (gCons (gName i) (gCons (gName j) gNil)) := pgs_cons (pg_name hN hi hx hfx) (pgs_cons (pg_name hN hj hy hfy) pgs_nil)
  refine thn (G.run pins _ σ H1 [v, w] [u1, u2] (fun σ' H' => D.nx σ' H') I3 (.cons rv (.cons rw' .nil)) ⟨v, [w], rfl, w, [], rfl, rfl, q1⟩) fun _ s2 q => q
theorem par_swC {kt k2 : Nat} {pt2 : Pos} (h : (X.env.kindOf x == some .local && X.env.kindOf y == some .local) = false) : swappedStores [.Tuple [.Name x px, .Name y py] kt pt] (.Tuple [a, b] k2 pt2) X.env = pure none := by
  unfold swappedStores
  simp only [List.length_cons, List.length_nil]
  split
  · rfl
  · split
    · rfl
    · have hh : (Option.map (fun x => x.pos.line) [Expr.Name x px, Expr.Name y py].head?).getD 0 = px.line := rfl
      rw [hh]
      cases h1 : (X.env.kindOf x == some .local) with
      | false =>
        simp only [List.filterMap_cons, List.filterMap_nil, h1, Bool.false_and, Bool.false_eq_true, if_false]
        cases h2 : (X.env.kindOf y == some .local && py.line == px.line) with
        | false =>
          simp only [Bool.false_eq_true, if_false]
          rfl
        | true =>
          simp only [if_true]
          rfl
      | true =>
        have h2 : (X.env.kindOf y == some .local) = false := by rw [h1, Bool.true_and] at h; exact h
        simp only [List.filterMap_cons, List.filterMap_nil, h1, h2, Bool.false_and, Bool.true_and, beq_self_eq_true, Bool.false_eq_true, if_false, if_true]
        rfl
theorem bindTo_flag {ρ : Env} {e : IE} {d : D} {b : Bool} (h : (newL e && d.isL) = b) : bindTo ρ i e d = (thaw ρ (lost e d)).set i (some (b, d)) := by
  unfold bindTo
  rw [h]
theorem ss_par {kt k2 : Nat} {pt2 : Pos} (ha : SE X cl a ia) (hb : SE X cl b ib) (hc : X.calm = true) (hN : X.N.Nodup) (hi : X.N[i]? = some x) (hj : X.N[j]? = some y) (hij : i ≠ j) (hk : X.env.blockKind = .function)
    (hh : (X.env.scope.names.lookup x = some .local ∧ X.env.scope.names.lookup y = some .local ∧ (py.line == px.line) = true ∧ (foldedForSure 8 a && foldedForSure 8 b) = false ∧ (constantsAlone 8 a && constantsAlone 8 b) = false) ∨
      ((X.env.kindOf x == some .local && X.env.kindOf y == some .local) = false ∧ Loc X.env.scope x ∧ (X.fn x = true ∨ X.env.scope.names.lookup x = some .local) ∧ Loc X.env.scope y ∧ (X.fn y = true ∨ X.env.scope.names.lookup y = some .local))) :
    PS X (.Assign [.Tuple [.Name x px, .Name y py] kt pt] (.Tuple [a, b] k2 pt2) pos) (tS X.K cl (.par i j ia ib)) := by
  have hne : x ≠ y := fun z => by
    subst z
    obtain ⟨l1, e1⟩ := List.getElem?_eq_some_iff.mp hi
    obtain ⟨l2, e2⟩ := List.getElem?_eq_some_iff.mp hj
    exact hij ((List.getElem_inj hN).mp (e1.trans e2.symm))
  have pa := pa_cons ha.pe (pa_cons hb.pe pa_nil (plain_star hb.pl)) (plain_star ha.pl)
  have hP := (Or.elim hh (fun z => ps_par (kt := kt) (k2 := k2) (pt := pt) (pt2 := pt2) (pos := pos) (px := px) (py := py) hc hN hi hj hij z.1 z.2.1 pa (par_sw hk z.1 z.2.1 z.2.2.1 hne ha.pl hb.pl z.2.2.2.1 z.2.2.2.2) rfl) fun z => ps_parC hc hN hi hj z.2.1 z.2.2.1 z.2.2.2.1 z.2.2.2.2 pa (par_swC z.1) rfl)
  refine hP.imp fun E σ H q => ?_
  obtain ⟨F, own, ph, ρ, μ, fl, ρ', μ', hK, I, ev, k⟩ := q
  unfold evS at ev
  obtain ⟨d, μ1, e1, ev⟩ := bind_ok ev
  obtain ⟨f, μ2, e2, ev⟩ := bind_ok ev
  obtain ⟨h1, h2⟩ := pure_ok ev
  cases h1
  subst h2
  refine ⟨F, own, ph, ρ, μ, d, _, hK, I, e1, fun ph1 v H1 I1 g1 V1 => ?_⟩
  have fin : ∀ {own' ph2 w H2}, Stt F own' ph2 (bindTo (bindTo ρ j ib f) i ia d) μ2 ((σ.set j (some w)).set i (some v)) H2 → ∃ v' w', [v, w] = [v', w'] ∧ E.nx ((σ.set i (some v')).set j (some w')) H2 := fun {own' ph2 w H2} S => by
    refine ⟨v, w, rfl, ?_⟩
    rw [List.set_comm _ _ hij]
    exact k _ _ _ _ S
  by_cases hn : (newL ia && d.isL) = true
  · rw [Bool.and_eq_true] at hn
    obtain ⟨ds, hds⟩ : ∃ ds, d = .lst ds := by
      have := hn.2
      cases d <;> first | exact ⟨_, rfl⟩ | (cases this; done)
    subst hds
    obtain ⟨q, vs, hv, hp, hH, hq, r⟩ := V1.new hn.1 ds rfl
    subst hv
    have G := I.guard I1 g1 hp hH hq
    refine ⟨{ F with B := fun a => F.B a ∨ a = q }, own, ph1, ρ, μ1, f, μ2, hK, G, e2, fun ph2 w H2 I2 g2 V2 => ?_⟩
    · obtain ⟨own2, ho, J⟩ := G.bind' I2 g2 (i := j) V2
      refine fin (ph2 := ph2) (own' := fun j' => if j' = i then some q else owns own2 (lost ia (.lst ds)) j') ?_
      have hq2 : H2 q = some (.lst vs) := g2.keep _ _ hH hq
      have T := (J.thaw (lost ia (.lst ds)))
      have hb' : bindTo (bindTo ρ j ib f) i ia (.lst ds) = (thaw (bindTo ρ j ib f) (lost ia (.lst ds))).set i (some (true, .lst ds)) := by
        exact bindTo_flag (by rw [hn.1]; rfl)
      rw [hb']
      refine T.take (i := i) ?_ (fun z => I.bdom q z hp) hq2 ?_
      · cases e0 : F.H0 q with
        | none => rfl
        | some o => exact absurd hp (I.old q o e0)
      · by_cases hfl : (D.lst ds).flat = true
        · exact Reps.scal hfl r
        · have el : lost ia (.lst ds) = lk ia := by
            unfold lost
            rw [if_neg]
            intro z
            simp only [D.sc, Bool.false_or, Bool.and_eq_true] at z
            exact hfl z.2
          rw [el]
          refine g2.repsN I1.mu (fun a' z => ?_) r
          rcases z with z | z
          · rcases av_owns.mp z with z | ⟨j', z1, z2⟩
            · exact .inl (.inl (.inl z))
            · rcases ho j' a' z1 with ⟨z3, _⟩ | z3
              · exact .inl (.inl (.inr ⟨j', z3, z2⟩))
              · exact .inr z3
          · exact .inl (.inr z)
  · have hn' : (newL ia && d.isL) = false := by simpa using hn
    refine ⟨F, own, ph1, ρ, μ1, f, μ2, hK, I1, e2, fun ph2 w H2 I2 g2 V2 => ?_⟩
    obtain ⟨own2, ho, J⟩ := I1.bind' I2 g2 (i := j) V2
    have T := (J.thaw (lost ia d))
    have hb' : bindTo (bindTo ρ j ib f) i ia d = put (thaw (bindTo ρ j ib f) (lost ia d)) i d := by
      exact bindTo_flag hn'
    refine fin (ph2 := ph2) (own' := owns own2 (lost ia d)) ?_
    rw [hb']
    refine T.put (g2.repN I1.mu (fun a' z => ?_) (V1.lost I))
    rcases av_owns.mp z with z | ⟨j', z1, z2⟩
    · exact .inl (.inl z)
    · rcases ho j' a' z1 with ⟨z3, _⟩ | z3
      · exact .inl (.inr ⟨j', z3, z2⟩)
      · exact .inr z3
theorem ss_swap2 {k1 k2 : Expr} {ik1 ik2 : IE} {pt1 pt2 px2 ptt : Pos} {kt kv : Nat} (ha : SE X cl a ia) (hb : SE X cl b ib) (h1 : SE X cl k1 ik1) (h2 : SE X cl k2 ik2) (hc : X.calm = true) (hN : X.N[i]? = some x) (hv : Vis X.env.scope x) (hd : (x == ("__debug__" : Str)) = false) (hcd : (x == ("__classdict__" : Str)) = false) :
    PS X (.Assign [.Tuple [.Subscript (.Name x px) k1 pt1, .Subscript (.Name x px2) k2 pt2] kt ptt] (.Tuple [a, b] kv pt) pos) (tS X.K cl (.swap2 i ik1 ik2 ia ib)) := by
  have as : ∀ {kx : Expr} {px pt : Pos}, plainX kx = true → ∀ v, assign (.Subscript (.Name x px) kx pt) X.env v = (do
      let ov ← holding [v] (eval (.Name x px) X.env)
      let iv ← holding [v, ov] (eval kx X.env)
      standAt pt
      holding [v, ov, iv] (setItem ov iv v)
      release [v, ov, iv] []) := fun {kx px pt} h v => by
    cases kx <;> first | rfl | (cases h; done)
  have hw : swappedStores [.Tuple [.Subscript (.Name x px) k1 pt1, .Subscript (.Name x px2) k2 pt2] kt ptt] (.Tuple [a, b] kv pt) X.env = pure none := by
    unfold swappedStores
    simp only [List.length_cons, List.length_nil]
    split
    · rfl
    · split
      · rfl
      · rfl
  refine (ps_asg (s_tup (cl := cl) (sa_cons ha (sa_cons hb sa_nil))).pe (pg_tup hc (pgs_cons (pg_sub (pe_var hN hv hd hcd) h1.pe set_list (as h1.pl)) (pgs_cons (pg_sub (pe_var hN hv hd hcd) h2.pe set_list (as h2.pl)) pgs_nil))) rfl hw).imp fun E σ H q => ?_
  obtain ⟨F, own, ph, ρ, μ, fl, ρ', μ', hK, I, ev, k⟩ := q
  unfold evS at ev
  obtain ⟨d1, μ1, e1, ev⟩ := bind_ok ev
  obtain ⟨d2, μ2, e2, ev⟩ := bind_ok ev
  obtain ⟨j1, μ3, e3, ev⟩ := bind_ok ev
  obtain ⟨ds, μ4, e4, ev⟩ := bind_ok ev
  obtain ⟨ho, z⟩ := opt_ok e4
  subst z
  obtain ⟨es, μ5, e5, ev⟩ := bind_ok ev
  obtain ⟨hs1, z⟩ := opt_ok e5
  subst z
  obtain ⟨j2, μ6, e6, ev⟩ := bind_ok ev
  obtain ⟨fs, μ7, e7, ev⟩ := bind_ok ev
  obtain ⟨hs2, z⟩ := opt_ok e7
  subst z
  obtain ⟨hsc, ev⟩ := iteM_ok ev
  rw [Bool.and_eq_true] at hsc
  obtain ⟨z1, z2⟩ := pure_ok ev
  cases z1
  subst z2
  have et : evE F.S (cl F.S) (.tup (.cons ia (.cons ib .nil))) ρ μ = .ok (.tup [d1, d2]) μ2 := by
    have e1' : ∀ (f : D → M D), (evE F.S (cl F.S) ia ρ >>= f) μ = f d1 μ1 := fun f => by
      show M.bnd _ _ _ = _
      unfold M.bnd
      rw [e1]
    have e2' : ∀ (f : D → M D), (evE F.S (cl F.S) ib ρ >>= f) μ1 = f d2 μ2 := fun f => by
      show M.bnd _ _ _ = _
      unfold M.bnd
      rw [e2]
    simp only [evE, evEs, bind_assoc, pure_bind]
    rw [e1', e2']
    rfl
  obtain ⟨n1, hn1⟩ : ∃ n, j1 = .int n := by cases j1 <;> first | exact ⟨_, rfl⟩ | (cases hs1; done)
  obtain ⟨n2, hn2⟩ : ∃ n, j2 = .int n := by cases j2 <;> first | exact ⟨_, rfl⟩ | (cases hs2; done)
  subst hn1 hn2
  simp only [setD] at hs1 hs2
  obtain ⟨jj1, hj1, hes⟩ := Option.map_eq_some_iff.mp hs1
  subst hes
  obtain ⟨jj2, hj2, hfs⟩ := Option.map_eq_some_iff.mp hs2
  subst hfs
  refine ⟨F, own, ph, ρ, μ, _, _, hK, I, et, fun ph1 w H1 I1 g1 V1 => ?_⟩
  cases V1.rep with
  | @tup aa vs _ ht rt =>
    cases rt with
    | @cons v1 _ _ _ r1 rt =>
      cases rt with
      | @cons v2 _ _ _ r2 rt =>
        cases rt
        refine ⟨aa, _, rfl, SqT.of ht, rfl, v1, [v2], rfl, ?_⟩
        obtain ⟨q, vs, s1, o1, p1, ro⟩ := I1.ownAt ho
        refine ⟨.ref q, s1, F, own, ph1, ρ, _, .int n1, _, hK, I1, e3, fun ph2 wj H2 I2 g2 V2 => ?_⟩
        cases V2.rep
        obtain ⟨q', vs2, s2, o2, p2, ro2⟩ := I2.ownAt ho
        cases same_at s1 s2
        refine ⟨q, vs2, n1, jj1, rfl, rfl, p2, by rw [ro2.length]; exact hj1, v2, [], rfl, ?_⟩
        have S := I2.updO (x := i) o2 s1 p2 (ro2.set jj1 (r1.scal hsc.1))
        refine ⟨.ref q, s1, F, own, ph2, _, _, .int n2, _, hK, S, e6, fun ph3 wj3 H3 I3 g3 V3 => ?_⟩
        cases V3.rep
        have ho3 : ownL (ρ.set i (some (true, .lst (ds.set jj1 d1)))) i = some (ds.set jj1 d1) := by
          unfold ownL
          rw [List.getElem?_set_self]
          unfold ownL at ho
          split at ho
          · rename_i hh; exact (List.getElem?_eq_some_iff.mp hh).1
          · cases ho
        obtain ⟨q', vs3, s3, o3, p3, ro3⟩ := I3.ownAt ho3
        cases same_at s1 s3
        refine ⟨q, vs3, n2, jj2, rfl, rfl, p3, by rw [ro3.length]; exact hj2, rfl, ?_⟩
        have S3 := I3.updO (x := i) o3 s1 p3 (ro3.set jj2 (r2.scal hsc.2))
        rw [List.set_set] at S3
        exact k own ph3 σ _ S3
theorem ss_appPop (h : SE X cl e ie) (hN : X.N[i]? = some x) (hv : Vis X.env.scope x) (hd : (x == ("__debug__" : Str)) = false) (hcd : (x == ("__classdict__" : Str)) = false) (hN2 : X.N[j]? = some y) (hv2 : Vis X.env.scope y) (hd2 : (y == ("__debug__" : Str)) = false) (hcd2 : (y == ("__classdict__" : Str)) = false)
    {apos2 cpos2 : Pos} (hline : (apos.endLine == cpos.line) = true) (hline2 : (apos2.endLine == cpos2.line) = true) :
    PS X (.Expr (.Call (.Attribute (.Name x px) "append" apos) [.Call (.Attribute (.Name y py) "pop" apos2) [e] [] cpos2] [] cpos) pos) (tS X.K cl (.appPop i j ie)) := by
  have hp := pe_bm (cpos := cpos2) PySem.F.plainAttrs_list PySem.F.slot_list_pop PySem.F.type_list_pop mt_popAt (pe_var (pos := py) hN2 hv2 hd2 hcd2) (pa_cons h.pe pa_nil (plain_star h.pl)) rfl (few h.pl) hline2 (plain_star h.pl) rfl
  have h0 := ps_expr (pos := pos) (pe_bm PySem.F.plainAttrs_list PySem.F.slot_list_append PySem.F.type_list_append mt_append (pe_var (pos := px) hN hv hd hcd) (pa_cons hp pa_nil (plain_star rfl)) rfl (few rfl) hline (plain_star rfl) rfl) rfl
  refine h0.imp fun E σ H q => ?_
  obtain ⟨F, own, ph, ρ, μ, fl, ρ', μ', hK, I, ev, k⟩ := q
  unfold evS at ev
  obtain ⟨jd, μ1, e1, ev⟩ := bind_ok ev
  obtain ⟨ds, μ2, e2, ev⟩ := bind_ok ev
  obtain ⟨ho, z⟩ := opt_ok e2
  subst z
  obtain ⟨xs, μ3, e3, ev⟩ := bind_ok ev
  obtain ⟨ho2, z⟩ := opt_ok e3
  subst z
  obtain ⟨d, μ4, e4, ev⟩ := bind_ok ev
  obtain ⟨hix, z⟩ := opt_ok e4
  subst z
  obtain ⟨n, hn⟩ : ∃ n, jd = .int n := by cases jd <;> first | exact ⟨_, rfl⟩ | (cases ev; done)
  subst hn
  cases hj : L2.ixN ds.length n with
  | none => simp only [hj] at ev; cases ev
  | some m =>
    simp only [hj] at ev
    obtain ⟨hc, ev⟩ := iteM_ok ev
    simp only [Bool.and_eq_true, bne_iff_ne, ne_eq, decide_eq_true_eq] at hc
    obtain ⟨⟨⟨hsc, hne⟩, hz⟩, hz2⟩ := hc
    obtain ⟨z1, z2⟩ := pure_ok ev
    cases z1
    subst z2
    obtain ⟨qx, vx, sx, ox, px', rx⟩ := I.ownAt ho2
    obtain ⟨qy, vy, sy, oy, py', ry⟩ := I.ownAt ho
    refine ⟨.ref qx, sx, .inl ⟨rfl, vx, SqL.of px'⟩, .ref qy, sy, .inl ⟨rfl, vy, SqL.of py'⟩, F, own, ph, ρ, μ, .int n, _, hK, I, e1, fun ph1 w H1 I1 g1 V1 => ?_⟩
    cases V1.rep
    obtain ⟨qx', vx1, sx1, ox1, px1, rx1⟩ := I1.ownAt ho2
    cases same_at sx sx1
    obtain ⟨qy', vy1, sy1, oy1, py1, ry1⟩ := I1.ownAt ho
    cases same_at sy sy1
    obtain ⟨b1, b2, b3, b4⟩ := ixN_seq hj
    have hdm : ds[m]? = some d := by
      simp only [idxD] at hix
      unfold L2.atI at hix
      rw [hj] at hix
      exact hix
    obtain ⟨v, hvm, rv⟩ := ry1.get hdm
    have hl : vy1.length = ds.length := ry1.length
    have h63 := line63
    have hzz : (ds.length : Int) < 2 ^ 63 := by omega
    refine ⟨qy, vy1, n, m, v, rfl, rfl, py1, by omega, by omega, by rw [hl]; exact b1, hvm, ?_⟩
    have S := I1.updO (x := j) oy1 sy py1 (ry1.erase m)
    have hne' : qx ≠ qy := fun z => hne (I1.oinj i j qx ox1 (by rw [z]; exact oy1))
    refine ⟨qx, vx1, v, rfl, rfl, by rw [upd_ne hne']; exact px1, million' (by rw [rx1.length]; exact hz), ?_⟩
    have hoS : ownL (ρ.set j (some (true, .lst (ds.eraseIdx m)))) i = some xs := by
      unfold ownL at ho2 ⊢
      rw [List.getElem?_set_ne (fun z => hne z.symm)]
      exact ho2
    obtain ⟨qx2, vx2, sx2, ox2, px2, rx2⟩ := S.ownAt hoS
    cases same_at sx sx2
    have e : vx2 = vx1 := by
      rw [upd_ne hne', px1] at px2
      cases px2
      rfl
    subst e
    exact k own ph1 σ _ (S.updO (x := i) ox2 sx px2 (rx2.append (.cons (rv.scal hsc) .nil)))
end
end Ev

set_option Elab.async false
set_option linter.all false
set_option maxRecDepth 100000
set_option maxHeartbeats 4000000
namespace Ev
open PySem L2 PyProof.Rows
/-! ### enumerate of a list or a tuple -/
set_option maxHeartbeats 1000000 in
theorem meets_enum1 {v : Value} {o : Obj} {H : Heap → Prop} (B : Begins v o H) :
    Meets (Builtin.«enumerate.__new__» ⟨[.type "enumerate", v], []⟩) (fun _ R s => H s.heap ∧
      R (.ok (.ret (.ref (s.heap.push o).objs.size))) { s with heap := (s.heap.push o).push { cls := .type "enumerate", data := .fields #[.none, .bool false, .ref s.heap.objs.size, rawInt 0, .none, .none] } }) :=
  .of_wp fun prog w A R s h => by
    obtain ⟨hp, g, d, tk, os⟩ := s; obtain ⟨h1, h⟩ := h
    have hsub := sub_enumerate
    have q1 : ∀ {A' : Around} {E : Value → Shared → Prop} {Q : Value → Shared → Prop}, Q (.ref hp.objs.size) ⟨hp.push o, g, d, tk, os⟩ → wpAny (model prog w) A' (pyIter v) Q E ⟨hp, g, d, tk, os⟩ :=
      fun q => B.iter prog w _ _ ⟨hp, g, d, tk, os⟩ _ h1 q
    wp_walk using q1
    refine wpAny_stack_any fun st => wpAny_pure ?_
    split
    · rename_i c _ _ _ _ _
      cases (c == Value.type "enumerate")
      · wp_walk using q1
        exact ⟨_, rfl, h⟩
      · wp_walk using q1
        exact ⟨_, rfl, h⟩
    · wp_walk using q1
      exact ⟨_, rfl, h⟩
theorem enum_begins1 {prog : Program} {w : World} {A : Around} {E : Value → Shared → Prop} {s : Shared} {v : Value} {o : Obj} {H : Heap → Prop} {Q : Value → Shared → Prop} (B : Begins v o H) (h1 : H s.heap)
    (h : ∀ h', IsEnum h' (s.heap.objs.size + 1) s.heap.objs.size 0 .none → h'.get? s.heap.objs.size = some o → h'.objs.size = s.heap.objs.size + 2 →
      (∀ b o, s.heap.get? b = some o → h'.get? b = some o) → Q (.ref (s.heap.objs.size + 1)) { s with heap := h' }) :
    wpAny (model prog w) A (call (.type "enumerate") [v]) Q E s := by
  refine callType_new PySem.F.called_enumerate (by decide) (PySem.F.typeCall_enumerate_1 _) (PySem.F.newCall_enumerate_1 _) (fun obj => PySem.F.args_object_init_2 obj _) PySem.F.entry_enumerate_new
    (meets_enum1 B) ⟨h1, ?_⟩
  have hz : (s.heap.push o).objs.size = s.heap.objs.size + 1 := Heap.size_push ..
  show _ ∧ _
  rw [hz]
  have he : IsEnum ((s.heap.push o).push { cls := .type "enumerate", data := .fields #[.none, .bool false, .ref s.heap.objs.size, rawInt 0, .none, .none] }) (s.heap.objs.size + 1) s.heap.objs.size 0 .none := by
    have := Heap.get?_push_size (s.heap.push o) (o := { cls := .type "enumerate", data := .fields #[.none, .bool false, .ref s.heap.objs.size, rawInt 0, .none, .none] }) rfl
    rw [hz] at this; exact this
  refine ⟨⟨_, he, rfl⟩, h _ he (Heap.get?_push_of_some _ (Heap.get?_push_size _ B.free)) (by rw [Heap.size_push, hz]) fun b o x => Heap.get?_push_of_some _ (Heap.get?_push_of_some _ x)⟩
def IteA (K : PySem.W.Frag) (k : Bool) (a : Addr) : It :=
  ⟨fun i H => ∃ (xs : List V) (x : V), SqA k K H a xs ∧ xs[i]? = some x, fun i H v H' => ∃ T x, v = .ref T ∧ H T = none ∧ H' = upd H T (.tup [.int (i : Nat), x]) ∧ ∀ xs, SqA k K H a xs → xs[i]? = some x, fun i H => ∃ xs : List V, SqA k K H a xs ∧ xs.length = i⟩
theorem turn_enumA {P : Program} {w : World} {K : PySem.W.Frag} {elts : List Expr} {kk : Nat} {tpos : Pos} {k : Bool} {a e it : Addr} (na : a ≠ it) (hne : e ≠ it) (nea : e ≠ a) :
    Turn P w K (.Tuple elts kk tpos) (IteA K k a) [e, it] e (fun i h => (∃ old, IsEnum h e it ((i : Nat) : Int) old) ∧ ItA k h it a i) where
  mem := by simp
  obj := fun i h st b hb => by
    obtain ⟨⟨old, he⟩, hit⟩ := st
    have e' : b = e ∨ b = it := by simpa using hb
    rcases e' with z | z
    · rw [z]; exact ⟨_, he, fun v q => nomatch q⟩
    · rw [z]; exact hit.ob
  keep := fun i h h' st kp => let ⟨⟨old, he⟩, hi⟩ := st; ⟨⟨old, kp e (by simp) _ he⟩, hi.at fun o q => kp it (by simp) o q⟩
  item := by
    intro X hP hw hK hc i pins s σ H E I hf st hg
    subst hP hw hK
    obtain ⟨⟨old, he⟩, hit⟩ := st
    obtain ⟨xs, x, hq, hx⟩ := hg
    obtain ⟨its, rv, p, _⟩ := Inv.seqA I hq
    obtain ⟨u, hu, ru⟩ := rv.get hx
    have hel : e < s.heap.objs.size := Heap.lt_size he
    have hil : it < s.heap.objs.size := by obtain ⟨_, q, _⟩ := hit.ob; exact Heap.lt_size q
    have l1 : i < its.toArray.size := by rw [List.size_toArray]; exact (List.getElem?_eq_some_iff.mp hu).1
    have hh : (X.A.in1).handled = none := I.ok.hd hc
    refine wpAny_pyNext_enum_itemD (drawsA hh k it a na its.toArray) he ⟨hit, p⟩ l1 hne (by simp [hne, nea]) fun y h' tk hy ho hit' hT hsz hk => ?_
    have hy : its.toArray[i]? = some y := hy
    have hy : its[i]? = some y := by simpa using hy
    rw [hu] at hy
    cases hy
    refine ⟨_, rfl, wpAny_letOwnedTupleGo_enum (s := { s with heap := h', toks := tk + 1 }) ho fun h'' he' sb => ?_⟩
    have hT2 : h''.get? s.heap.objs.size = some { cls := .type "tuple", data := .seq #[.int i tk, u] } := (sb.2 _ (Nat.ne_of_gt hel)).trans hT
    have new : ObjOk X.prog X.w (upd H s.heap.objs.size (.tup [.int (i : Nat), x])) h'' s.heap.objs.size (.tup [.int (i : Nat), x]) :=
      ⟨by show 2 ≤ sizeLine; decide, [.int i tk, u], .cons ⟨_, rfl⟩ (.cons ru .nil), ⟨_, hT2, rfl, _, rfl⟩⟩
    have I1 : Inv X pins σ (upd H s.heap.objs.size (.tup [.int (i : Nat), x])) { s with heap := h'', toks := tk + 1 } :=
      I.turnedNew (ch := [e, it]) (fun b ob hb q => (sb.2 b (fun z => hb (by simp [z]))).trans (hk b ob (fun z => hb (by simp [z])) (fun z => hb (by simp [z])) q)) hf (Nat.le_refl _) new
    refine ⟨.ref s.heap.objs.size, _, I1, rfl, ⟨_, x, rfl, I.hok.fresh (Nat.le_refl _), rfl, fun ys hy => by rw [Inv.seqA_inj I hy hq]; exact hx⟩, ⟨⟨u, ?_⟩, hit'.1.at fun o q => (sb.2 it (Ne.symm hne)).trans q⟩, fun b hb => ?_⟩
    · have e1 : ((i + 1 : Nat) : Int) = (i : Int) + 1 := by omega
      rw [e1]; exact he'
    · have hb' : b < s.heap.objs.size := by
        have e' : b = e ∨ b = it := by simpa using hb
        rcases e' with z | z
        · rw [z]; exact hel
        · rw [z]; exact hil
      rw [upd_ne (Nat.ne_of_lt hb')]
      exact (hf b hb).1
  done := by
    intro X hP hw hK hc i pins s σ H E I hf st hg
    subst hP hw hK
    obtain ⟨⟨old, he⟩, hit⟩ := st
    obtain ⟨xs, hq, hx⟩ := hg
    obtain ⟨its, rv, p, _⟩ := Inv.seqA I hq
    obtain ⟨f0, f1, f2, f3, f4, f5⟩ := hf it (by simp)
    have hl := rv.length
    have hh : (X.A.in1).handled = none := I.ok.hd hc
    have hi : its.toArray.size = i := by rw [List.size_toArray]; omega
    refine wpAny_pyNext_enum_endD (drawsA hh k it a na its.toArray) he (by rw [hi]; exact ⟨hit, p⟩) fun h' eb => ⟨rfl, I.turned (t' := s.toks) (fun b o hb q => eb b o hb q) f0 f1 f3 f4 f5⟩
  self := fun A i s Q E st h => let ⟨⟨_, he⟩, _⟩ := st; wpAny_pyIter_enum he h
def iEnumB (K : PySem.W.Frag) (ta : TA) : TI := fun σ H R => ta σ H fun vs H1 => ∃ k a xs, vs = [.ref a] ∧ SqA k K H1 a xs ∧ R (IteA K k a) H1
section
variable {X : Cx} {cl : Calls} {a b : Expr} {ia ib : IE} {pos p : Pos}
theorem pi_enumB {e : Expr} {ta : TA} {tpos : Pos} {elts : List Expr} {kk : Nat} (hg : Gl X "enumerate") (hm : X.mg "enumerate" = none) (ha : PA X [e] ta) (hs : starEach [e] X.env = [(false, eval e X.env)] := by rfl) :
    PI X (.Tuple elts kk tpos) (.Call (.Name "enumerate" p) [e] [] pos) (iEnumB X.K ta) := by
  refine ⟨fun pins s σ H R I h => ?_⟩
  refine Call_ (ld_blt I hg hm boot_enumerate (PyProof.Rows.callWith_type1 (thn (ha.run pos pins s σ H _ I h) fun us s1 ⟨vs, H1, I1, r1, q1⟩ => ?_) hs rfl))
  obtain ⟨k, a, xs, ex, hq, q⟩ := q1
  subst ex
  cases r1 with
  | cons r rr =>
    cases rr
    cases r
    obtain ⟨its, rv, p', la⟩ := Inv.seqA I1 hq
    refine enum_begins1 (beginsA k a its.toArray) p' fun h' he hit hsz hk => wpAny_pyIter_enum he ?_
    have I2 : Inv X pins σ H1 { s1 with heap := h' } := I1.kept (t' := s1.toks) hk
    refine ⟨s1.heap.objs.size + 1, [s1.heap.objs.size + 1, s1.heap.objs.size], _, _, H1, rfl, I2, turn_enumA (k := k) (Nat.ne_of_lt la) (Nat.succ_ne_self _) (Nat.ne_of_gt (Nat.lt_succ_of_lt la)), ⟨⟨.none, he⟩, ?_⟩, fun b hb => ?_, q⟩
    · cases k with
      | true => exact ⟨_, hit, rfl, rfl⟩
      | false => exact ⟨_, hit, rfl, rfl⟩
    · have e' : b = s1.heap.objs.size + 1 ∨ b = s1.heap.objs.size := by simpa using hb
      have hle : s1.heap.objs.size ≤ b := by
        rcases e' with z | z
        · rw [z]; exact Nat.le_add_right _ _
        · rw [z]; exact Nat.le_refl _
      exact I1.fpOk hle (I1.hok.fresh hle)
theorem iter_enum {K : PySem.W.Frag} {sa : Sa} {c : Addr} {k : Bool} {x : D} {ds : List D} (hx : ∀ {ph : List Addr} {A : Addr → Prop} {H : Hp}, Rep sa ph A H (.ref c) x → ∃ vs, SqA k K H c vs ∧ Reps sa ph A H vs ds) : IterR sa (IteA K k c) [(.ref c, x)] (ds.mapIdx fun k d => .tup [.int (k : Nat), d]) := by
  intro ph A H h
  obtain ⟨vs, hs, r⟩ := hx (h (.ref c, x) (by simp))
  refine ⟨fun i d hd => ?_, _, hs, by rw [r.length, List.length_mapIdx]⟩
  rw [List.getElem?_mapIdx] at hd
  obtain ⟨z, h1, rfl⟩ := Option.map_eq_some_iff.mp hd
  obtain ⟨v, h2, h3⟩ := r.get h1
  refine ⟨⟨_, v, hs, h2⟩, fun z H' yy => ?_⟩
  obtain ⟨T, y, rfl, nT, rfl, f⟩ := yy
  have := f _ hs
  rw [h2] at this
  cases this
  exact .inr ⟨T, _, _, rfl, nT, rfl, rfl, .cons (.int _) (.cons h3 .nil)⟩
theorem si_enum {elts : List Expr} {kk : Nat} {tpos : Pos} (hg : Gl X "enumerate") (hm : X.mg "enumerate" = none) (ha : SE X cl a ia) : SI X cl (.Tuple elts kk tpos) (.Call (.Name "enumerate" p) [a] [] pos) (.enum ia) := by
  have st := plain_star (X := X) (es := []) ha.pl
  refine ⟨(pi_enumB hg hm (pa_cons ha.pe pa_nil st) (by rw [st]; rfl)).imp fun σ H R q => ?_, rfl⟩
  obtain ⟨F, own, ph, ρ, μ, ds, μ', hK, I, ev, k⟩ := q
  unfold evT at ev
  obtain ⟨x, μ1, e1, ev⟩ := bind_ok ev
  obtain ⟨e3, e4⟩ := opt_ok ev
  subst e4
  refine one hK I e1 fun ph2 vx H2 I2 g2 rx => ?_
  cases x <;> simp only at e3 <;> try (cases e3; done)
  · rename_i xs
    cases e3
    cases rx with
    | @tup b vs _ e r =>
      refine ⟨false, b, vs, rfl, SqT.of e, k ph2 H2 _ [(.ref b, .tup xs)] I2 g2 (fun q hq => ?_) ?_⟩
      · rw [List.mem_singleton.mp hq]
        exact .tup e r
      · refine iter_enum (k := false) (fun {ph A H} r => ?_)
        cases r with
        | tup e q => exact ⟨_, SqT.of e, q⟩
  · rename_i xs
    cases e3
    cases rx with
    | @lst b vs _ e n1 n2 r =>
      refine ⟨true, b, vs, rfl, SqL.of e, k ph2 H2 _ [(.ref b, .lst xs)] I2 g2 (fun q hq => ?_) ?_⟩
      · rw [List.mem_singleton.mp hq]
        exact .lst e n1 n2 r
      · refine iter_enum (k := true) (fun {ph A H} r => ?_)
        cases r with
        | lst e _ _ q => exact ⟨_, SqL.of e, q⟩
/-! ### x not in xs -/
theorem op_nin (hu : X.A.units + 64 < cLine) : OpR X (compareOp .NotIn) (fun x y H Q => ∃ d ds, Dp X.K H x d ∧ Dp X.K H y (.list ds) ∧ d.canLay0 = true ∧ PyData.canLayAll0 ds = true ∧ d.depth ≤ 8 ∧ Q (.bl (!ds.any fun z => PyData.eqv z d)) H) := by
  intro pins s σ H x y v u Q I rx ry h
  obtain ⟨d, ds, hd, he, sd, se, sz, q⟩ := h
  obtain ⟨as, r1⟩ := Dp.reads I d x v hd rx
  obtain ⟨bs, r2⟩ := Dp.reads I (.list ds) y u he ry
  refine SeqAt.notIn_list_reads r2 r1 se sd ?_ ⟨.bl _, H, I, rfl, q⟩
  have : min (PyData.depthAll ds) d.depth ≤ d.depth := Nat.min_le_right _ _
  omega
theorem nin_any (x : D) (hx : sh 8 x = true) : ∀ (ds : List D) (n : Nat), n ≤ 8 → ds.all (sh n) = true → ((toPys ds).any fun z => PyData.eqv z (toPy x)) = ds.any fun z => deq z x
  | [], _, _, _ => rfl
  | d :: ds, n, hn, h => by
    rw [List.all_cons, Bool.and_eq_true] at h
    rw [toPys, List.any_cons, List.any_cons, nin_any x hx ds n hn h.2, deq_eqv d x n 8 h.1 hx]
theorem s_nin (hu : X.A.units + 64 < cLine) (ha : SE X cl a ia) (hb : SE X cl b ib) : SE X cl (.Compare a [.NotIn] [b] pos) (.nin ia ib) := by
  have key : ∀ {F : Fx} {own : Nat → Option Addr} {ph : List Addr} {H : Hp} {A1 A2 : Addr → Prop} {vx vy : V} {x y d : D} {Q : VK}, Rep F.sa ph A1 H vx x → Rep F.sa ph A2 H vy y → ninD x y = some d → (∀ t, d = .bl t → Q (.bl t) H) →
      ∃ d ds, Dp X.K H vx d ∧ Dp X.K H vy (.list ds) ∧ d.canLay0 = true ∧ PyData.canLayAll0 ds = true ∧ d.depth ≤ 8 ∧ Q (.bl (!ds.any fun z => PyData.eqv z d)) H := fun {F own ph H A1 A2 vx vy x y d Q} rx ry e hQ => by
    unfold ninD at e
    split at e
    · rename_i ds
      split at e
      · rename_i hs
        rw [Bool.and_eq_true] at hs
        cases e
        obtain ⟨c1, c2⟩ := sh_can x 8 hs.1
        obtain ⟨c3, c4⟩ := shs_can ds 7 hs.2
        refine ⟨toPy x, toPys ds, Rep.dp x vx 8 hs.1 rx, Rep.dp (.lst ds) vy 8 hs.2 ry, c1, c3, c2, hQ _ ?_⟩
        rw [nin_any x hs.1 ds 7 (by decide) hs.2]
      · cases e
    · cases e
  refine ⟨(pe_cmpR (op_nin hu) ha.pe hb.pe (plain_marks hb.pl)).imp fun σ H Q q => ?_, fun _ => (pt_cmpR (op_nin hu) ha.pe hb.pe (plain_marks hb.pl)).imp fun σ H Q q => ?_, rfl, fun z => by cases z⟩
  · obtain ⟨F, own, ph, ρ, μ, d, μ', hK, I, ev, k⟩ := q
    obtain ⟨x, μ1, e1, ev⟩ := bind_ok (show (evE F.S (cl F.S) ia ρ >>= fun x => evE F.S (cl F.S) ib ρ >>= fun y => M.opt (ninD x y)) μ = .ok d μ' by simpa [evE] using ev)
    obtain ⟨y, μ2, e2, ev⟩ := bind_ok ev
    obtain ⟨e3, rfl⟩ := opt_ok ev
    exact two hK I e1 e2 fun ph2 vx vy H2 I2 g2 rx ry => key (F := F) (own := own) rx ry e3 fun t ht => by subst ht; exact k ph2 _ H2 I2 g2 (val0 (.bl _) rfl)
  · obtain ⟨F, own, ph, ρ, μ, t, μ', hK, I, ev, k⟩ := q
    obtain ⟨x, μ1, e1, ev⟩ := bind_ok (show (evE F.S (cl F.S) ia ρ >>= fun x => evE F.S (cl F.S) ib ρ >>= fun y => M.opt (ninD x y)) μ = .ok (.bl t) μ' by simpa [evE] using ev)
    obtain ⟨y, μ2, e2, ev⟩ := bind_ok ev
    obtain ⟨e3, rfl⟩ := opt_ok ev
    exact two hK I e1 e2 fun ph2 vx vy H2 I2 g2 rx ry => key (F := F) (own := own) (Q := fun z H' => ∃ b, z = V.bl b ∧ Q b H') rx ry e3 fun t' ht => by cases ht; exact ⟨t, rfl, k ph2 H2 I2 g2⟩
end
end Ev

set_option Elab.async false
set_option linter.all false
set_option maxRecDepth 100000
set_option maxHeartbeats 4000000
namespace Ev
open PySem L2 PyProof.Rows
section
variable {X : Cx} {cl : Calls} {b : Expr} {ib : IE} {px apos cpos : Pos} {i : Nat} {x : Str}
/-! ### l.count(x), l.index(x) -/
def rCountD (K : PySem.W.Frag) : V → List V → Hp → VK → Prop := fun x xs H Q => ∃ (a : Addr) (y : V) (d : PyData) (ds : List PyData), x = V.ref a ∧ xs = [y] ∧ Dp K H (V.ref a) (.list ds) ∧ Dp K H y d ∧
  SeqAt.shaped (.list ds) = true ∧ SeqAt.shaped d = true ∧ Q (.int (ds.countP fun z => PyData.eqv z d : Nat)) H
theorem mt_countD (hu : X.A.units + 65 < cLine) : MtR X "list.count" (rCountD X.K) := by
  intro pins s σ H x xs v us Q I rx rxs h
  obtain ⟨a, y, d, ds, rfl, rfl, hl, hy, sl, sd, q⟩ := h
  cases rx
  cases rxs with
  | @cons _ uy _ ut ry rt =>
    cases rt
    obtain ⟨bs, r1⟩ := Dp.reads I d y uy hy ry
    have hroom : X.A.units + 1 + min (PyData.depthAll ds) d.depth < cLine := room_in_shaped sd hu
    cases hl with
    | lst hs ha =>
      obtain ⟨its, rv, ⟨⟨cls, dd, data, sls⟩, n, ho, hc, hdn, hdt⟩, hlen⟩ := I.list hs
      simp only at hc hdt
      subst hc hdt
      obtain ⟨as, h4⟩ := Dp.readsAll I ds _ its ha rv
      have hmap : its.map (SeqAt.readOf s.heap) = ds := SeqAt.readsAll_map ds its as (SeqAt.canLay_of_shaped sl) h4
      refine call_meets PySem.F.slot_list_count ⟨_, ho, rfl⟩ PySem.F.entry_list_count (PySem.F.args_list_count_2 _ _) (SeqAt.list_countAt a its.toArray n dd sls uy fun u => PyData.eqv (SeqAt.readOf s.heap u) d)
        ⟨ho, SeqAt.items_eqAt (vs := its.toArray) (show ReadsAll s.heap its.toArray.toList ds as from h4) r1 (SeqAt.canLay_of_shaped sl) (SeqAt.canLay_of_shaped sd) hroom, .int (ds.countP fun z => PyData.eqv z d : Nat), H, I.tok _, ⟨s.toks, ?_⟩, q⟩
      have e : its.toArray.toList.countP (fun u => PyData.eqv (SeqAt.readOf s.heap u) d) = ds.countP fun z => PyData.eqv z d := by
        rw [← hmap, List.countP_map]
        rfl
      rw [e]
theorem toPys_eq (ds : List D) : toPys ds = ds.map toPy := by
  induction ds with
  | nil => rfl
  | cons d ds ih => rw [toPys, ih]; rfl
theorem s_lcount (hu : X.A.units + 66 < cLine) (hN : X.N[i]? = some x) (hv : Vis X.env.scope x) (hd : (x == ("__debug__" : Str)) = false) (hcd : (x == ("__classdict__" : Str)) = false) (hline : (apos.endLine == cpos.line) = true) (hb : SE X cl b ib) :
    SE X cl (.Call (.Attribute (.Name x px) "count" apos) [b] [] cpos) (.lcount i ib) := by
  have h : PE X (.Call (.Attribute (.Name x px) "count" apos) [b] [] cpos) (tE X.K cl (.lcount i ib)) := by
    refine (pe_bm PySem.F.plainAttrs_list PySem.F.slot_list_count PySem.F.type_list_count (mt_countD (by omega)) (s_var (cl := cl) (pos := px) hN hv hd hcd).pe (pa_cons hb.pe pa_nil (plain_star hb.pl)) rfl (few hb.pl) hline (plain_star hb.pl) rfl).imp fun σ H Q q => ?_
    obtain ⟨F, own, ph, ρ, μ, d, μ', hK, I, ev, k⟩ := q
    unfold evE at ev
    obtain ⟨l, μ1, e1, ev⟩ := bind_ok ev
    obtain ⟨e1', e1''⟩ := opt_ok e1
    subst e1''
    obtain ⟨y, μ2, e2, ev⟩ := bind_ok ev
    obtain ⟨e3, rfl⟩ := opt_ok ev
    obtain ⟨ds, rfl⟩ : ∃ ds, l = .lst ds := by
      cases l <;> first | exact ⟨_, rfl⟩ | cases e3
    unfold lcountD at e3
    simp only at e3
    split at e3
    · rename_i hs
      cases e3
      rw [Bool.and_eq_true] at hs
      refine one hK I (x := .lst ds) (μ1 := μ) (by unfold evE; rw [e1']; rfl) fun ph2 vx H2 I2 g2 rx => ?_
      cases rx with
      | @lst aa vs _ q1 n1 n2 r1 =>
        refine ⟨.inl ⟨rfl, vs, SqL.of q1⟩, one hK I2 e2 fun ph3 vy H3 I3 g3 ry => ?_⟩
        have r1' := g3.rep I2.mu (Rep.lst q1 n1 n2 r1)
        have hdl := Rep.dp (K := X.K) (.lst ds) _ 8 hs.2 r1'
        refine ⟨aa, vy, toPy y, toPys ds, rfl, rfl, hdl, Rep.dp y vy 8 hs.1 ry, sh_shaped hs.2, sh_shaped hs.1, ?_⟩
        have e : (toPys ds).countP (fun z => PyData.eqv z (toPy y)) = ds.countP fun z => deq z y := by
          rw [toPys_eq, List.countP_map]
          refine List.countP_congr fun z hz => ?_
          have := deq_eqv z y 7 8 (List.all_eq_true.mp (show ds.all (sh 7) = true from hs.2) z hz) hs.1
          simp only [Function.comp, this]
        rw [e]
        exact k ph3 _ H3 I3 (g2.trans g3) (val0 (.int _) rfl)
    · cases e3
  exact ⟨h, fun _ => pt_of h, rfl, fun z => by cases z⟩
theorem s_lindex (hu : X.A.units + 66 < cLine) (hN : X.N[i]? = some x) (hv : Vis X.env.scope x) (hd : (x == ("__debug__" : Str)) = false) (hcd : (x == ("__classdict__" : Str)) = false) (hline : (apos.endLine == cpos.line) = true) (hb : SE X cl b ib) :
    SE X cl (.Call (.Attribute (.Name x px) "index" apos) [b] [] cpos) (.lindex i ib) := by
  have h : PE X (.Call (.Attribute (.Name x px) "index" apos) [b] [] cpos) (tE X.K cl (.lindex i ib)) := by
    refine (pe_bm PySem.F.plainAttrs_list PySem.F.slot_list_index PySem.F.type_list_index (mt_indexD (by omega)) (s_var (cl := cl) (pos := px) hN hv hd hcd).pe (pa_cons hb.pe pa_nil (plain_star hb.pl)) rfl (few hb.pl) hline (plain_star hb.pl) rfl).imp fun σ H Q q => ?_
    obtain ⟨F, own, ph, ρ, μ, d, μ', hK, I, ev, k⟩ := q
    unfold evE at ev
    obtain ⟨l, μ1, e1, ev⟩ := bind_ok ev
    obtain ⟨e1', e1''⟩ := opt_ok e1
    subst e1''
    obtain ⟨y, μ2, e2, ev⟩ := bind_ok ev
    obtain ⟨e3, rfl⟩ := opt_ok ev
    obtain ⟨ds, rfl⟩ : ∃ ds, l = .lst ds := by
      cases l <;> first | exact ⟨_, rfl⟩ | cases e3
    unfold lindexD at e3
    simp only at e3
    split at e3
    · rename_i hs
      rw [Bool.and_eq_true] at hs
      obtain ⟨j, e4, rfl⟩ := Option.map_eq_some_iff.mp e3
      refine one hK I (x := .lst ds) (μ1 := μ) (by unfold evE; rw [e1']; rfl) fun ph2 vx H2 I2 g2 rx => ?_
      cases rx with
      | @lst aa vs _ q1 n1 n2 r1 =>
        refine ⟨.inl ⟨rfl, vs, SqL.of q1⟩, one hK I2 e2 fun ph3 vy H3 I3 g3 ry => ?_⟩
        have r1' := g3.rep I2.mu (Rep.lst q1 n1 n2 r1)
        have hdl := Rep.dp (K := X.K) (.lst ds) _ 8 hs.2 r1'
        obtain ⟨hj, e5, e6⟩ := List.findIdx?_eq_some_iff_getElem.mp e4
        have hq : ∀ z ∈ ds, PyData.eqv (toPy z) (toPy y) = deq z y := fun z hz => deq_eqv z y 7 8 (List.all_eq_true.mp (show ds.all (sh 7) = true from hs.2) z hz) hs.1
        refine ⟨aa, vy, toPy y, toPys ds, j, toPy ds[j], rfl, rfl, hdl, Rep.dp y vy 8 hs.1 ry, sh_shaped hs.2, sh_shaped hs.1, ?_, ?_, ?_, k ph3 _ H3 I3 (g2.trans g3) (val0 (.int _) rfl)⟩
        · rw [toPys_eq, List.getElem?_map, List.getElem?_eq_getElem hj]
          rfl
        · rw [hq _ (List.getElem_mem hj)]
          exact e5
        · intro m z' hm hz'
          rw [toPys_eq, List.getElem?_map, List.getElem?_eq_getElem (by omega)] at hz'
          cases hz'
          rw [hq _ (List.getElem_mem _)]
          have := e6 m hm
          simpa using this
    · cases e3
  exact ⟨h, fun _ => pt_of h, rfl, fun z => by cases z⟩
end
end Ev

set_option Elab.async false
set_option linter.all false
set_option maxRecDepth 100000
set_option maxHeartbeats 4000000
namespace Ev
open PySem L2 PyProof.Rows
/-! ### instances: attributes, methods -/
def tabF : List Str := ["hands", "how", "past", "calls"]
/-- what the class must have -/
structure TabK0 (K : PySem.W.Frag) (mg : Str → Option Value) : Prop where
  mg : mg "Table" = some (.ref (tabC K))
  cls : Cls K (tabC K)
  noat : ∀ f ∈ tabF, NoAttr K (tabC K) f
  ha : PySem.W.findIn K (.ref (tabC K)) "__class__" = some (some (.builtin "object.__class__"))
  hn : PySem.W.specialIn K (.builtin "object.__class__") "__get__" = some (some (.builtin "getset_descriptor.__get__"))
  htk : PySem.W.takesIn K (.builtin "object.__class__") = some true
  hm : PySem.W.mroIn K (tabC K) (.type "object") = some true
  self : PySem.W.kitOne K (.ref (tabC K)) (.ref (tabC K)) = some true
  str : PySem.W.kitOne K (.type "str") (.ref (tabC K)) = some false
  sub : PySem.W.subIn K (.type "str") (.ref (tabC K)) = some false
abbrev TabK (X : Cx) : Prop := TabK0 X.K X.mg
structure HasMeth (X : Cx) (cl : Calls) (k : Nat) (m : Str) (f np : Nat) (dk : Option (Str × Int)) : Prop where
  ex : ∃ fa fd ps, FnOk X.prog X.w X.K X.mg X.base (L2.CX X.prog X.w) k fa fd ps (spF X.K cl f np) ∧ Meth X.K (tabC X.K) m fa ∧ (dk = none → Binds X.K fd ps []) ∧
    ∀ kw d, dk = some (kw, d) → (∃ ds, Vals [V.int d] ds ∧ Binds X.K fd ps ds) ∧ ∃ n g, np = n + 1 ∧ KBn X.K fd ps n [kw] g (fun vs zs => vs ++ zs)
  len : ∀ S ds μ d μ', cl S f ds μ = .ok d μ' → ds.length = np
/-! what the steps on objects say -/
theorem fldsM_ok {o : D} {fs : List (Str × D)} {μ μ' : Mu} (h : fldsM o μ = .ok fs μ') : ∃ n, o = .mref n ∧ μ[n]? = some (.ins fs) ∧ μ' = μ := by
  cases o with
  | mref n =>
    have h : (match muIns μ n with | some fs => R.ok fs μ | none => R.bad) = .ok fs μ' := h
    unfold muIns at h
    refine ⟨n, rfl, ?_⟩
    cases q : μ[n]? with
    | none => rw [q] at h; cases h
    | some mo =>
      rw [q] at h
      cases mo with
      | lst ds => cases h
      | ins gs => cases h; exact ⟨rfl, rfl⟩
  | _ => cases h
theorem itsM_ok {o : D} {ds : List D} {μ μ' : Mu} (h : itsM o μ = .ok ds μ') : ∃ n, o = .mref n ∧ μ[n]? = some (.lst ds) ∧ μ' = μ := by
  cases o with
  | mref n =>
    have h : (match muLst μ n with | some fs => R.ok fs μ | none => R.bad) = .ok ds μ' := h
    unfold muLst at h
    refine ⟨n, rfl, ?_⟩
    cases q : μ[n]? with
    | none => rw [q] at h; cases h
    | some mo =>
      rw [q] at h
      cases mo with
      | lst ds => cases h; exact ⟨rfl, rfl⟩
      | ins gs => cases h
  | _ => cases h
theorem setM_ok {o : D} {mo : MO} {u : Unit} {μ μ' : Mu} (h : setM o mo μ = .ok u μ') : ∃ n, o = .mref n ∧ μ' = μ.set n mo := by
  cases o with
  | mref n => cases h; exact ⟨n, rfl, rfl⟩
  | _ => cases h
theorem fldM_ok {o : D} {x : Str} {d : D} {μ μ' : Mu} (h : fldM o x μ = .ok d μ') : ∃ n fs, o = .mref n ∧ μ[n]? = some (.ins fs) ∧ fs.lookup x = some d ∧ μ' = μ := by
  unfold fldM at h
  obtain ⟨fs, μ1, e1, h⟩ := bind_ok h
  obtain ⟨n, h1, h2, h3⟩ := fldsM_ok e1
  obtain ⟨h4, h5⟩ := opt_ok h
  exact ⟨n, fs, h1, h2, h4, h5.symm.trans h3⟩
theorem noFld_ok {o : D} {x : Str} {u : Unit} {μ μ' : Mu} (h : noFld o x μ = .ok u μ') : ∃ n fs, o = .mref n ∧ μ[n]? = some (.ins fs) ∧ fs.lookup x = none ∧ μ' = μ := by
  unfold noFld at h
  obtain ⟨fs, μ1, e1, h⟩ := bind_ok h
  obtain ⟨n, h1, h2, h3⟩ := fldsM_ok e1
  obtain ⟨h4, h5⟩ := iteM_ok h
  exact ⟨n, fs, h1, h2, Option.isNone_iff_eq_none.mp h4, (pure_ok h5).2.symm.trans h3⟩
theorem setFld_ok {o : D} {x : Str} {d : D} {u : Unit} {μ μ' : Mu} (h : setFld o x d μ = .ok u μ') : ∃ n fs, o = .mref n ∧ μ[n]? = some (.ins fs) ∧ nol d = true ∧ fs.length < 1000 ∧ μ' = μ.set n (.ins (putFd x d fs)) := by
  unfold setFld at h
  obtain ⟨fs, μ1, e1, h⟩ := bind_ok h
  obtain ⟨n, h1, h2, h3⟩ := fldsM_ok e1
  obtain ⟨h4, h5⟩ := iteM_ok h
  obtain ⟨n', h6, h7⟩ := setM_ok h5
  rw [h1] at h6
  cases h6
  rw [Bool.and_eq_true] at h4
  exact ⟨n, fs, h1, h2, h4.1, of_decide_eq_true h4.2, by rw [h7, h3]⟩
section
variable {sa : Sa} {ph : List Addr} {A A' : Addr → Prop} {H : Hp}
mutual
theorem Rep.nol : ∀ (d : D) (v : V), nol d = true → Rep sa ph A H v d → Rep sa ph A' H v d
  | .non, _, _, r => by cases r; exact .non
  | .bl b, _, _, r => by cases r; exact .bl b
  | .int b, _, _, r => by cases r; exact .int b
  | .str b, _, _, r => by cases r; exact .str b
  | .tup ds, _, h, r => by
    cases r with
    | tup e q => exact .tup e (Reps.nol ds _ h q)
  | .lst _, _, h, _ => by cases h
  | .scr, _, h, _ => by cases h
  | .mref n, _, _, r => by
    cases r with
    | mref e => exact .mref e
theorem Reps.nol : ∀ (ds : List D) (vs : List V), nols ds = true → Reps sa ph A H vs ds → Reps sa ph A' H vs ds
  | [], _, _, r => by cases r; exact .nil
  | d :: ds, _, h, r => by
    unfold nols at h
    rw [Bool.and_eq_true] at h
    cases r with
    | cons a b => exact .cons (Rep.nol d _ h.1 a) (Reps.nol ds _ h.2 b)
end
theorem fs_none {m : Str} : ∀ {gs : List (Str × V)} {fs : List (Str × D)}, gs.map (·.1) = fs.map (·.1) → fs.lookup m = none → gs.lookup m = none
  | [], _, _, _ => rfl
  | (g, v) :: gs, [], e, _ => by simp at e
  | (g, v) :: gs, (f, d) :: fs, e, h => by
    simp only [List.map_cons, List.cons.injEq] at e
    obtain ⟨e1, e2⟩ := e
    subst e1
    rw [List.lookup_cons] at h ⊢
    split at h
    · cases h
    · exact fs_none e2 h
theorem fs_some {m : Str} {d : D} : ∀ {gs : List (Str × V)} {fs : List (Str × D)}, gs.map (·.1) = fs.map (·.1) → Reps sa ph A H (gs.map (·.2)) (fs.map (·.2)) → fs.lookup m = some d → ∃ v, gs.lookup m = some v ∧ Rep sa ph A H v d
  | [], [], _, _, h => by cases h
  | [], _ :: _, e, _, _ => by simp at e
  | (g, v) :: gs, [], e, _, _ => by simp at e
  | (g, v) :: gs, (f, d') :: fs, e, r, h => by
    simp only [List.map_cons, List.cons.injEq] at e
    obtain ⟨e1, e2⟩ := e
    subst e1
    cases r with
    | cons r1 r2 =>
      rw [List.lookup_cons] at h ⊢
      split at h
      · cases h; exact ⟨v, rfl, r1⟩
      · exact fs_some e2 r2 h
theorem fs_put {x : Str} {v : V} {d : D} (rv : Rep sa ph A H v d) : ∀ {gs : List (Str × V)} {fs : List (Str × D)}, gs.map (·.1) = fs.map (·.1) → Reps sa ph A H (gs.map (·.2)) (fs.map (·.2)) →
    (putF x v gs).map (·.1) = (putFd x d fs).map (·.1) ∧ Reps sa ph A H ((putF x v gs).map (·.2)) ((putFd x d fs).map (·.2))
  | [], [], _, _ => ⟨rfl, .cons rv .nil⟩
  | [], _ :: _, e, _ => by simp at e
  | (g, w) :: gs, [], e, _ => by simp at e
  | (g, w) :: gs, (f, d') :: fs, e, r => by
    simp only [List.map_cons, List.cons.injEq] at e
    obtain ⟨e1, e2⟩ := e
    subst e1
    cases r with
    | cons r1 r2 =>
      unfold putF putFd
      split
      · exact ⟨by simp [e2], .cons rv r2⟩
      · obtain ⟨q1, q2⟩ := fs_put (x := x) rv e2 r2
        exact ⟨by simp [q1], .cons r1 q2⟩
end
section
variable {F : Fx} {own : Nat → Option Addr} {ph : List Addr} {ρ : Env} {μ : Mu} {σ : L2.St} {H : Hp}
/-- the instance behind a reference -/
theorem Stt.insAt {A : Addr → Prop} {v : V} {n : Nat} {fs : List (Str × D)} (I : Stt F own ph ρ μ σ H) (r : Rep F.sa ph A H v (.mref n)) (hm : μ[n]? = some (.ins fs)) :
    ∃ a dx gs, v = .ref a ∧ ph[n]? = some a ∧ H a = some (.ins F.sa.C dx gs) ∧ gs.map (·.1) = fs.map (·.1) ∧ Reps F.sa ph (fun _ => True) H (gs.map (·.2)) (fs.map (·.2)) := by
  cases r with
  | mref e =>
    obtain ⟨dx, gs, h1, h2, h3⟩ := (show MoR F.sa ph H _ (.ins fs) from I.mu.mo n _ _ e hm)
    exact ⟨_, dx, gs, rfl, e, h1, h2, h3⟩
theorem Stt.lstAt {A : Addr → Prop} {v : V} {n : Nat} {ds : List D} (I : Stt F own ph ρ μ σ H) (r : Rep F.sa ph A H v (.mref n)) (hm : μ[n]? = some (.lst ds)) :
    ∃ a vs, v = .ref a ∧ ph[n]? = some a ∧ H a = some (.lst vs) ∧ Reps F.sa ph (fun _ => True) H vs ds := by
  cases r with
  | mref e =>
    obtain ⟨vs, h1, h2⟩ := (show MoR F.sa ph H _ (.lst ds) from I.mu.mo n _ _ e hm)
    exact ⟨_, vs, rfl, e, h1, h2⟩
theorem Stt.tc {K : PySem.W.Frag} (I : Stt F own ph ρ μ σ H) (hK : F.K = K) : F.sa.C = tabC K := by rw [← hK]; exact I.scr.1
end
section
variable {X : Cx} {cl : Calls} {i : Nat} {x y m : Str} {px apos pos cpos p : Pos} {e b : Expr} {es : List Expr} {ie ib : IE} {ies : IEs}
/-- e.f -/
theorem s_fld (T : TabK X) (hx : y ∈ tabF) (hN : X.N[i]? = some x) (hv : Vis X.env.scope x) (hd : (x == ("__debug__" : Str)) = false) (hcd : (x == ("__classdict__" : Str)) = false) : SE X cl (.Attribute (.Name x px) y pos) (.fld i y) := by
  have h : PE X (.Attribute (.Name x px) y pos) (tE X.K cl (.fld i y)) := by
    refine (pe_fld (s_var (cl := cl) (pos := px) hN hv hd hcd).pe rfl).imp fun σ H Q q => ?_
    obtain ⟨F, own, ph, ρ, μ, d, μ', hK, I, ev, k⟩ := q
    unfold evE at ev
    obtain ⟨o, μ1, e1, ev⟩ := bind_ok ev
    obtain ⟨e1', e1''⟩ := opt_ok e1
    subst e1''
    obtain ⟨n, fs, h1, h2, h3, h4⟩ := fldM_ok ev
    subst h1 h4
    refine one hK I (x := .mref n) (μ1 := μ') (by unfold evE; rw [e1']; rfl) fun ph2 vx H2 I2 g2 rx => ?_
    obtain ⟨a, dx, gs, q1, q2, q3, q4, q5⟩ := I2.insAt rx h2
    obtain ⟨v, q6, q7⟩ := fs_some q4 q5 h3
    refine ⟨a, F.sa.C, dx, gs, v, q1, q3, I2.tc hK ▸ T.cls, I2.tc hK ▸ T.noat y hx, q6, k ph2 v H2 I2 g2 ⟨q7.weaken fun _ _ => trivial, fun z => by cases z⟩⟩
  exact ⟨h, fun _ => pt_of h, rfl, fun z => by cases z⟩
end
end Ev

set_option Elab.async false
set_option linter.all false
set_option maxRecDepth 100000
set_option maxHeartbeats 4000000
namespace Ev
open PySem L2 PyProof.Rows
/-! ### calls of methods -/
theorem mcall {M : Model} {A : Around} {E : Value → Shared → Prop} {s : Shared} {env : PySem.Env} {x m : Str} {px apos pos : Pos} {args : List Expr} {kws : List Keyword} {Q : Value → Shared → Prop}
    (hform : methodCallForm (args.length + kws.length) (backTo pos (starEach args env)) (backToKw pos (keywordEach kws env)) = true) (hline : (apos.endLine == pos.line) = true)
    (h : wpAny M A (eval (.Name x px) env) (fun ov s1 => wpAny M A (getMethod ov m (do return (← importBound (.Name x px) env).getD true)) (fun fx s2 => wpAny M A (callWith pos fx.1 fx.2 (backTo pos (starEach args env)) (backToKw pos (keywordEach kws env))) Q E s2) E s1) E s) :
    wpAny M A (eval (.Call (.Attribute (.Name x px) m apos) args kws pos) env) Q E s := by
  rw [arm_eval_Call]
  refine wpAny_bind (wpAny_mono (show wpAny M A (attributeBase (.Name x px) m env (eval (.Name x px) env)) _ E s from h) (fun ov s1 h1 => wpAny_bind (wpAny_standAt ?_)) fun _ _ z => z)
  unfold methodCall
  rw [hform]
  have hpos : methodCallPos true (.Name x px) env apos pos = pure pos := by unfold methodCallPos; simp [hline]
  refine wpAny_bind (wpAny_holding (wpAny_mono (show wpAny M A (calleeOf true (.Name x px) env ov m) _ E s1 from h1) (fun fx s2 h2 => ?_) fun _ _ z => z))
  exact wpAny_bind (wpAny_of_eq hpos h2)
theorem mform {X : Cx} {es : List Expr} {pos : Pos} (hp : es.all plainX = true) (hl : es.length < 20) : methodCallForm (es.length + ([] : List Keyword).length) (backTo pos (starEach es X.env)) (backToKw pos (keywordEach [] X.env)) = true := by
  have h1 : (backTo pos (starEach es X.env)).any (·.1) = false := noStars hp pos
  have h2 : (backTo pos (starEach es X.env)).all (!·.1) = true := by
    rw [List.all_eq_true]
    intro z hz
    have := (List.any_eq_false.mp h1) z hz
    simpa using this
  unfold methodCallForm
  rw [h2]
  show decide (es.length + 0 + 0 < 30) = true
  exact decide_eq_true (by omega)
theorem mformK {X : Cx} {es : List Expr} {pos kp : Pos} {kw : Str} {b : Expr} (hp : es.all plainX = true) (hl : es.length < 20) : methodCallForm (es.length + ([⟨some kw, b, kp⟩] : List Keyword).length) (backTo pos (starEach es X.env)) (backToKw pos (keywordEach [⟨some kw, b, kp⟩] X.env)) = true := by
  have h1 : (backTo pos (starEach es X.env)).any (·.1) = false := noStars hp pos
  have h2 : (backTo pos (starEach es X.env)).all (!·.1) = true := by
    rw [List.all_eq_true]
    intro z hz
    have := (List.any_eq_false.mp h1) z hz
    simpa using this
  unfold methodCallForm
  rw [h2]
  show decide (es.length + 1 + 1 < 30) = true
  exact decide_eq_true (by omega)
section
variable {X : Cx} {CX : CXT} {k n : Nat} {f C : Addr} {fd : FuncData} {ps ks : List Str} {sp : Sp} {dvs : List V} {ds : List Value} {E : L2.St → XK} {m : Str} {pos apos px kp : Pos} {e b : Expr} {es : List Expr} {ta tb : TE} {t tk : TA} {x kw : Str} {kws : List Keyword}
def tMt (C : Addr) (m : Str) (sp : Sp) (dvs : List V) (E : L2.St → XK) (ta : TE) (t : TA) : TE := fun σ H Q => ta σ H fun x H1 => ∃ a dx fs, x = .ref a ∧ H1 a = some (.ins C dx fs) ∧ fs.lookup m = none ∧ t σ H1 fun vs H2 => sp (x :: (vs ++ dvs)) H2 Q (E σ)
theorem pe_mt (he : PE X (.Name x px) ta) (c : Cls X.K C) (hm : Meth X.K C m f) (F : FnOk X.prog X.w X.K X.mg X.base CX k f fd ps sp) (hr : Room k X.A) (hb : Binds X.K fd ps ds) (hd : Vals dvs ds) (hx : ∀ σ, PassesAt CX X σ (E σ)) (ha : PA X (e :: es) t) (hp : (e :: es).all plainX = true) (hl : (e :: es).length < 20) (hline : (apos.endLine == pos.line) = true) :
    PE X (.Call (.Attribute (.Name x px) m apos) (e :: es) [] pos) (tMt C m sp dvs E ta t) := by
  have hform := mform (X := X) (pos := pos) hp hl
  rw [List.all_cons, Bool.and_eq_true] at hp
  refine ⟨fun pins s σ H Q I h => ?_⟩
  refine mcall hform hline (thn (he.run pins s σ H _ I h) fun u s1 z => ?_)
  obtain ⟨x, H1, I1, rx, a, dx, fs, ex, ea, l, q⟩ := z
  subst ex
  obtain rfl : u = Value.ref a := rx
  refine getmeth_ok I1 ea c hm l ?_
  refine PySem.W.callWith_K (first := [.ref a]) (h₀ := X.base) I.ok.mod.kin hm.kp (thn (ha.run pos pins s1 σ H1 _ I1 q) fun us s2 ⟨vs, H2, I2, r, q2⟩ => ⟨I2.kIn, ?_⟩) (plain_star hp.1) (noStars hp.2 pos)
  exact run_fnSD (us := .ref a :: us) (vs := .ref a :: vs) F hr hb hd (hx σ) I2 (.cons rfl r) q2
theorem pe_mt0 (he : PE X (.Name x px) ta) (c : Cls X.K C) (hm : Meth X.K C m f) (F : FnOk X.prog X.w X.K X.mg X.base CX k f fd ps sp) (hr : Room k X.A) (hb : Binds X.K fd ps ds) (hd : Vals dvs ds) (hx : ∀ σ, PassesAt CX X σ (E σ)) (hline : (apos.endLine == pos.line) = true) :
    PE X (.Call (.Attribute (.Name x px) m apos) [] [] pos) (tMt C m sp dvs E ta tNil) := by
  refine ⟨fun pins s σ H Q I h => ?_⟩
  refine mcall rfl hline (thn (he.run pins s σ H _ I h) fun u s1 z => ?_)
  obtain ⟨x, H1, I1, rx, a, dx, fs, ex, ea, l, q⟩ := z
  subst ex
  obtain rfl : u = Value.ref a := rx
  refine getmeth_ok I1 ea c hm l ?_
  exact PySem.W.callWith_K0 (first := [.ref a]) I1.kIn hm.kp (run_fnSD (us := [.ref a]) (vs := [.ref a]) F hr hb hd (hx σ) I1 (.cons rfl .nil) q)
def tMtK (C : Addr) (m : Str) (n nk : Nat) (sp : Sp) (E : L2.St → XK) (ta : TE) (t tk : TA) : TE := fun σ H Q => ta σ H fun x H1 => ∃ a dx fs, x = .ref a ∧ H1 a = some (.ins C dx fs) ∧ fs.lookup m = none ∧
  t σ H1 fun vs H2 => tk σ H2 fun zs H3 => (x :: vs).length = n ∧ zs.length = nk ∧ sp ((x :: vs) ++ zs) H3 Q (E σ)
theorem pe_mtK {g : List Value → List Value → List Value} (he : PE X (.Name x px) ta) (c : Cls X.K C) (hm : Meth X.K C m f) (F : FnOk X.prog X.w X.K X.mg X.base CX k f fd ps sp) (hr : Room k X.A) (hb : KBn X.K fd ps n ks g (fun vs zs => vs ++ zs)) (hx : ∀ σ, PassesAt CX X σ (E σ))
    (ha : PA X (e :: es) t) (hkw : PK X kws tk) (hall : (backToKw pos (keywordEach kws X.env)).all (·.1.isSome) = true) (hks : (backToKw pos (keywordEach kws X.env)).filterMap (·.1) = ks) (hp : (e :: es).all plainX = true)
    (hpl : ((backTo pos (starEach (e :: es) X.env)).any (·.1) || (backToKw pos (keywordEach kws X.env)).any (·.1.isNone)) = false)
    (hform : methodCallForm ((e :: es).length + kws.length) (backTo pos (starEach (e :: es) X.env)) (backToKw pos (keywordEach kws X.env)) = true) (hline : (apos.endLine == pos.line) = true) :
    PE X (.Call (.Attribute (.Name x px) m apos) (e :: es) kws pos) (tMtK C m n ks.length sp E ta t tk) := by
  rw [List.all_cons, Bool.and_eq_true] at hp
  refine ⟨fun pins s σ H Q I h => ?_⟩
  refine mcall hform hline (thn (he.run pins s σ H _ I h) fun u s1 z => ?_)
  obtain ⟨x, H1, I1, rx, a, dx, fs, ex, ea, l, q⟩ := z
  subst ex
  obtain rfl : u = Value.ref a := rx
  refine getmeth_ok I1 ea c hm l ?_
  refine PySem.W.callWith_KW (first := [.ref a]) (h₀ := X.base) I.ok.mod.kin hm.kp hall (thn (ha.run pos pins s1 σ H1 _ I1 q) fun us s2 z1 => ?_) hpl (plain_star hp.1)
  obtain ⟨vs, H2, I2, r, q2⟩ := z1
  refine thn (hkw.run pos pins s2 σ H2 _ I2 q2) fun ws s3 z2 => ?_
  obtain ⟨zs, H3, I3, rz, l1, l2, q3⟩ := z2
  refine ⟨I3.kIn, ?_⟩
  rw [hks]
  have r' : Vals (V.ref a :: vs) (Value.ref a :: us) := .cons rfl r
  refine wpAny_call (codeAny_mono (F.run X.A X.stack s3 H3 ⟨.ref a :: us, ks.zip ws⟩ (g (.ref a :: us) ws) ((.ref a :: vs) ++ zs) Q (E σ) hr I3.env0 (hb.to s3 (.ref a :: us) ws I3.kIn (r'.length.symm.trans l1) (rz.length.symm.trans l2)) (hb.rel r' rz) q3) fun rr s' hq => ?_)
  cases rr with
  | error er => exact hx σ pins H3 s3 er s' I3 hq
  | ok fl =>
    cases fl with
    | ret u => exact I3.after hq
    | _ => exact False.elim hq
end
theorem passE0 {X : Cx} : ∀ σ : L2.St, PassesAt (L2.CX X.prog X.w) X σ ((fun _ => E0 : L2.St → XK) σ) := fun σ pins H s e s' I h => passE pins σ H s e s' I h
section
variable {X : Cx} {cl : Calls} {i k f np : Nat} {x y m kw : Str} {px apos pos cpos p kp : Pos} {e b : Expr} {es : List Expr} {ie ib : IE} {ies : IEs} {dv : Int}
theorem s_meth (T : TabK X) (hF : HasMeth X cl k m f np none) (hr : Room k X.A) (hN : X.N[i]? = some x) (hv : Vis X.env.scope x) (hd : (x == ("__debug__" : Str)) = false) (hcd : (x == ("__classdict__" : Str)) = false) (ha : SA X cl es ies) (hl : es.length < 20) (hline : (apos.endLine == pos.line) = true) :
    SE X cl (.Call (.Attribute (.Name x px) m apos) es [] pos) (.meth f m i ies) := by
  obtain ⟨fa, fd, ps, F0, hm, hb, _⟩ := hF.ex
  have hb := hb rfl
  have main : ∀ {σ : L2.St} {H : Hp} {Q : VK}, tE X.K cl (.meth f m i ies) σ H Q → tMt (tabC X.K) m (spF X.K cl f np) [] (fun _ => E0) (tE X.K cl (.var i)) (tEs X.K cl ies) σ H Q := fun {σ H Q} q => by
    obtain ⟨F, own, ph, ρ, μ, d, μ', hK, I, ev, kk⟩ := q
    obtain ⟨o, μ1, e1, ev⟩ := bind_ok (show (M.opt (look ρ i) >>= fun o => noFld o m >>= fun _ => evEs F.S (cl F.S) ies ρ >>= fun ds => cl F.S f (o :: ds)) μ = .ok d μ' by simpa [evE] using ev)
    obtain ⟨e1', e1''⟩ := opt_ok e1
    subst e1''
    obtain ⟨u, μ2, e2, ev2⟩ := bind_ok ev
    obtain ⟨n, fs, h1, h2, h3, h4⟩ := noFld_ok e2
    clear ev e2
    subst h1 h4
    obtain ⟨ds, μ3, e3, ev⟩ := bind_ok ev2
    refine one hK I (x := .mref n) (μ1 := μ2) (by unfold evE; rw [e1']; rfl) fun ph2 vx H2 I2 g2 rx => ?_
    obtain ⟨a, dx, gs, q1, q2, q3, q4, q5⟩ := I2.insAt rx h2
    refine ⟨a, dx, gs, q1, I2.tc hK ▸ q3, fs_none q4 h3, F, own, ph2, ρ, μ2, ds, μ3, hK, I2, e3, fun ph3 vs H3 I3 g3 rs => ?_⟩
    have rx3 : Rep F.sa ph3 (Av F own (lks ies)) H3 vx (.mref n) := by rw [q1]; exact .mref (g3.idx q2)
    refine ⟨?_, F.S, F.sa, ph3, μ3, Av F own (lks ies), .mref n :: ds, d, μ', ?_, I3.mu, hK ▸ I3.scr, fun a h => I3.dom h, fun a h => I3.avphi h, ev, fun ph' v H' g M r => ?_⟩
    · rw [List.append_nil, List.length_cons, rs.length]
      have := hF.len _ _ _ _ _ ev
      rw [List.length_cons] at this
      exact this
    · rw [List.append_nil]; exact .cons rx3 rs
    · exact kk ph' v H' (I3.grow g M) ((g2.trans g3).trans g) ⟨r, fun z => by cases z⟩
  have h : PE X (.Call (.Attribute (.Name x px) m apos) es [] pos) (tE X.K cl (.meth f m i ies)) := by
    cases es with
    | nil =>
      refine (pe_mt0 (E := fun _ => E0) (s_var (cl := cl) (pos := px) hN hv hd hcd).pe T.cls hm F0 hr hb .nil passE0 hline).imp fun σ H Q q => ?_
      cases ies with
      | nil =>
        obtain ⟨F, own, ph, ρ, μ, d, μ', hK, I, ev, kk⟩ := main q
        refine ⟨F, own, ph, ρ, μ, d, μ', hK, I, ev, fun ph' v H' I' g V0 => ?_⟩
        obtain ⟨a, dx, fs, q1, q2, q3, F1, own1, ph1, ρ1, μ1, ds, μ2, hK1, I1, e1, kk1⟩ := kk ph' v H' I' g V0
        obtain ⟨rfl, rfl⟩ := pure_ok (show (pure [] : M (List D)) μ1 = .ok ds μ2 by simpa [evEs] using e1)
        exact ⟨a, dx, fs, q1, q2, q3, kk1 ph1 [] H' I1 (Grow.refl _ _) .nil⟩
      | cons ie r =>
        have := ha.ln
        cases this
    | cons e es => exact (pe_mt (E := fun _ => E0) (s_var (cl := cl) (pos := px) hN hv hd hcd).pe T.cls hm F0 hr hb .nil passE0 ha.pa ha.pl hl hline).imp fun σ H Q q => main q
  exact ⟨h, fun _ => pt_of h, rfl, fun z => by cases z⟩
theorem s_methK (T : TabK X) (hF : HasMeth X cl k m f np (some (kw, dv))) (hr : Room k X.A) (hN : X.N[i]? = some x) (hv : Vis X.env.scope x) (hd : (x == ("__debug__" : Str)) = false) (hcd : (x == ("__classdict__" : Str)) = false) (ha : SA X cl (e :: es) ies) (hb : SE X cl b ib) (hl : (e :: es).length < 20) (hline : (apos.endLine == pos.line) = true) :
    SE X cl (.Call (.Attribute (.Name x px) m apos) (e :: es) [⟨some kw, b, kp⟩] pos) (.methK f m i ies kw ib) := by
  obtain ⟨fa, fd, ps, F0, hm, _, hbn⟩ := hF.ex
  obtain ⟨_, nn, g, hnp, hbn⟩ := hbn kw dv rfl
  have hpl : ((backTo pos (starEach (e :: es) X.env)).any (·.1) || (backToKw pos (keywordEach [⟨some kw, b, kp⟩] X.env)).any (·.1.isNone)) = false := by
    rw [noStars ha.pl pos]
    rfl
  have h : PE X (.Call (.Attribute (.Name x px) m apos) (e :: es) [⟨some kw, b, kp⟩] pos) (tE X.K cl (.methK f m i ies kw ib)) := by
    refine (pe_mtK (E := fun _ => E0) (s_var (cl := cl) (pos := px) hN hv hd hcd).pe T.cls hm F0 hr hbn passE0 ha.pa (pk_cons hb.pe pk_nil) rfl rfl ha.pl hpl (mformK ha.pl hl) hline).imp fun σ H Q q => ?_
    obtain ⟨F, own, ph, ρ, μ, d, μ', hK, I, ev, kk⟩ := q
    obtain ⟨o, μ1, e1, ev⟩ := bind_ok (show (M.opt (look ρ i) >>= fun o => noFld o m >>= fun _ => evEs F.S (cl F.S) ies ρ >>= fun ds => evE F.S (cl F.S) ib ρ >>= fun d => cl F.S f (o :: (ds ++ [d]))) μ = .ok d μ' by simpa [evE] using ev)
    obtain ⟨e1', e1''⟩ := opt_ok e1
    subst e1''
    obtain ⟨u, μ2, e2, ev2⟩ := bind_ok ev
    obtain ⟨n, fs, h1, h2, h3, h4⟩ := noFld_ok e2
    clear ev e2
    subst h1 h4
    obtain ⟨ds, μ3, e3, ev⟩ := bind_ok ev2
    obtain ⟨dd, μ4, e4, ev⟩ := bind_ok ev
    have hl := hF.len _ _ _ _ _ ev
    rw [List.length_cons, List.length_append, hnp] at hl
    have hl : ds.length + 1 + 1 = nn + 1 := hl
    refine one hK I (x := .mref n) (μ1 := μ2) (by unfold evE; rw [e1']; rfl) fun ph2 vx H2 I2 g2 rx => ?_
    obtain ⟨a, dx, gs, q1, q2, q3, q4, q5⟩ := I2.insAt rx h2
    refine ⟨a, dx, gs, q1, I2.tc hK ▸ q3, fs_none q4 h3, F, own, ph2, ρ, μ2, ds, μ3, hK, I2, e3, fun ph3 vs H3 I3 g3 rs => one hK I3 e4 fun ph4 vy H4 I4 g4 ry => ?_⟩
    have rx3 : Rep F.sa ph4 (Av F own (lks ies ++ lk ib)) H4 vx (.mref n) := by rw [q1]; exact .mref (g4.idx (g3.idx q2))
    refine ⟨?_, rfl, ?_, F.S, F.sa, ph4, μ4, Av F own (lks ies ++ lk ib), .mref n :: (ds ++ [dd]), d, μ', ?_, I4.mu, hK ▸ I4.scr, fun a h => I4.dom h, fun a h => I4.avphi h, ev, fun ph' v H' g M r => ?_⟩
    · rw [List.length_cons, rs.length]; omega
    · show (vx :: (vs ++ [vy])).length = np
      rw [List.length_cons, List.length_append, rs.length, hnp]
      show ds.length + 1 + 1 = nn + 1
      omega
    · exact .cons rx3 (((g4.reps I3.mu rs).weaken lkA).append (.cons (ry.weaken lkB) .nil))
    · exact kk ph' v H' (I4.grow g M) (((g2.trans g3).trans g4).trans g) ⟨r, fun z => by cases z⟩
  exact ⟨h, fun _ => pt_of h, rfl, fun z => by cases z⟩
end
end Ev

set_option Elab.async false
set_option linter.all false
set_option maxRecDepth 100000
set_option maxHeartbeats 4000000
namespace Ev
open PySem L2 PyProof.Rows
theorem Grow.updP {ph : List Addr} {H : Hp} {a : Addr} {o : HO} (hm : a ∈ ph) : Grow ph H ph (upd H a o) :=
  ⟨fun b u e n => by rw [upd_ne (fun z => n (by rw [z]; exact hm))]; exact e, ⟨[], by simp, by simp⟩, fun b u e => by
    by_cases q : b = a
    · exact ⟨o, by rw [q, upd_same]⟩
    · exact ⟨u, by rw [upd_ne q]; exact e⟩⟩
theorem Reps.dropLast {sa : Sa} {ph : List Addr} {A : Addr → Prop} {H : Hp} {vs : List V} {ds : List D} (r : Reps sa ph A H vs ds) : Reps sa ph A H vs.dropLast ds.dropLast := by
  rw [List.dropLast_eq_take, List.dropLast_eq_take, r.length]
  exact r.take _
section
variable {X : Cx} {cl : Calls} {i k f np : Nat} {x y m : Str} {px p2 apos pos cpos p lp : Pos} {e a b : Expr} {es : List Expr} {ie ia ib : IE} {ies : IEs}
/-- e.f.pop() -/
theorem s_popF (T : TabK X) (hx : y ∈ tabF) (hN : X.N[i]? = some x) (hv : Vis X.env.scope x) (hd : (x == ("__debug__" : Str)) = false) (hcd : (x == ("__classdict__" : Str)) = false) (hline : (apos.endLine == cpos.line) = true) :
    SE X cl (.Call (.Attribute (.Attribute (.Name x px) y p2) "pop" apos) [] [] cpos) (.popF i y) := by
  have h : PE X (.Call (.Attribute (.Attribute (.Name x px) y p2) "pop" apos) [] [] cpos) (tE X.K cl (.popF i y)) := by
    refine (pe_bm0 PySem.F.plainAttrs_list PySem.F.slot_list_pop PySem.F.type_list_pop mt_pop (s_fld (cl := cl) (px := px) (pos := p2) T hx hN hv hd hcd).pe rfl hline).imp fun σ H Q q => ?_
    obtain ⟨F, own, ph, ρ, μ, d, μ', hK, I, ev, k⟩ := q
    obtain ⟨o, μ1, e1, ev⟩ := bind_ok (show (M.opt (look ρ i) >>= fun o => fldM o y >>= fun l => itsM l >>= fun ds => M.opt ds.getLast? >>= fun d => setM l (.lst ds.dropLast) >>= fun _ => pure d) μ = .ok d μ' by simpa [evE] using ev)
    obtain ⟨e1', e1''⟩ := opt_ok e1
    subst e1''
    obtain ⟨l, μ2, e2, ev2⟩ := bind_ok ev
    have e2' := e2
    obtain ⟨n, fs, h1, h2, h3, h4⟩ := fldM_ok e2
    subst h1 h4
    obtain ⟨ds, μ3, e3, ev3⟩ := bind_ok ev2
    obtain ⟨nl, h5, h6, h7⟩ := itsM_ok e3
    subst h5 h7
    obtain ⟨d0, μ4, e4, ev4⟩ := bind_ok ev3
    obtain ⟨e4', e4''⟩ := opt_ok e4
    subst e4''
    obtain ⟨u, μ5, e5, ev5⟩ := bind_ok ev4
    obtain ⟨nl', h8, h9⟩ := setM_ok e5
    cases h8
    obtain ⟨h10, h11⟩ := pure_ok ev5
    subst h10 h11 h9
    refine one hK I (x := .mref nl) (by unfold evE; rw [e1']; exact e2') fun ph2 vx H2 I2 g2 rx => ?_
    obtain ⟨aa, vs, q1, q2, q3, q4⟩ := I2.lstAt rx h6
    subst q1
    rw [List.getLast?_eq_getElem?] at e4'
    obtain ⟨v, q5, q6⟩ := q4.get e4'
    refine ⟨.inl ⟨rfl, vs, SqL.of q3⟩, aa, vs, v, rfl, rfl, q3, by rw [q4.length]; exact q5, ?_⟩
    have hm : aa ∈ ph2 := List.mem_of_getElem? q2
    have g3 : Grow ph2 H2 ph2 (upd H2 aa (.lst vs.dropLast)) := Grow.updP hm
    exact k ph2 v _ (I2.updM q2 q3 q4.dropLast) (g2.trans g3) ⟨(g3.rep I2.mu q6).weaken fun _ _ => trivial, fun z => by cases z⟩
  exact ⟨h, fun _ => pt_of h, rfl, fun z => by cases z⟩
/-- e.f == [] -/
theorem s_nilF (T : TabK X) (hu : X.A.units + 64 < cLine) (hx : y ∈ tabF) (hN : X.N[i]? = some x) (hv : Vis X.env.scope x) (hd : (x == ("__debug__" : Str)) = false) (hcd : (x == ("__classdict__" : Str)) = false) :
    SE X cl (.Compare (.Attribute (.Name x px) y p2) [.Eq] [.List [] lp] pos) (.nilF i y) := by
  have core : ∀ {F : Fx} {own : Nat → Option Addr} {ph : List Addr} {ρ : Env} {μ μ' : Mu} {d : D} {σ : L2.St} {H : Hp} {Q : VK}, F.K = X.K → Stt F own ph ρ μ σ H → evE F.S (cl F.S) (.nilF i y) ρ μ = .ok d μ' →
      (∀ ph' t H', d = .bl t → Stt F own ph' ρ μ' σ H' → Grow ph H ph' H' → Q (.bl t) H') → tOp (rOf X.K .eq) (tE X.K cl (.fld i y)) (tLst tNil) σ H Q := fun {F own ph ρ μ μ' d σ H Q} hK I ev k => by
    obtain ⟨o, μ1, e1, ev⟩ := bind_ok (show (M.opt (look ρ i) >>= fun o => fldM o y >>= fun l => itsM l >>= fun ds => if sh 8 (.lst ds) = true then pure (.bl ds.isEmpty) else M.no) μ = .ok d μ' by simpa [evE] using ev)
    obtain ⟨e1', e1''⟩ := opt_ok e1
    subst e1''
    obtain ⟨l, μ2, e2, ev2⟩ := bind_ok ev
    have e2' := e2
    obtain ⟨n, fs, h1, h2, h3, h4⟩ := fldM_ok e2
    subst h1 h4
    obtain ⟨ds, μ3, e3, ev3⟩ := bind_ok ev2
    obtain ⟨nl, h5, h6, h7⟩ := itsM_ok e3
    subst h5 h7
    obtain ⟨hs, ev4⟩ := iteM_ok ev3
    obtain ⟨h10, h11⟩ := pure_ok ev4
    subst h10 h11
    refine one hK I (x := .mref nl) (μ1 := μ3) (by unfold evE; rw [e1']; exact e2') fun ph2 vx H2 I2 g2 rx => ?_
    obtain ⟨aa, vs, q1, q2, q3, q4⟩ := I2.lstAt rx h6
    subst q1
    refine ⟨Nat.zero_le _, fun q hq => ?_⟩
    have g3 : Grow ph2 H2 ph2 (upd H2 q (.lst [])) := Grow.new hq
    have hne : aa ≠ q := fun z => by rw [z, hq] at q3; cases q3
    refine ⟨.list (toPys ds), .list [], .lst (SqL.of (by rw [upd_ne hne]; exact q3)) (Reps.dp ds vs 7 hs (g3.reps I2.mu q4)), .lst (SqL.of upd_same) .nil, sh_shaped (d := .lst ds) hs, rfl, ?_⟩
    have : PyData.eqv (.list (toPys ds)) (.list []) = ds.isEmpty := by cases ds <;> rfl
    rw [this]
    exact k ph2 _ _ rfl (I2.laid hq) (g2.trans g3)
  refine ⟨(pe_cmpR (op_of hu .eq) (s_fld (cl := cl) (px := px) (pos := p2) T hx hN hv hd hcd).pe (pe_lst pa_nil) (plain_marks rfl)).imp fun σ H Q q => ?_, fun _ => (pt_cmpR (op_of hu .eq) (s_fld (cl := cl) (px := px) (pos := p2) T hx hN hv hd hcd).pe (pe_lst pa_nil) (plain_marks rfl)).imp fun σ H Q q => ?_, rfl, fun z => by cases z⟩
  · obtain ⟨F, own, ph, ρ, μ, d, μ', hK, I, ev, k⟩ := q
    exact core hK I ev fun ph' t H' ht I' g => by subst ht; exact k ph' _ H' I' g (val0 (.bl _) rfl)
  · obtain ⟨F, own, ph, ρ, μ, t, μ', hK, I, ev, k⟩ := q
    exact core hK I ev fun ph' t' H' ht I' g => by cases ht; exact ⟨t, rfl, k ph' H' I' g⟩
/-- isinstance(e, Table) -/
theorem s_isiT (T : TabK X) (hg : Gl X "isinstance") (hm : X.mg "isinstance" = none) (hgt : Gl X "Table") (ha : SE X cl a ia) :
    SE X cl (.Call (.Name "isinstance" p) [a, .Name "Table" p2] [] pos) (.isiT ia) := by
  have st := plain_star (X := X) (es := [.Name "Table" p2]) ha.pl
  have h : PE X (.Call (.Name "isinstance" p) [a, .Name "Table" p2] [] pos) (tE X.K cl (.isiT ia)) := by
    refine (pe_callB call_isi hg hm boot_isi (pa_cons ha.pe (pa_cons (pe_glob (v := .ref (tabC X.K)) hgt T.mg rfl) pa_nil rfl) st) (by decide) (by decide) st rfl).imp fun σ H Q q => ?_
    obtain ⟨F, own, ph, ρ, μ, d, μ', hK, I, ev, k⟩ := q
    unfold evE at ev
    obtain ⟨x, μ1, e1, ev⟩ := bind_ok ev
    refine one hK I e1 fun ph2 vx H2 I2 g2 rx => ?_
    cases x with
    | mref n =>
      obtain ⟨fs, μ2, e2, ev2⟩ := bind_ok ev
      obtain ⟨n', h1, h2, h3⟩ := fldsM_ok e2
      cases h1
      obtain ⟨h4, h5⟩ := pure_ok ev2
      subst h3 h4 h5
      obtain ⟨aa, dx, gs, q1, q2, q3, q4, q5⟩ := I2.insAt rx h2
      rw [I2.tc hK] at q3
      exact ⟨vx, .ref (tabC X.K), .ref (tabC X.K), .ref (tabC X.K), true, rfl, .own _, q1 ▸ .base (.ins q3 T.cls T.ha T.hn T.htk T.hm), T.self, k ph2 _ H2 I2 g2 (val0 (.bl _) rfl)⟩
    | str z =>
      obtain ⟨h4, h5⟩ := pure_ok ev
      subst h4 h5
      cases rx
      exact ⟨.str z, .ref (tabC X.K), .type "str", .ref (tabC X.K), false, rfl, .own _, .base (.str z), T.str, k ph2 _ H2 I2 g2 (val0 (.bl _) rfl)⟩
    | _ => cases ev
  exact ⟨h, fun _ => pt_of h, rfl, fun z => by cases z⟩
/-- a == b by the class's own __eq__ -/
theorem op_own {fa : Addr} {fd : FuncData} {ps : List Str} {sp : Sp} (T : TabK X) (hm : Meth X.K (tabC X.K) "__eq__" fa) (F : FnOk X.prog X.w X.K X.mg X.base (L2.CX X.prog X.w) k fa fd ps sp) (hr : Room k X.A) (hb : Binds X.K fd ps []) :
    OpR X (compareOp .Eq) (fun x y H Q => ∃ a dx fs, x = .ref a ∧ H a = some (.ins (tabC X.K) dx fs) ∧ ((∃ b dy gs, y = .ref b ∧ H b = some (.ins (tabC X.K) dy gs)) ∨ ∃ z, y = .str z) ∧ sp [x, y] H Q E0) := by
  intro pins s σ H x y v u Q I rx ry hq
  obtain ⟨a, dx, fs, rfl, ha, hy, hs⟩ := hq
  cases rx
  show wpAny (model X.prog X.w) X.A (richCompare .Eq (.ref a) u) (EP X pins σ Q) X.xe s
  obtain ⟨mA, J, _⟩ := ins_get I.hok ha
  obtain ⟨od, J, _⟩ := J.look
  obtain ⟨mm, hF⟩ := I.fr
  have run : wpAny (model X.prog X.w) X.A (call (.ref fa) [.ref a, u]) (PySem.W.CmpBack (EP X pins σ Q)) X.xe s := by
    refine wpAny_mono (run_fnSD (E := fun _ => E0) (us := [.ref a, u]) (vs := [.ref a, y]) F hr hb .nil (passE0 σ) I (.cons rfl (.cons ry .nil)) hs) (fun r s' z => ?_) fun _ _ z => z
    have z' := z
    obtain ⟨w, H', I', rw', q⟩ := z
    cases w with
    | non => cases (show r = _ from rw'); exact z'
    | bl b => cases (show r = _ from rw'); exact z'
    | int b => obtain ⟨t, q⟩ := rw'; cases q; exact z'
    | str b => obtain ⟨t, q⟩ := rw'; cases q; exact z'
    | byt b => obtain ⟨t, q⟩ := rw'; cases q; exact z'
    | flt b => obtain ⟨t, q⟩ := rw'; cases q; exact z'
    | ref b => cases (show r = _ from rw'); exact z'
    | ty b => cases (show r = _ from rw'); exact z'
  rcases hy with ⟨b, dy, gs, rfl, hb'⟩ | ⟨z, rfl⟩
  · cases ry
    obtain ⟨mB, J', _⟩ := ins_get I.hok hb'
    obtain ⟨od', J', _⟩ := J'.look
    exact PySem.W.cmp_K (op := .Eq) (tb := .ref (tabC X.K)) hr.units0 hF I.ok.mod.kin J J'.type (by simp [PySem.W.notFirst]) hm.at_ hm.fn run
  · obtain ⟨t, rfl⟩ := ry
    exact PySem.W.cmp_K (op := .Eq) (tb := .type "str") hr.units0 hF I.ok.mod.kin J (PySem.W.Looks.of_pure rfl) (by unfold PySem.W.notFirst; rw [T.sub]; simp) hm.at_ hm.fn run
theorem s_eqM (T : TabK X) (hF : HasMeth X cl k "__eq__" f np none) (hr : Room k X.A) (ha : SE X cl a ia) (hb : SE X cl b ib) : SE X cl (.Compare a [.Eq] [b] pos) (.eqM f ia ib) := by
  obtain ⟨fa, fd, ps, F0, hm, hbn, _⟩ := hF.ex
  have hbn := hbn rfl
  have core : ∀ {F : Fx} {own : Nat → Option Addr} {ph : List Addr} {ρ : Env} {μ μ' : Mu} {d : D} {σ : L2.St} {H : Hp} {Q : VK}, F.K = X.K → Stt F own ph ρ μ σ H → evE F.S (cl F.S) (.eqM f ia ib) ρ μ = .ok d μ' →
      (∀ ph' v H', Rep F.sa ph' (Av F own (lk ia ++ lk ib)) H' v d → Stt F own ph' ρ μ' σ H' → Grow ph H ph' H' → Q v H') →
      tOp (fun x y H Q => ∃ a dx fs, x = .ref a ∧ H a = some (.ins (tabC X.K) dx fs) ∧ ((∃ b dy gs, y = .ref b ∧ H b = some (.ins (tabC X.K) dy gs)) ∨ ∃ z, y = .str z) ∧ spF X.K cl f np [x, y] H Q E0) (tE X.K cl ia) (tE X.K cl ib) σ H Q := fun {F own ph ρ μ μ' d σ H Q} hK I ev k => by
    obtain ⟨x, μ1, e1, ev1⟩ := bind_ok (show (evE F.S (cl F.S) ia ρ >>= fun x => evE F.S (cl F.S) ib ρ >>= fun y => eqChk x y >>= fun _ => cl F.S f [x, y]) μ = .ok d μ' by simpa [evE] using ev)
    obtain ⟨y, μ2, e2, ev2⟩ := bind_ok ev1
    obtain ⟨u, μ4, e4, ev3⟩ := bind_ok ev2
    unfold eqChk at e4
    obtain ⟨fs, μ3, e3, e5⟩ := bind_ok e4
    obtain ⟨n, h1, h2, h3⟩ := fldsM_ok e3
    subst h1 h3
    refine two hK I e1 e2 fun ph2 vx vy H2 I2 g2 rx ry => ?_
    obtain ⟨aa, dx, gs, q1, q2, q3, q4, q5⟩ := I2.insAt rx h2
    rw [I2.tc hK] at q3
    have fin : ∀ {μx}, cl F.S f [.mref n, y] μx = .ok d μ' → μx = μ3 → spF X.K cl f np [vx, vy] H2 Q E0 := fun {μx} ev hμ => by
      rw [hμ] at ev
      refine ⟨?_, F.S, F.sa, ph2, μ3, Av F own (lk ia ++ lk ib), [.mref n, y], d, μ', .cons (rx.weaken lkA) (.cons (ry.weaken lkB) .nil), I2.mu, hK ▸ I2.scr, fun a h => I2.dom h, fun a h => I2.avphi h, ev, fun ph' v H' g M r => k ph' v H' r (I2.grow g M) (g2.trans g)⟩
      have := hF.len _ _ _ _ _ ev
      exact this
    refine ⟨aa, dx, gs, q1, q3, ?_⟩
    cases y with
    | mref n2 =>
      obtain ⟨fs2, μ5, e6, e7⟩ := bind_ok e5
      obtain ⟨n', h5, h6, h7⟩ := fldsM_ok e6
      cases h5
      obtain ⟨bb, dy, gs2, r1, r2, r3, _⟩ := I2.insAt ry h6
      rw [I2.tc hK] at r3
      exact ⟨.inl ⟨bb, dy, gs2, r1, r3⟩, fin ev3 (by rw [← (pure_ok e7).2, h7])⟩
    | str z =>
      refine ⟨.inr ⟨z, ?_⟩, fin ev3 (pure_ok e5).2.symm⟩
      cases ry
      rfl
    | _ => cases e5
  refine ⟨(pe_cmpR (op_own T hm F0 hr hbn) ha.pe hb.pe (plain_marks hb.pl)).imp fun σ H Q q => ?_, fun _ => (pt_cmpR (op_own T hm F0 hr hbn) ha.pe hb.pe (plain_marks hb.pl)).imp fun σ H Q q => ?_, rfl, fun z => by cases z⟩
  · obtain ⟨F, own, ph, ρ, μ, d, μ', hK, I, ev, k⟩ := q
    exact core hK I ev fun ph' v H' r I' g => k ph' _ H' I' g ⟨r, fun z => by cases z⟩
  · obtain ⟨F, own, ph, ρ, μ, t, μ', hK, I, ev, k⟩ := q
    exact core hK I ev fun ph' v H' r I' g => by cases r; exact ⟨t, rfl, k ph' H' I' g⟩
/-! ### statements -/
/-- e.f = value -/
theorem ss_setF (T : TabK X) (hx : y ∈ tabF) (hN : X.N[i]? = some x) (hv : Vis X.env.scope x) (hd : (x == ("__debug__" : Str)) = false) (hcd : (x == ("__classdict__" : Str)) = false) (h : SE X cl e ie) : PS X (.Assign [.Attribute (.Name x px) y p2] e pos) (tS X.K cl (.setF i y ie)) := by
  refine (ps_fld (s_var (cl := cl) (pos := px) hN hv hd hcd).pe h.pe (by cases e <;> rfl)).imp fun E σ H q => ?_
  obtain ⟨F, own, ph, ρ, μ, fl, ρ', μ', hK, I, ev, k⟩ := q
  unfold evS at ev
  obtain ⟨d, μ1, e1, ev1⟩ := bind_ok ev
  obtain ⟨o, μ2, e2, ev2⟩ := bind_ok ev1
  obtain ⟨e2', e2''⟩ := opt_ok e2
  subst e2''
  obtain ⟨u, μ3, e3, ev3⟩ := bind_ok ev2
  obtain ⟨n, fs, h1, h2, h3, h4, h5⟩ := setFld_ok e3
  obtain ⟨h6, h7⟩ := pure_ok ev3
  cases h6
  subst h1 h7 h5
  refine ⟨F, own, ph, ρ, μ, d, _, hK, I, e1, fun ph1 w H1 I1 g1 V1 => ?_⟩
  refine one hK I1 (x := .mref n) (μ1 := μ1) (by unfold evE; rw [e2']; rfl) fun ph2 vx H2 I2 g2 rx => ?_
  obtain ⟨aa, dx, gs, q1, q2, q3, q4, q5⟩ := I2.insAt rx h2
  have hl : gs.length = fs.length := by rw [← List.length_map (f := (·.1)), q4, List.length_map]
  refine ⟨aa, F.sa.C, dx, gs, q1, q3, I2.tc hK ▸ T.cls, I2.tc hK ▸ T.noat y hx, by omega, k own ph2 σ _ ?_⟩
  refine I2.updG q2 q3 (fun _ z => nomatch z) (fun _ _ z => nomatch z) fun reps => ?_
  have rw' : Rep F.sa ph2 (fun _ => True) H2 w d := Rep.nol d w h3 (g2.rep I1.mu V1.rep)
  obtain ⟨r1, r2⟩ := fs_put (x := y) rw' q4 q5
  exact ⟨dx, _, upd_same, r1, reps r2⟩
/-- e.f = [] -/
theorem ss_newF (T : TabK X) (hx : y ∈ tabF) (hN : X.N[i]? = some x) (hv : Vis X.env.scope x) (hd : (x == ("__debug__" : Str)) = false) (hcd : (x == ("__classdict__" : Str)) = false) : PS X (.Assign [.Attribute (.Name x px) y p2] (.List [] lp) pos) (tS X.K cl (.newF i y)) := by
  refine (ps_fld (s_var (cl := cl) (pos := px) hN hv hd hcd).pe (pe_lst pa_nil) rfl).imp fun E σ H q => ?_
  obtain ⟨F, own, ph, ρ, μ, fl, ρ', μ', hK, I, ev, k⟩ := q
  unfold evS at ev
  obtain ⟨d, μ1, e1, ev1⟩ := bind_ok ev
  have e1 : R.ok (D.mref μ.length) (μ ++ [.lst []]) = R.ok d μ1 := e1
  cases e1
  obtain ⟨o, μ2, e2, ev2⟩ := bind_ok ev1
  obtain ⟨e2', e2''⟩ := opt_ok e2
  subst e2''
  obtain ⟨u, μ3, e3, ev3⟩ := bind_ok ev2
  obtain ⟨n, fs, h1, h2, h3, h4, h5⟩ := setFld_ok e3
  obtain ⟨h6, h7⟩ := pure_ok ev3
  cases h6
  subst h1 h7 h5
  refine ⟨Nat.zero_le _, fun q hq => ?_⟩
  obtain ⟨I1, g1, hi⟩ := I.newG (mv := .lst []) (I.laid hq) (Grow.new hq) hq ⟨[], upd_same, .nil⟩
  refine one hK I1 (x := .mref n) (μ1 := μ ++ [.lst []]) (by unfold evE; rw [e2']; rfl) fun ph2 vx H2 I2 g2 rx => ?_
  obtain ⟨aa, dx, gs, q1, q2, q3, q4, q5⟩ := I2.insAt rx h2
  have hl : gs.length = fs.length := by rw [← List.length_map (f := (·.1)), q4, List.length_map]
  refine ⟨aa, F.sa.C, dx, gs, q1, q3, I2.tc hK ▸ T.cls, I2.tc hK ▸ T.noat y hx, by omega, k own ph2 σ _ ?_⟩
  refine I2.updG q2 q3 (fun _ z => nomatch z) (fun _ _ z => nomatch z) fun reps => ?_
  obtain ⟨r1, r2⟩ := fs_put (x := y) (v := .ref q) (d := .mref μ.length) (.mref (g2.idx hi)) q4 q5
  exact ⟨dx, _, upd_same, r1, reps r2⟩
/-- e.f.append(value) -/
theorem ss_appF (T : TabK X) (hx : y ∈ tabF) (hN : X.N[i]? = some x) (hv : Vis X.env.scope x) (hd : (x == ("__debug__" : Str)) = false) (hcd : (x == ("__classdict__" : Str)) = false) (h : SE X cl e ie) (hline : (apos.endLine == cpos.line) = true) :
    PS X (.Expr (.Call (.Attribute (.Attribute (.Name x px) y p2) "append" apos) [e] [] cpos) pos) (tS X.K cl (.appF i y ie)) := by
  refine (ps_expr (pos := pos) (pe_bm PySem.F.plainAttrs_list PySem.F.slot_list_append PySem.F.type_list_append mt_append (s_fld (cl := cl) (px := px) (pos := p2) T hx hN hv hd hcd).pe (pa_cons h.pe pa_nil (plain_star h.pl)) rfl (few h.pl) hline (plain_star h.pl) rfl) rfl).imp fun E σ H q => ?_
  obtain ⟨F, own, ph, ρ, μ, fl, ρ', μ', hK, I, ev, k⟩ := q
  unfold evS at ev
  obtain ⟨o, μ1, e1, ev1⟩ := bind_ok ev
  obtain ⟨e1', e1''⟩ := opt_ok e1
  subst e1''
  obtain ⟨l, μ2, e2, ev2⟩ := bind_ok ev1
  have e2' := e2
  obtain ⟨n, fs, h1, h2, h3, h4⟩ := fldM_ok e2
  subst h1 h4
  obtain ⟨ds0, μ3, e3, ev3⟩ := bind_ok ev2
  obtain ⟨nl, h5, h6, h7⟩ := itsM_ok e3
  subst h5 h7
  obtain ⟨d, μ4, e4, ev4⟩ := bind_ok ev3
  obtain ⟨ds, μ5, e5, ev5⟩ := bind_ok ev4
  obtain ⟨nl', h8, h9, h10⟩ := itsM_ok e5
  cases h8
  subst h10
  obtain ⟨hc, ev6⟩ := iteM_ok ev5
  rw [Bool.and_eq_true] at hc
  obtain ⟨u, μ6, e6, ev7⟩ := bind_ok ev6
  obtain ⟨nl', h11, h12⟩ := setM_ok e6
  cases h11
  obtain ⟨h13, h14⟩ := pure_ok ev7
  cases h13
  subst h14 h12
  refine one hK I (x := .mref nl) (by unfold evE; rw [e1']; exact e2') fun ph2 vx H2 I2 g2 rx => ?_
  obtain ⟨aa, vs, q1, q2, q3, q4⟩ := I2.lstAt rx h6
  subst q1
  refine ⟨.inl ⟨rfl, vs, SqL.of q3⟩, F, own, ph2, ρ, _, d, _, hK, I2, e4, fun ph3 w H3 I3 g3 V3 => ?_⟩
  obtain ⟨ab, ws, r1, r2, r3, r4⟩ := I3.lstAt (A := fun _ => True) (v := .ref aa) (.mref (g3.idx q2)) h9
  cases r1
  refine ⟨aa, ws, w, rfl, rfl, r3, million' (by rw [r4.length]; exact of_decide_eq_true hc.2), k own ph3 σ _ ?_⟩
  exact I3.updM r2 r3 (r4.append (.cons (Rep.nol d w hc.1 V3.rep) .nil))
end
end Ev

set_option Elab.async false
set_option linter.all false
set_option maxRecDepth 100000
set_option maxHeartbeats 4000000
namespace Ev
open PySem L2 PyProof.Rows
/-! ### an instance is made -/
section
variable {X : Cx} {CX : CXT} {k : Nat} {f C : Addr} {fd : FuncData} {ps : List Str} {sp : Sp} {E : L2.St → XK}
theorem run_makeS {pins : List (Addr × Obj)} {σ : L2.St} {H : Hp} {s : Shared} {Q : VK} {us : List Value} {vs : List V} (M : Mk X.K C f) (F : FnOk X.prog X.w X.K X.mg X.base CX k f fd ps sp) (hr : Room (k + 1) X.A) (hb : Binds X.K fd ps [])
    (hx : PassesAt CX X σ (E σ)) (I : L2.Inv X pins σ H s) (r : Vals vs us)
    (h : ∀ x dx, H x = none → H dx = none → dx ≠ x → sp (.ref x :: vs) (upd (upd H dx (.own x)) x (.ins C dx [])) (fun v H2 => v = .non ∧ Q (.ref x) H2) (E σ)) :
    wpAny (model X.prog X.w) X.A (call (.ref C) us) (EP X pins σ Q) X.xe s := by
  have hq := h (s.heap.objs.size + 1) s.heap.objs.size (I.hok.fresh (Nat.le_succ _)) (I.hok.fresh (Nat.le_refl _)) (Nat.ne_of_lt (Nat.lt_succ_self _))
  have I2 := Inv.made (C := C) I
  have r2 : Vals (V.ref (s.heap.objs.size + 1) :: vs) (Value.ref (s.heap.objs.size + 1) :: us) := .cons rfl r
  have hl : (Value.ref (s.heap.objs.size + 1) :: us ++ []).length = ps.length := by
    have e := r2.length
    rw [F.len _ _ _ _ hq] at e
    rw [List.append_nil]
    exact e.symm
  have hbb := hb _ (Value.ref (s.heap.objs.size + 1) :: us) I2.kIn hl
  rw [List.append_nil] at hbb
  refine wpAny_call (make_map (f := f) I.kIn M.makes M.init (beq_iff_eq.mp M.fn) (codeAny_mono (F.run _ X.stack _ _ ⟨Value.ref (s.heap.objs.size + 1) :: us, []⟩ (Value.ref (s.heap.objs.size + 1) :: us) _ _ (E σ) (hr.make C us [])
    (I2.env0.make C us []) hbb r2 hq) fun r s' hq' => ?_))
  cases r with
  | error e => exact hx pins _ _ e s' I2 hq'
  | ok fl =>
    cases fl with
    | ret u =>
      obtain ⟨v, H', I3, rv, ev, q3⟩ := I2.after hq'
      subst ev
      exact ⟨rv, ⟨V.ref (s.heap.objs.size + 1), H', I3, rfl, q3⟩⟩
    | next => exact False.elim hq'
    | brk => exact False.elim hq'
    | cont => exact False.elim hq'
def tMk (C : Addr) (sp : Sp) (E : L2.St → XK) (t : TA) : TE := fun σ H Q => t σ H fun vs H1 => ∀ x dx, H1 x = none → H1 dx = none → dx ≠ x → sp (.ref x :: vs) (upd (upd H1 dx (.own x)) x (.ins C dx [])) (fun v H2 => v = .non ∧ Q (.ref x) H2) (E σ)
theorem pe_mk {x : Str} {p pos : Pos} {e : Expr} {es : List Expr} {t : TA} (M : Mk X.K C f) (F : FnOk X.prog X.w X.K X.mg X.base CX k f fd ps sp) (hr : Room (k + 1) X.A) (hg : Gl X x) (hm : X.mg x = some (.ref C)) (hb : Binds X.K fd ps []) (hx : ∀ σ, PassesAt CX X σ (E σ))
    (ha : PA X (e :: es) t) (hdb : (x == ("__debug__" : Str)) = false) (hp : (e :: es).all plainX = true) : PE X (.Call (.Name x p) (e :: es) [] pos) (tMk C sp E t) := by
  rw [List.all_cons, Bool.and_eq_true] at hp
  refine ⟨fun pins s σ H Q I h => ?_⟩
  refine wpAny_Call_Name_kw (ld_glob I hg hm ?_ hdb)
  refine PySem.W.callWith_K (h₀ := X.base) I.ok.mod.kin M.kp (thn (ha.run pos pins s σ H _ I h) fun us s1 ⟨vs, H1, I1, r, q⟩ => ⟨I1.kIn, ?_⟩) (plain_star hp.1) (noStars hp.2 pos)
  exact run_makeS M F hr hb (hx σ) I1 r q
end
/-- the new object and what it begins with -/
theorem Stt.made {F : Fx} {own : Nat → Option Addr} {ph : List Addr} {ρ : Env} {μ : Mu} {σ : L2.St} {H : Hp} {K : PySem.W.Frag} {xa dx : Addr} (I : Stt F own ph ρ μ σ H) (hK : F.K = K) (h1 : H xa = none) (h2 : H dx = none) (h3 : dx ≠ xa) :
    Stt F own (ph ++ [xa]) ρ (μ ++ [.ins []]) σ (upd (upd H dx (.own xa)) xa (.ins (tabC K) dx [])) ∧ Grow ph H (ph ++ [xa]) (upd (upd H dx (.own xa)) xa (.ins (tabC K) dx [])) ∧ (ph ++ [xa])[μ.length]? = some xa := by
  have hxa : (upd H dx (.own xa)) xa = none := by
    rw [upd_ne (fun z => h3 z.symm)]
    exact h1
  refine I.newG (mv := .ins []) ((I.laid h2).laid hxa) ((Grow.new h2).trans (Grow.new hxa)) h1 ⟨dx, [], ?_, rfl, .nil⟩
  rw [upd_same, I.tc hK]
structure HasMake (X : Cx) (cl : Calls) (k : Nat) (f np : Nat) : Prop where
  ex : ∃ fi fd ps, Mk X.K (tabC X.K) fi ∧ FnOk X.prog X.w X.K X.mg X.base (L2.CX X.prog X.w) k fi fd ps (spF X.K cl f np) ∧ Binds X.K fd ps []
  len : ∀ S ds μ d μ', cl S f ds μ = .ok d μ' → ds.length = np
theorem noneTo_ok {r o d : D} {μ μ' : Mu} (h : noneTo r o μ = .ok d μ') : r = .non ∧ o = d ∧ μ = μ' := by
  cases r with
  | non => obtain ⟨h1, h2⟩ := pure_ok (show (pure o : M D) μ = .ok d μ' from h); exact ⟨rfl, h1, h2⟩
  | _ => cases h
section
variable {X : Cx} {cl : Calls} {k f np : Nat} {p pos : Pos} {e : Expr} {es : List Expr} {ies : IEs}
theorem s_make (T : TabK X) (hF : HasMake X cl k f np) (hr : Room (k + 1) X.A) (hg : Gl X "Table") (ha : SA X cl (e :: es) ies) : SE X cl (.Call (.Name "Table" p) (e :: es) [] pos) (.make f ies) := by
  obtain ⟨fi, fd, ps, M0, F0, hb⟩ := hF.ex
  have h : PE X (.Call (.Name "Table" p) (e :: es) [] pos) (tE X.K cl (.make f ies)) := by
    refine (pe_mk (E := fun _ => E0) M0 F0 hr hg T.mg hb passE0 ha.pa (by decide) ha.pl).imp fun σ H Q q => ?_
    obtain ⟨F, own, ph, ρ, μ, d, μ', hK, I, ev, kk⟩ := q
    obtain ⟨ds, μ1, e1, ev⟩ := bind_ok (show (evEs F.S (cl F.S) ies ρ >>= fun ds => newM (.ins []) >>= fun o => cl F.S f (o :: ds) >>= fun r => noneTo r o) μ = .ok d μ' by simpa [evE] using ev)
    obtain ⟨o, μ2, e2, ev2⟩ := bind_ok ev
    have e2 : R.ok (D.mref μ1.length) (μ1 ++ [.ins []]) = R.ok o μ2 := e2
    cases e2
    obtain ⟨r, μ3, e3, ev3⟩ := bind_ok ev2
    obtain ⟨h1, h2, h3⟩ := noneTo_ok ev3
    subst h1 h2 h3
    refine ⟨F, own, ph, ρ, μ, ds, μ1, hK, I, e1, fun ph1 vs H1 I1 g1 rs xa dx h1 h2 h3 => ?_⟩
    obtain ⟨I2, g2, hi⟩ := I1.made hK h1 h2 h3
    refine ⟨?_, F.S, F.sa, _, _, Av F own (lks ies), .mref μ1.length :: ds, .non, μ3, .cons (.mref hi) (g2.reps I1.mu rs), I2.mu, hK ▸ I2.scr, fun a h => I2.dom h, fun a h => I2.avphi h, e3, fun ph' v H' g M r => ?_⟩
    · rw [List.length_cons, rs.length]
      have := hF.len _ _ _ _ _ e3
      rw [List.length_cons] at this
      exact this
    · cases r
      exact ⟨rfl, kk ph' _ H' (I2.grow g M) ((g1.trans g2).trans g) (val0 (.mref (g.idx hi)) rfl)⟩
  exact ⟨h, fun _ => pt_of h, rfl, fun z => by cases z⟩
end
end Ev

set_option Elab.async false
set_option linter.all false
set_option maxRecDepth 100000
set_option maxHeartbeats 4000000
namespace Ev
open PySem L2 PyProof.Rows
/-! ### the checker: does a term of the language read this expression? -/
structure Ctx where
  N : List Str
  sc : Scope
  fnB : Str → Bool
def Ctx.blk (C : Ctx) (scope : Scope) : Ctx := ⟨C.N, relS scope C.sc, fun x => scope.names.lookup x == some .cell⟩
structure PCtx where
  fns : List (Str × (Nat × Nat × Option (Str × Int)))
  gls : List (Str × D)
  blt : List Str
  dcts : List (Str × List (Int × Int)) := []
  tab : Bool := false
  meths : List (Str × (Nat × Nat × Option (Str × Int))) := []
  ini : Option (Nat × Nat) := none
def kdB (C : Ctx) (x : Str) (k : NameKind) : Bool := C.sc.names.lookup x == some k
def visB (C : Ctx) (x : Str) : Bool := kdB C x .local || (kdB C x .cell || kdB C x .free)
def locB (C : Ctx) (x : Str) : Bool := kdB C x .local || kdB C x .cell
def stoB (C : Ctx) (x : Str) : Bool := C.fnB x || kdB C x .local
def glB (C : Ctx) (x : Str) : Bool := kdB C x .globalImplicit
def dbgB (x : Str) : Bool := !(x == ("__debug__" : Str)) && !(x == ("__classdict__" : Str))
def bltB (P : PCtx) (C : Ctx) (x : Str) : Bool := glB C x && P.blt.contains x
def varB (C : Ctx) (i : Nat) (x : Str) : Bool := C.N[i]? == some x && (visB C x && dbgB x)
def tgtB (C : Ctx) (i : Nat) (x : Str) : Bool := C.N[i]? == some x && (locB C x && stoB C x)
def scSame : D → D → Bool
  | .non, .non => true
  | .bl a, .bl b => a == b
  | .int a, .int b => a == b
  | .str a, .str b => a == b
  | _, _ => false
theorem scSame_eq {a b : D} (h : scSame a b = true) : a = b := by
  cases a <;> cases b <;> simp only [scSame] at h <;> first | rfl | (cases h; done) | (rw [eq_of_beq h])
def tgsB (C : Ctx) : List Nat → List Expr → Bool
  | [], [] => true
  | i :: is, .Name x _ :: es => tgtB C i x && tgsB C is es
  | _, _ => false
def tgB (C : Ctx) : Tg → Expr → Bool
  | .one i, .Name x _ => tgtB C i x
  | .many is, .Tuple es _ _ => tgsB C is es
  | _, _ => false
def ownsN (N : List Str) (vs : List Nat) : List (Str × Nat) := vs.filterMap fun v => N[v]?.map fun x => (x, v)
def blkB (C : Ctx) (scope : Scope) (vs : List Nat) : Bool :=
  (scope.kind == .function) && scope.names.all (fun y => scope.names.lookup y.1 == some y.2) && (ownsN C.N vs).map (·.2) == vs &&
  scope.names.all (fun y => !(y.2 == .free) || (kdB C y.1 .cell || kdB C y.1 .free)) && scope.names.all (fun y => !(y.2 == .local || y.2 == .cell) || ((ownsN C.N vs).map (·.1)).contains y.1 || !(C.N.contains y.1))
def isTupE : Expr → Bool
  | .Tuple _ _ _ => true
  | _ => false
section
variable (P : PCtx)
mutual
def ckE : IE → Ctx → Expr → Bool
  | .non, _, e => (match e with | .Constant .none _ _ => true | _ => false)
  | .bl b, _, e => (match e with | .Constant (.bool c) _ _ => b == c | _ => false)
  | .int b, _, e => (match e with | .Constant (.int c) _ _ => b == c | _ => false)
  | .str b, _, e => (match e with | .Constant (.str c) _ _ => b == c | _ => false)
  | .var i, C, e => (match e with | .Name x _ => varB C i x | _ => false)
  | .glob y d, C, e => (match e with | .Name x _ => x == y && (glB C x && (dbgB x && (match P.gls.lookup x with | some f => scSame f d | none => false))) | _ => false)
  | .bin o a b, C, e => (match e with | .BinOp l op r _ => op == opOf o && (ckE a C l && ckE b C r) | _ => false)
  | .neg a, C, e => (match e with | .UnaryOp .USub x _ => ckE a C x | _ => false)
  | .not a, C, e => (match e with | .UnaryOp .Not x _ => tst a && ckE a C x | _ => false)
  | .cmp o a b, C, e => (match e with | .Compare l [op] [r] _ => op == cOf o && (ckE a C l && ckE b C r) | _ => false)
  | .chain o o' a b c, C, e => (match e with | .Compare l [op, op'] [r, r'] _ => op == cOf o && (op' == cOf o' && (ckE a C l && (ckE b C r && ckE c C r'))) | _ => false)
  | .isC n c a, C, e => (match e with | .Compare l [op] [.Constant k _ _] _ => op == isOp n && (k == isK c && ckE a C l) | _ => false)
  | .andL es, C, e => (match e with | .BoolOp .And xs _ => ckB es C xs | _ => false)
  | .orL es, C, e => (match e with | .BoolOp .Or xs _ => ckB es C xs | _ => false)
  | .ite c a b, C, e => (match e with | .IfExp t x y _ => tst c && (ckE c C t && (ckE a C x && ckE b C y)) | _ => false)
  | .tup es, C, e => (match e with | .Tuple xs _ _ => ckEs es C xs | _ => false)
  | .lst es, C, e => (match e with | .List xs _ => ckEs es C xs | _ => false)
  | .idx a b, C, e => (match e with | .Subscript x y _ => ckE a C x && ckE b C y | _ => false)
  | .slice a l h, C, e => (match e with | .Subscript x (.Slice lo hi none _) _ => ckE a C x && (ckO l C lo && ckO h C hi) | _ => false)
  | .rev a, C, e => (match e with | .Subscript x (.Slice none none (some (.UnaryOp .USub (.Constant (.int 1) _ _) _)) _) _ => ckE a C x | _ => false)
  | .call f es, C, e => (match e with | .Call (.Name x _) xs [] _ => glB C x && (dbgB x && ((match P.fns.lookup x with | some (g, _, none) => g == f | _ => false) && ckEs es C xs)) | _ => false)
  | .nin a b, C, e => (match e with | .Compare l [op] [r] _ => op == .NotIn && (ckE a C l && ckE b C r) | _ => false)
  | .callF f a es, C, e => (match e with | .Call (.Name x _) (y :: xs) [] _ => newL a && (glB C x && (dbgB x && ((match P.fns.lookup x with | some (g, _, none) => g == f | _ => false) && (ckE a C y && ckEs es C xs)))) | _ => false)
  | .callD f es d, C, e => (match e with | .Call (.Name x _) (y :: xs) [] _ => glB C x && (dbgB x && ((match P.fns.lookup x with | some (g, _, some (_, v)) => g == f && scSame (.int v) d | _ => false) && ckEs es C (y :: xs))) | _ => false)
  | .callK f es kw b, C, e => (match e with | .Call (.Name x _) (y :: xs) [⟨some kn, z, _⟩] _ => glB C x && (dbgB x && ((match P.fns.lookup x with | some (g, _, some (k2, v)) => g == f && (k2 == kw && kn == kw) | _ => false) && (ckEs es C (y :: xs) && ckE b C z))) | _ => false)
  | .callL _ _ _, _, _ => false
  | .make f es, C, e => (match e with | .Call (.Name x _) (y :: xs) [] _ => P.tab && (x == ("Table" : Str) && (glB C x && ((match P.ini with | some (g, _) => g == f | none => false) && ckEs es C (y :: xs)))) | _ => false)
  | .fld i y, C, e => (match e with | .Attribute (.Name x _) z _ => P.tab && (z == y && (tabF.contains y && varB C i x)) | _ => false)
  | .meth f m i es, C, e => (match e with | .Call (.Attribute (.Name x _) z apos) xs [] pos => P.tab && (z == m && (varB C i x && ((match P.meths.lookup m with | some (g, _, none) => g == f | _ => false) && (decide (xs.length < 20) && ((apos.endLine == pos.line) && ckEs es C xs))))) | _ => false)
  | .methD _ _ _ _ _, _, _ => false
  | .methK f m i es kw b, C, e => (match e with | .Call (.Attribute (.Name x _) z apos) (y :: xs) [⟨some kn, v, _⟩] pos => P.tab && (z == m && (varB C i x && ((match P.meths.lookup m with | some (g, _, some (k2, _)) => g == f && (k2 == kw && kn == kw) | _ => false) && (decide ((y :: xs).length < 20) && ((apos.endLine == pos.line) && (ckEs es C (y :: xs) && ckE b C v)))))) | _ => false)
  | .popF i y, C, e => (match e with | .Call (.Attribute (.Attribute (.Name x _) z _) m apos) [] [] pos => P.tab && (z == y && (m == ("pop" : Str) && (tabF.contains y && (varB C i x && (apos.endLine == pos.line))))) | _ => false)
  | .nilF i y, C, e => (match e with | .Compare (.Attribute (.Name x _) z _) [.Eq] [.List [] _] _ => P.tab && (z == y && (tabF.contains y && varB C i x)) | _ => false)
  | .isiT a, C, e => (match e with | .Call (.Name x _) [y, .Name z _] [] _ => P.tab && (x == ("isinstance" : Str) && (z == ("Table" : Str) && (bltB P C "isinstance" && (glB C z && ckE a C y)))) | _ => false)
  | .eqM f a b, C, e => (match e with | .Compare l [op] [r] _ => P.tab && (op == .Eq && ((match P.meths.lookup ("__eq__" : Str) with | some (g, _, none) => g == f | _ => false) && (ckE a C l && ckE b C r))) | _ => false)
  | .callLK _ _ _ _ _, _, _ => false
  | .b1 o a, C, e => (match e with | .Call (.Name x _) [y] [] _ => x == bNm o && (bltB P C (bNm o) && ckE a C y) | _ => false)
  | .mm mx a b, C, e => (match e with | .Call (.Name x _) [y, z] [] _ => x == mmNm mx && (bltB P C (mmNm mx) && (ckE a C y && ckE b C z)) | _ => false)
  | .isi t a, C, e => (match e with | .Call (.Name x _) [y, .Name z _] [] _ => x == ("isinstance" : Str) && (z == Str.ofString (tyS t) && (bltB P C "isinstance" && (bltB P C (Str.ofString (tyS t)) && ckE a C y))) | _ => false)
  | .lrange a, C, e => (match e with | .Call (.Name x _) [.Call (.Name z _) [y] [] _] [] _ => x == ("list" : Str) && (z == ("range" : Str) && (bltB P C "list" && (bltB P C "range" && ckE a C y))) | _ => false)
  | .gidx y kvs k, C, e => (match e with | .Subscript (.Name x _) z _ => x == y && (glB C x && (dbgB x && ((P.dcts.lookup x == some kvs) && ckE k C z))) | _ => false)
  | .lcount i b, C, e => (match e with | .Call (.Attribute (.Name y _) m apos) [v] [] cpos => m == ("count" : Str) && (varB C i y && ((apos.endLine == cpos.line) && ckE b C v)) | _ => false)
  | .lindex i b, C, e => (match e with | .Call (.Attribute (.Name y _) m apos) [v] [] cpos => m == ("index" : Str) && (varB C i y && ((apos.endLine == cpos.line) && ckE b C v)) | _ => false)
  | .dget kvs k d, C, e => (match e with | .Call (.Attribute (.Dict ks vs _) at_ apos) [x, y] [] pos => at_ == ("get" : Str) && ((apos.endLine == pos.line) && (!(ks.isEmpty) && (decide (ks.length ≤ 15) && (ckPs kvs C ks vs && (ckE k C x && ckE d C y))))) | _ => false)
  | .didx kvs k, C, e => (match e with | .Subscript (.Dict ks vs _) x _ => !(ks.isEmpty) && (decide (ks.length ≤ 15) && (ckPs kvs C ks vs && ckE k C x)) | _ => false)
  | .comp vs tg it cond elt, C, e => (match e with | .ListComp x [⟨t, i, ifs, 0⟩] scope _ => blkB C scope vs && (tgIn vs tg && (tgB (C.blk scope) tg t && (ckT it C t i && (ckC cond (C.blk scope) ifs && ckE elt (C.blk scope) x)))) | _ => false)
  | .comp2 vs vs1 tg it tg1 it1 elt, C, e => (match e with | .ListComp x [⟨t, i, [], 0⟩, ⟨t1, i1, [], 0⟩] scope _ => blkB C scope vs && (tgIn vs tg && (tgIn vs1 tg1 && (vs1.all (fun v => vs.contains v) && (tgB (C.blk scope) tg t && (tgB (C.blk scope) tg1 t1 && (ckT it C t i && (ckT it1 (C.blk scope) t1 i1 && ckE elt (C.blk scope) x))))))) | _ => false)
def ckEs : IEs → Ctx → List Expr → Bool
  | .nil, _, es => es.isEmpty
  | .cons a as, C, es => (match es with | e :: es => ckE a C e && ckEs as C es | [] => false)
def ckB : IEs → Ctx → List Expr → Bool
  | .nil, _, _ => false
  | .cons a .nil, C, es => (match es with | [e] => tst a && ckE a C e | _ => false)
  | .cons a (.cons b bs), C, es => (match es with | e :: f :: es => tst a && (ckE a C e && ckB (.cons b bs) C (f :: es)) | _ => false)
def ckPs : IEs → Ctx → List (Option Expr) → List Expr → Bool
  | .nil, _, ks, vs => ks.isEmpty && vs.isEmpty
  | .cons _ .nil, _, _, _ => false
  | .cons a (.cons b r), C, ks, vs => (match ks, vs with | some k :: ks, v :: vs => ckE a C k && (ckE b C v && ckPs r C ks vs) | _, _ => false)
def ckO : IO → Ctx → Option Expr → Bool
  | .none, _, e => e.isNone
  | .some a, C, e => (match e with | some e => ckE a C e | none => false)
def ckC : IO → Ctx → List Expr → Bool
  | .none, _, e => e.isEmpty
  | .some a, C, e => (match e with | [e] => tst a && ckE a C e | _ => false)
def ckT : IT → Ctx → Expr → Expr → Bool
  | .seq a, C, _, e => ckE a C e
  | .rng1 a, C, _, e => (match e with | .Call (.Name x _) [y] [] _ => x == ("range" : Str) && (bltB P C "range" && ckE a C y) | _ => false)
  | .rng2 a b, C, _, e => (match e with | .Call (.Name x _) [y, z] [] _ => x == ("range" : Str) && (bltB P C "range" && (ckE a C y && ckE b C z)) | _ => false)
  | .zip a b, C, t, e => (match e with | .Call (.Name x _) [y, z] [] _ => x == ("zip" : Str) && (isTupE t && (bltB P C "zip" && (ckE a C y && ckE b C z))) | _ => false)
  | .enum a, C, t, e => (match e with | .Call (.Name x _) [y] [] _ => x == ("enumerate" : Str) && (isTupE t && (bltB P C "enumerate" && ckE a C y)) | _ => false)
end
end
structure Good (P : PCtx) (cl : Calls) (k : Nat) (X : Cx) (C : Ctx) : Prop where
  N : X.N = C.N
  nd : X.N.Nodup
  sc : X.env.scope = C.sc
  fn : ∀ x, C.fnB x = true → X.fn x = true
  calm : X.calm = true
  room : Room k X.A
  fns : ∀ x f np dk, P.fns.lookup x = some (f, np, dk) → HasFn X cl k x f np dk
  blt : ∀ x ∈ P.blt, X.mg x = none
  gls : ∀ x d, P.gls.lookup x = some d → d.sc = true ∧ ∃ u v, X.mg x = some u ∧ RelV v u ∧ ∀ sa ph A H, Rep sa ph A H v d
  dcts : ∀ x kvs, P.dcts.lookup x = some kvs → HasDct X x kvs
  tab : P.tab = true → TabK X
  meths : ∀ m f np dk, P.meths.lookup m = some (f, np, dk) → HasMeth X cl k m f np dk
  ini : ∀ f np, P.ini = some (f, np) → HasMake X cl k f np ∧ Room (k + 1) X.A
section
variable {P : PCtx} {cl : Calls} {k : Nat} {X : Cx} {C : Ctx} {x : Str} {i : Nat}
theorem Good.kd (g : Good P cl k X C) {q : NameKind} (h : kdB C x q = true) : X.env.scope.names.lookup x = some q := by
  rw [g.sc]
  exact eq_of_beq h
theorem Good.vis (g : Good P cl k X C) (h : visB C x = true) : Vis X.env.scope x := by
  unfold visB at h
  simp only [Bool.or_eq_true] at h
  rcases h with h | h | h
  · exact .inl (g.kd h)
  · exact .inr (.inl (g.kd h))
  · exact .inr (.inr (g.kd h))
theorem Good.loc (g : Good P cl k X C) (h : locB C x = true) : Loc X.env.scope x := by
  unfold locB at h
  simp only [Bool.or_eq_true] at h
  rcases h with h | h
  · exact .inl (g.kd h)
  · exact .inr (g.kd h)
theorem Good.sto (g : Good P cl k X C) (h : stoB C x = true) : X.fn x = true ∨ X.env.scope.names.lookup x = some .local := by
  unfold stoB at h
  simp only [Bool.or_eq_true] at h
  rcases h with h | h
  · exact .inl (g.fn x h)
  · exact .inr (g.kd h)
theorem Good.gl (g : Good P cl k X C) (h : glB C x = true) : Gl X x := g.kd h
theorem Good.bl (g : Good P cl k X C) (h : bltB P C x = true) : Gl X x ∧ X.mg x = none := by
  unfold bltB at h
  rw [Bool.and_eq_true] at h
  exact ⟨g.gl h.1, g.blt x (by simpa using h.2)⟩
theorem dbg_ok (h : dbgB x = true) : (x == ("__debug__" : Str)) = false ∧ (x == ("__classdict__" : Str)) = false := by
  unfold dbgB at h
  simpa using h
theorem Good.var (g : Good P cl k X C) (h : varB C i x = true) : X.N[i]? = some x ∧ Vis X.env.scope x ∧ (x == ("__debug__" : Str)) = false ∧ (x == ("__classdict__" : Str)) = false := by
  unfold varB at h
  simp only [Bool.and_eq_true] at h
  exact ⟨by rw [g.N]; exact eq_of_beq h.1, g.vis h.2.1, dbg_ok h.2.2⟩
theorem Good.tgt (g : Good P cl k X C) (h : tgtB C i x = true) : X.N[i]? = some x ∧ Loc X.env.scope x ∧ (X.fn x = true ∨ X.env.scope.names.lookup x = some .local) := by
  unfold tgtB at h
  simp only [Bool.and_eq_true] at h
  exact ⟨by rw [g.N]; exact eq_of_beq h.1, g.loc h.2.1, g.sto h.2.2⟩
theorem Good.hu (g : Good P cl k X C) : X.A.units + 64 < cLine := g.room.units
theorem Good.hu2 (g : Good P cl k X C) : X.A.units + 66 < cLine := by
  have := g.room.un
  omega
theorem Good.tgs (g : Good P cl k X C) : ∀ {is : List Nat} {es : List Expr}, tgsB C is es = true → PGs X es (gsOf is) ∧ es.length = is.length ∧ es.all plainX = true
  | [], [], _ => ⟨pgs_nil, rfl, rfl⟩
  | [], _ :: _, h => by cases h
  | i :: is, [], h => by cases h
  | i :: is, e :: es, h => by
    cases e <;> try (cases h; done)
    rename_i x pos
    have h : (tgtB C i x && tgsB C is es) = true := h
    rw [Bool.and_eq_true] at h
    obtain ⟨h1, h2, h3⟩ := g.tgt h.1
    obtain ⟨q1, q2, q3⟩ := Good.tgs g h.2
    exact ⟨pgs_cons (pg_name g.nd h1 h2 h3) q1, congrArg Nat.succ q2, by rw [List.all_cons, q3]; rfl⟩
theorem Good.tg (g : Good P cl k X C) {t : Tg} {e : Expr} (h : tgB C t e = true) : STg X e t := by
  cases t with
  | one i =>
    cases e <;> try (cases h; done)
    obtain ⟨h1, h2, h3⟩ := g.tgt h
    exact .one g.nd h1 h2 h3
  | many is =>
    cases e <;> try (cases h; done)
    obtain ⟨h1, h2, h3⟩ := g.tgs h
    exact .many g.calm h1 h2 h3
theorem Good.blk (g : Good P cl k X C) {scope : Scope} {s : Shared} {H : Hp} {c : List (Str × Addr)} {A : Addr} {fp : List Addr} : Good P cl k (X.blk s H scope (compEnvC scope c A X.env) fp) (C.blk scope) := by
  refine ⟨g.N, g.nd, ?_, fun x h => h, g.calm, g.room, fun x f np dk h => ?_, g.blt, g.gls, g.dcts, g.tab, fun m f np dk h => ⟨(g.meths m f np dk h).ex, (g.meths m f np dk h).len⟩, fun f np h => ⟨⟨(g.ini f np h).1.ex, (g.ini f np h).1.len⟩, (g.ini f np h).2⟩⟩
  · show relS scope X.env.scope = relS scope C.sc
    rw [g.sc]
  · exact ⟨(g.fns x f np dk h).ex, (g.fns x f np dk h).len⟩
theorem in_tabF {y : Str} (h : tabF.contains y = true) : y ∈ tabF := by simpa using h
theorem ownsN_ix {N : List Str} {vs : List Nat} : ∀ p ∈ ownsN N vs, N[p.2]? = some p.1 := by
  intro p hp
  unfold ownsN at hp
  obtain ⟨v, _, h⟩ := List.mem_filterMap.mp hp
  obtain ⟨y, h1, h2⟩ := Option.map_eq_some_iff.mp h
  subst h2
  exact h1
theorem Good.blkOk (g : Good P cl k X C) {scope : Scope} {vs : List Nat} (h : blkB C scope vs = true) : BlkOk X.N X.env.scope scope (ownsN C.N vs) ∧ (ownsN C.N vs).map (·.2) = vs := by
  unfold blkB at h
  simp only [Bool.and_eq_true] at h
  obtain ⟨⟨⟨⟨h1, h2⟩, h3⟩, h4⟩, h5⟩ := h
  refine ⟨⟨eq_of_beq h1, fun y hy => eq_of_beq (List.all_eq_true.mp h2 y hy), fun p hp => by rw [g.N]; exact ownsN_ix p hp, fun y hy e => ?_, fun y hy e => ?_⟩, eq_of_beq h3⟩
  · have := List.all_eq_true.mp h4 y hy
    rw [e] at this
    simp only [beq_self_eq_true, Bool.not_true, Bool.false_or, Bool.or_eq_true] at this
    rcases this with z | z
    · exact .inl (g.kd z)
    · exact .inr (g.kd z)
  · have := List.all_eq_true.mp h5 y hy
    have hk : (y.2 == .local || y.2 == .cell) = true := by
      rcases e with e | e <;> rw [e] <;> rfl
    rw [hk] at this
    simp only [Bool.not_true, Bool.false_or, Bool.or_eq_true, Bool.not_eq_true'] at this
    rcases this with z | z
    · exact .inl (by simpa using z)
    · exact .inr (by rw [g.N]; simpa using z)
end
end Ev

set_option Elab.async false
set_option linter.all false
set_option maxRecDepth 100000
set_option maxHeartbeats 4000000
namespace Ev
open PySem L2 PyProof.Rows
section
variable {P : PCtx} {cl : Calls} {k : Nat}
theorem SB.cons {X : Cx} {op : BoolOp} {es : List Expr} {ie : IE} {pos : Pos} (h : SB X cl op es ie) : SE X cl (.BoolOp op es pos) ie := h.se
mutual
theorem okE : ∀ (ie : IE) (X : Cx) (C : Ctx) (e : Expr), Good P cl k X C → ckE P ie C e = true → SE X cl e ie
  | .non, X, C, e, g, h => by
    unfold ckE at h
    split at h
    · exact s_non
    · cases h
  | .bl b, X, C, e, g, h => by
    unfold ckE at h
    split at h
    · rw [eq_of_beq h]; exact s_bl
    · cases h
  | .int b, X, C, e, g, h => by
    unfold ckE at h
    split at h
    · rw [eq_of_beq h]; exact s_int
    · cases h
  | .str b, X, C, e, g, h => by
    unfold ckE at h
    split at h
    · rw [eq_of_beq h]; exact s_str
    · cases h
  | .var i, X, C, e, g, h => by
    unfold ckE at h
    split at h
    · obtain ⟨h1, h2, h3, h4⟩ := g.var h
      exact s_var h1 h2 h3 h4
    · cases h
  | .glob y d, X, C, e, g, h => by
    unfold ckE at h
    split at h
    · rename_i x pos
      simp only [Bool.and_eq_true] at h
      obtain ⟨h1, h2, h3, h4⟩ := h
      rw [← eq_of_beq h1]
      split at h4
      · rename_i f hf
        rw [← scSame_eq h4]
        obtain ⟨q1, u, v, q2, q3, q4⟩ := g.gls x f hf
        exact s_glob (g.gl h2) q2 q3 q1 q4 (dbg_ok h3).1
      · cases h4
    · cases h
  | .bin o a b, X, C, e, g, h => by
    unfold ckE at h
    split at h
    · simp only [Bool.and_eq_true] at h
      obtain ⟨h1, h2, h3⟩ := h
      rw [eq_of_beq h1]
      exact s_bin o (okE a X C _ g h2) (okE b X C _ g h3)
    · cases h
  | .neg a, X, C, e, g, h => by
    unfold ckE at h
    split at h
    · exact s_neg (okE a X C _ g h)
    · cases h
  | .not a, X, C, e, g, h => by
    unfold ckE at h
    split at h
    · simp only [Bool.and_eq_true] at h
      exact s_not (okE a X C _ g h.2) h.1
    · cases h
  | .cmp o a b, X, C, e, g, h => by
    unfold ckE at h
    split at h
    · simp only [Bool.and_eq_true] at h
      obtain ⟨h1, h2, h3⟩ := h
      rw [eq_of_beq h1]
      exact s_cmp g.hu o (okE a X C _ g h2) (okE b X C _ g h3)
    · cases h
  | .chain o o' a b c, X, C, e, g, h => by
    unfold ckE at h
    split at h
    · simp only [Bool.and_eq_true] at h
      obtain ⟨h1, h2, h3, h4, h5⟩ := h
      rw [eq_of_beq h1, eq_of_beq h2]
      exact s_chain g.hu o o' (okE a X C _ g h3) (okE b X C _ g h4) (okE c X C _ g h5)
    · cases h
  | .isC n c a, X, C, e, g, h => by
    unfold ckE at h
    split at h
    · simp only [Bool.and_eq_true] at h
      obtain ⟨h1, h2, h3⟩ := h
      rw [eq_of_beq h1, eq_of_beq h2]
      exact s_isC n c (okE a X C _ g h3)
    · cases h
  | .andL es, X, C, e, g, h => by
    unfold ckE at h
    split at h
    · exact (okAnd es X C _ g h).se
    · cases h
  | .orL es, X, C, e, g, h => by
    unfold ckE at h
    split at h
    · exact (okOr es X C _ g h).se
    · cases h
  | .ite c a b, X, C, e, g, h => by
    unfold ckE at h
    split at h
    · simp only [Bool.and_eq_true] at h
      obtain ⟨h1, h2, h3, h4⟩ := h
      exact s_ite h1 (okE c X C _ g h2) (okE a X C _ g h3) (okE b X C _ g h4)
    · cases h
  | .tup es, X, C, e, g, h => by
    unfold ckE at h
    split at h
    · exact s_tup (okEs es X C _ g h)
    · cases h
  | .lst es, X, C, e, g, h => by
    unfold ckE at h
    split at h
    · exact s_lst (okEs es X C _ g h)
    · cases h
  | .idx a b, X, C, e, g, h => by
    unfold ckE at h
    split at h
    · simp only [Bool.and_eq_true] at h
      exact s_idx (okE a X C _ g h.1) (okE b X C _ g h.2)
    · cases h
  | .slice a l hi, X, C, e, g, h => by
    unfold ckE at h
    split at h
    · simp only [Bool.and_eq_true] at h
      exact s_slice (okE a X C _ g h.1) (okO l X C _ g h.2.1) (okO hi X C _ g h.2.2)
    · cases h
  | .rev a, X, C, e, g, h => by
    unfold ckE at h
    split at h
    · exact s_rev (okE a X C _ g h)
    · cases h
  | .call f es, X, C, e, g, h => by
    unfold ckE at h
    split at h
    · rename_i x p xs pos
      simp only [Bool.and_eq_true] at h
      obtain ⟨h1, h2, h3, h4⟩ := h
      split at h3
      · rename_i f' np hf
        have e := eq_of_beq h3
        subst e
        exact s_call (g.fns x _ _ _ hf) g.room (g.gl h1) (dbg_ok h2).1 (okEs es X C _ g h4)
      · cases h3
    · cases h
  | .nin a b, X, C, e, g, h => by
    unfold ckE at h
    split at h
    · simp only [Bool.and_eq_true] at h
      rw [eq_of_beq h.1]
      exact s_nin g.hu (okE a X C _ g h.2.1) (okE b X C _ g h.2.2)
    · cases h
  | .callF f a es, X, C, e, g, h => by
    unfold ckE at h
    split at h
    · rename_i x p y xs pos
      simp only [Bool.and_eq_true] at h
      obtain ⟨h0, h1, h2, h3, h4, h5⟩ := h
      split at h3
      · rename_i f' np hf
        have e := eq_of_beq h3
        subst e
        exact s_callF (g.fns x _ _ _ hf) g.room (g.gl h1) (dbg_ok h2).1 h0 (okE a X C _ g h4) (okEs es X C _ g h5)
      · cases h3
    · cases h
  | .callD f es d, X, C, e, g, h => by
    unfold ckE at h
    split at h
    · rename_i x p y xs pos
      simp only [Bool.and_eq_true] at h
      obtain ⟨h1, h2, h3, h4⟩ := h
      split at h3
      · rename_i f' np kw v hf
        simp only [Bool.and_eq_true] at h3
        have e := eq_of_beq h3.1
        subst e
        rw [← scSame_eq h3.2]
        exact s_callD (g.fns x _ _ _ hf) g.room (g.gl h1) (dbg_ok h2).1 (okEs es X C _ g h4)
      · cases h3
    · cases h
  | .callK f es kw b, X, C, e, g, h => by
    unfold ckE at h
    split at h
    · rename_i x p y xs kn z kp pos
      simp only [Bool.and_eq_true] at h
      obtain ⟨h1, h2, h3, h4, h5⟩ := h
      split at h3
      · rename_i f' np k2 v hf
        simp only [Bool.and_eq_true] at h3
        have e := eq_of_beq h3.1
        subst e
        have e2 := eq_of_beq h3.2.1
        have e3 := eq_of_beq h3.2.2
        subst e2
        rw [e3]
        exact s_callK (g.fns x _ _ _ hf) g.room (g.gl h1) (dbg_ok h2).1 (okEs es X C _ g h4) (okE b X C _ g h5)
      · cases h3
    · cases h
  | .make f es, X, C, e, g, h => by
    unfold ckE at h
    split at h
    · simp only [Bool.and_eq_true] at h
      obtain ⟨h1, h2, h3, h4, h5⟩ := h
      rw [eq_of_beq h2] at h3 ⊢
      split at h4
      · rename_i hf
        have e := eq_of_beq h4
        subst e
        obtain ⟨m1, m2⟩ := g.ini _ _ hf
        exact s_make (g.tab h1) m1 m2 (g.gl h3) (okEs es X C _ g h5)
      · cases h4
    · cases h
  | .fld i y, X, C, e, g, h => by
    unfold ckE at h
    split at h
    · simp only [Bool.and_eq_true] at h
      obtain ⟨h1, h2, h3, h4⟩ := h
      obtain ⟨q1, q2, q3, q4⟩ := g.var h4
      rw [eq_of_beq h2]
      exact s_fld (g.tab h1) (in_tabF h3) q1 q2 q3 q4
    · cases h
  | .meth f m i es, X, C, e, g, h => by
    unfold ckE at h
    split at h
    · simp only [Bool.and_eq_true] at h
      obtain ⟨h1, h2, h3, h4, h5, h6, h7⟩ := h
      obtain ⟨q1, q2, q3, q4⟩ := g.var h3
      rw [eq_of_beq h2]
      split at h4
      · rename_i hf
        have e := eq_of_beq h4
        subst e
        exact s_meth (g.tab h1) (g.meths _ _ _ _ hf) g.room q1 q2 q3 q4 (okEs es X C _ g h7) (of_decide_eq_true h5) h6
      · cases h4
    · cases h
  | .methD _ _ _ _ _, X, C, e, g, h => by
    unfold ckE at h
    cases h
  | .methK f m i es kw b, X, C, e, g, h => by
    unfold ckE at h
    split at h
    · simp only [Bool.and_eq_true] at h
      obtain ⟨h1, h2, h3, h4, h5, h6, h7, h8⟩ := h
      obtain ⟨q1, q2, q3, q4⟩ := g.var h3
      rw [eq_of_beq h2]
      split at h4
      · rename_i hf
        simp only [Bool.and_eq_true] at h4
        have e := eq_of_beq h4.1
        subst e
        have e2 := eq_of_beq h4.2.1
        have e3 := eq_of_beq h4.2.2
        subst e2
        rw [e3]
        exact s_methK (g.tab h1) (g.meths _ _ _ _ hf) g.room q1 q2 q3 q4 (okEs es X C _ g h7) (okE b X C _ g h8) (of_decide_eq_true h5) h6
      · cases h4
    · cases h
  | .popF i y, X, C, e, g, h => by
    unfold ckE at h
    split at h
    · simp only [Bool.and_eq_true] at h
      obtain ⟨h1, h2, h3, h4, h5, h6⟩ := h
      obtain ⟨q1, q2, q3, q4⟩ := g.var h5
      rw [eq_of_beq h2, eq_of_beq h3]
      exact s_popF (g.tab h1) (in_tabF h4) q1 q2 q3 q4 h6
    · cases h
  | .nilF i y, X, C, e, g, h => by
    unfold ckE at h
    split at h
    · simp only [Bool.and_eq_true] at h
      obtain ⟨h1, h2, h3, h4⟩ := h
      obtain ⟨q1, q2, q3, q4⟩ := g.var h4
      rw [eq_of_beq h2]
      exact s_nilF (g.tab h1) g.hu (in_tabF h3) q1 q2 q3 q4
    · cases h
  | .isiT a, X, C, e, g, h => by
    unfold ckE at h
    split at h
    · simp only [Bool.and_eq_true] at h
      obtain ⟨h1, h2, h3, h4, h5, h6⟩ := h
      rw [eq_of_beq h2]
      rw [eq_of_beq h3] at h5 ⊢
      exact s_isiT (g.tab h1) (g.bl h4).1 (g.bl h4).2 (g.gl h5) (okE a X C _ g h6)
    · cases h
  | .eqM f a b, X, C, e, g, h => by
    unfold ckE at h
    split at h
    · simp only [Bool.and_eq_true] at h
      obtain ⟨h1, h2, h3, h4, h5⟩ := h
      rw [eq_of_beq h2]
      split at h3
      · rename_i hf
        have e := eq_of_beq h3
        subst e
        exact s_eqM (g.tab h1) (g.meths _ _ _ _ hf) g.room (okE a X C _ g h4) (okE b X C _ g h5)
      · cases h3
    · cases h
  | .callL _ _ _, X, C, e, g, h => by
    unfold ckE at h
    cases h
  | .callLK _ _ _ _ _, X, C, e, g, h => by
    unfold ckE at h
    cases h
  | .b1 o a, X, C, e, g, h => by
    unfold ckE at h
    split at h
    · simp only [Bool.and_eq_true] at h
      obtain ⟨h1, h3, h4⟩ := h
      rw [eq_of_beq h1]
      exact s_b1 o g.calm g.hu (g.bl h3).1 (g.bl h3).2 (okE a X C _ g h4)
    · cases h
  | .mm mx a b, X, C, e, g, h => by
    unfold ckE at h
    split at h
    · simp only [Bool.and_eq_true] at h
      obtain ⟨h1, h3, h4, h5⟩ := h
      rw [eq_of_beq h1]
      exact s_mm mx g.calm (g.bl h3).1 (g.bl h3).2 (okE a X C _ g h4) (okE b X C _ g h5)
    · cases h
  | .isi t a, X, C, e, g, h => by
    unfold ckE at h
    split at h
    · simp only [Bool.and_eq_true] at h
      obtain ⟨h1, h2, h3, h4, h5⟩ := h
      rw [eq_of_beq h1, eq_of_beq h2]
      exact s_isi t (g.bl h3).1 (g.bl h3).2 (g.bl h4).1 (g.bl h4).2 (okE a X C _ g h5)
    · cases h
  | .lrange a, X, C, e, g, h => by
    unfold ckE at h
    split at h
    · simp only [Bool.and_eq_true] at h
      obtain ⟨h1, h2, h3, h4, h5⟩ := h
      rw [eq_of_beq h1, eq_of_beq h2]
      exact s_lrange g.calm (g.bl h3).1 (g.bl h3).2 (g.bl h4).1 (g.bl h4).2 (okE a X C _ g h5)
    · cases h
  | .gidx y kvs kk, X, C, e, g, h => by
    unfold ckE at h
    split at h
    · simp only [Bool.and_eq_true] at h
      obtain ⟨h1, h2, h3, h4, h5⟩ := h
      rw [← eq_of_beq h1]
      exact s_gidx (g.dcts _ _ (eq_of_beq h4)) (g.gl h2) (dbg_ok h3).1 (okE kk X C _ g h5)
    · cases h
  | .lcount i b, X, C, e, g, h => by
    unfold ckE at h
    split at h
    · simp only [Bool.and_eq_true] at h
      obtain ⟨h1, h2, h3, h4⟩ := h
      obtain ⟨q1, q2, q3, q4⟩ := g.var h2
      rw [eq_of_beq h1]
      exact s_lcount g.hu2 q1 q2 q3 q4 h3 (okE b X C _ g h4)
    · cases h
  | .lindex i b, X, C, e, g, h => by
    unfold ckE at h
    split at h
    · simp only [Bool.and_eq_true] at h
      obtain ⟨h1, h2, h3, h4⟩ := h
      obtain ⟨q1, q2, q3, q4⟩ := g.var h2
      rw [eq_of_beq h1]
      exact s_lindex g.hu2 q1 q2 q3 q4 h3 (okE b X C _ g h4)
    · cases h
  | .dget kvs kk d, X, C, e, g, h => by
    unfold ckE at h
    split at h
    · rename_i ks vs p1 at_ apos x y pos
      simp only [Bool.and_eq_true] at h
      obtain ⟨h1, h2, h3, h4, h5, h6, h7⟩ := h
      rw [eq_of_beq h1]
      exact s_dget g.hu (okPs kvs X C _ _ g h5) (fun z => by rw [z] at h3; cases h3) (of_decide_eq_true h4) h2 (okE kk X C _ g h6) (okE d X C _ g h7)
    · cases h
  | .didx kvs kk, X, C, e, g, h => by
    unfold ckE at h
    split at h
    · simp only [Bool.and_eq_true] at h
      obtain ⟨h3, h4, h5, h6⟩ := h
      exact s_didx g.hu (okPs kvs X C _ _ g h5) (fun z => by rw [z] at h3; cases h3) (of_decide_eq_true h4) (okE kk X C _ g h6)
    · cases h
  | .comp vs tg it cond elt, X, C, e, g, h => by
    unfold ckE at h
    split at h
    · rename_i x t i ifs scope pos
      simp only [Bool.and_eq_true] at h
      obtain ⟨h1, h2, h3, h4, h5, h6⟩ := h
      obtain ⟨b1, b2⟩ := g.blkOk h1
      exact s_comp g.calm g.nd (okT it X C _ _ g h4) b1 b2 h2 (fun s H A c fp => (g.blk.tg h3).pg) (fun s H A c fp => okC cond _ _ _ g.blk h5) (fun s H A c fp => (okE elt _ _ _ g.blk h6).pe)
    · cases h
  | .comp2 vs vs1 tg it tg1 it1 elt, X, C, e, g, h => by
    unfold ckE at h
    split at h
    · rename_i x t i t1 i1 scope pos
      simp only [Bool.and_eq_true] at h
      obtain ⟨h1, h2, h2', hv, h3, h3', h4, h4', h6⟩ := h
      obtain ⟨b1, b2⟩ := g.blkOk h1
      have hp : plainX i1 = true := (okT it1 (X.blk X.s_0 X.H_0 scope (compEnvC scope [] 0 X.env) []) _ t1 i1 g.blk h4').pl
      exact s_comp2 g.calm g.nd (okT it X C _ _ g h4) b1 b2 (fun i hi => by simpa using List.all_eq_true.mp hv i hi) h2 h2' (fun s H A c fp => (g.blk.tg h3).pg) (fun s H A c fp => (okT it1 _ _ _ _ g.blk h4').pi) hp (fun s H A c fp => (g.blk.tg h3').pg) (fun s H A c fp => (okE elt _ _ _ g.blk h6).pe)
    · cases h
theorem okEs : ∀ (ies : IEs) (X : Cx) (C : Ctx) (es : List Expr), Good P cl k X C → ckEs P ies C es = true → SA X cl es ies
  | .nil, X, C, es, g, h => by
    unfold ckEs at h
    cases es with
    | nil => exact sa_nil
    | cons _ _ => cases h
  | .cons a as, X, C, es, g, h => by
    unfold ckEs at h
    split at h
    · simp only [Bool.and_eq_true] at h
      exact sa_cons (okE a X C _ g h.1) (okEs as X C _ g h.2)
    · cases h
theorem okAnd : ∀ (ies : IEs) (X : Cx) (C : Ctx) (es : List Expr), Good P cl k X C → ckB P ies C es = true → SB X cl .And es (.andL ies)
  | .nil, X, C, es, g, h => by
    unfold ckB at h
    cases h
  | .cons a .nil, X, C, es, g, h => by
    unfold ckB at h
    split at h
    · simp only [Bool.and_eq_true] at h
      exact sb_and1 (okE a X C _ g h.2) h.1
    · cases h
  | .cons a (.cons b bs), X, C, es, g, h => by
    unfold ckB at h
    split at h
    · simp only [Bool.and_eq_true] at h
      exact sb_and h.1 (okE a X C _ g h.2.1) (okAnd (.cons b bs) X C _ g h.2.2)
    · cases h
theorem okOr : ∀ (ies : IEs) (X : Cx) (C : Ctx) (es : List Expr), Good P cl k X C → ckB P ies C es = true → SB X cl .Or es (.orL ies)
  | .nil, X, C, es, g, h => by
    unfold ckB at h
    cases h
  | .cons a .nil, X, C, es, g, h => by
    unfold ckB at h
    split at h
    · simp only [Bool.and_eq_true] at h
      exact sb_or1 (okE a X C _ g h.2) h.1
    · cases h
  | .cons a (.cons b bs), X, C, es, g, h => by
    unfold ckB at h
    split at h
    · simp only [Bool.and_eq_true] at h
      exact sb_or h.1 (okE a X C _ g h.2.1) (okOr (.cons b bs) X C _ g h.2.2)
    · cases h
theorem okPs : ∀ (ies : IEs) (X : Cx) (C : Ctx) (ks : List (Option Expr)) (vs : List Expr), Good P cl k X C → ckPs P ies C ks vs = true → SPs X cl ks vs ies
  | .nil, X, C, ks, vs, g, h => by
    unfold ckPs at h
    cases ks with
    | nil =>
      cases vs with
      | nil => exact .nil
      | cons _ _ => cases h
    | cons _ _ => cases h
  | .cons _ .nil, X, C, ks, vs, g, h => by
    unfold ckPs at h
    cases h
  | .cons a (.cons b r), X, C, ks, vs, g, h => by
    unfold ckPs at h
    split at h
    · simp only [Bool.and_eq_true] at h
      exact .cons (okE a X C _ g h.1) (okE b X C _ g h.2.1) (okPs r X C _ _ g h.2.2)
    · cases h
theorem okO : ∀ (io : IO) (X : Cx) (C : Ctx) (e : Option Expr), Good P cl k X C → ckO P io C e = true → SO X cl e io
  | .none, X, C, e, g, h => by
    unfold ckO at h
    cases e with
    | none => exact so_none
    | some _ => cases h
  | .some a, X, C, e, g, h => by
    unfold ckO at h
    split at h
    · exact so_some (okE a X C _ g h)
    · cases h
theorem okC : ∀ (io : IO) (X : Cx) (C : Ctx) (es : List Expr), Good P cl k X C → ckC P io C es = true → PTs X es (tCd X.K cl io)
  | .none, X, C, es, g, h => by
    unfold ckC at h
    cases es with
    | nil => exact pts_nil
    | cons _ _ => cases h
  | .some a, X, C, es, g, h => by
    unfold ckC at h
    split at h
    · simp only [Bool.and_eq_true] at h
      exact pts_one ((okE a X C _ g h.2).pt h.1)
    · cases h
theorem okT : ∀ (it : IT) (X : Cx) (C : Ctx) (t e : Expr), Good P cl k X C → ckT P it C t e = true → SI X cl t e it
  | .seq a, X, C, t, e, g, h => by
    unfold ckT at h
    exact si_seq (okE a X C _ g h)
  | .rng1 a, X, C, t, e, g, h => by
    unfold ckT at h
    split at h
    · simp only [Bool.and_eq_true] at h
      obtain ⟨h1, h3, h4⟩ := h
      rw [eq_of_beq h1]
      exact si_rng1 (g.bl h3).1 (g.bl h3).2 (okE a X C _ g h4)
    · cases h
  | .rng2 a b, X, C, t, e, g, h => by
    unfold ckT at h
    split at h
    · simp only [Bool.and_eq_true] at h
      obtain ⟨h1, h3, h4, h5⟩ := h
      rw [eq_of_beq h1]
      exact si_rng2 (g.bl h3).1 (g.bl h3).2 (okE a X C _ g h4) (okE b X C _ g h5)
    · cases h
  | .zip a b, X, C, t, e, g, h => by
    unfold ckT at h
    split at h
    · simp only [Bool.and_eq_true] at h
      obtain ⟨h1, h2, h3, h4, h5⟩ := h
      rw [eq_of_beq h1]
      cases t <;> try (cases h2; done)
      exact si_zip (g.bl h3).1 (g.bl h3).2 (okE a X C _ g h4) (okE b X C _ g h5)
    · cases h
  | .enum a, X, C, t, e, g, h => by
    unfold ckT at h
    split at h
    · simp only [Bool.and_eq_true] at h
      obtain ⟨h1, h2, h3, h4⟩ := h
      rw [eq_of_beq h1]
      cases t <;> try (cases h2; done)
      exact si_enum (g.bl h3).1 (g.bl h3).2 (okE a X C _ g h4)
    · cases h
end
end
end Ev

set_option Elab.async false
set_option linter.all false
set_option maxRecDepth 100000
set_option maxHeartbeats 4000000
namespace Ev
open PySem L2 PyProof.Rows
/-! ### what never raises -/
def NE {α : Type} (x : M α) : Prop := ∀ μ c μ', x μ ≠ .ex c μ'
theorem NE.pure {α : Type} {a : α} : NE (Pure.pure a : M α) := fun μ c μ' h => by cases h
theorem NE.ret {α : Type} {a : α} : NE (M.ret a : M α) := fun μ c μ' h => by cases h
theorem NE.no {α : Type} : NE (M.no : M α) := fun μ c μ' h => by cases h
theorem NE.opt {α : Type} {o : Option α} : NE (M.opt o) := fun μ c μ' h => by cases o <;> cases h
theorem NE.bind {α β : Type} {x : M α} {f : α → M β} (hx : NE x) (hf : ∀ a, NE (f a)) : NE (x >>= f) := fun μ c μ' h => by
  have h : M.bnd x f μ = .ex c μ' := h
  unfold M.bnd at h
  cases e : x μ with
  | ok a μ1 => rw [e] at h; exact hf a μ1 c μ' h
  | ex c1 μ1 => exact hx μ c1 μ1 e
  | bad => rw [e] at h; cases h
theorem NE.ite {α : Type} {p : Prop} [Decidable p] {x y : M α} (hx : NE x) (hy : NE y) : NE (if p then x else y) := by split <;> assumption
theorem NE.grab {α : Type} {x : M α} {f : Nat → Option α} : NE (M.grab x f) := fun μ c μ' h => by
  unfold M.grab at h
  cases e : x μ with
  | ok a μ1 => rw [e] at h; cases h
  | ex c1 μ1 =>
    rw [e] at h
    simp only at h
    split at h <;> cases h
  | bad => rw [e] at h; cases h
theorem NE.compM {f : D → M (Option D)} (h : ∀ d, NE (f d)) : ∀ ds, NE (compM f ds)
  | [] => NE.pure
  | x :: xs => by
    unfold Ev.compM
    exact .bind (h x) fun _ => .bind (NE.compM h xs) fun _ => .pure
theorem NE.compM2 {f : D → M (List D)} (h : ∀ d, NE (f d)) : ∀ ds, NE (compM2 f ds)
  | [] => NE.pure
  | x :: xs => by
    unfold Ev.compM2
    exact .bind (h x) fun _ => .bind (NE.compM2 h xs) fun _ => .pure
theorem NE.forM {step : D → Env → M (Fl × Env)} (h : ∀ d ρ, NE (step d ρ)) : ∀ ds ρ, NE (forM step ds ρ)
  | [], ρ => NE.pure
  | x :: xs, ρ => by
    unfold Ev.forM
    refine .bind (h x ρ) fun p => ?_
    split
    · exact NE.forM h xs _
    · exact NE.forM h xs _
    · exact .pure
theorem NE.whileM {test : Env → M Bool} {step : Env → M (Fl × Env)} (h1 : ∀ ρ, NE (test ρ)) (h2 : ∀ ρ, NE (step ρ)) : ∀ n ρ, NE (whileM test step n ρ)
  | 0, ρ => NE.no
  | n + 1, ρ => by
    unfold Ev.whileM
    refine .bind (h1 ρ) fun k => .ite (.bind (h2 ρ) fun p => ?_) .pure
    split
    · exact NE.whileM h1 h2 n _
    · exact NE.whileM h1 h2 n _
    · exact .pure
theorem NE.lenM {S : List Int} : ∀ {d : D}, NE (lenM S d)
  | .lst _ => NE.pure
  | .tup _ => NE.pure
  | .scr => NE.pure
  | .mref n => fun μ c μ' h => by
    have h : (match muLst μ n with | some ds => R.ok (D.int ds.length) μ | none => R.bad) = .ex c μ' := h
    cases q : muLst μ n with
    | some ds => rw [q] at h; cases h
    | none => rw [q] at h; cases h
  | .non => NE.no
  | .bl _ => NE.no
  | .int _ => NE.no
  | .str _ => NE.no
theorem NE.flds {o : D} : NE (fldsM o) := fun μ c μ' h => by
  cases o with
  | mref n =>
    have h : (match muIns μ n with | some fs => R.ok fs μ | none => R.bad) = .ex c μ' := h
    cases q : muIns μ n with
    | some ds => rw [q] at h; cases h
    | none => rw [q] at h; cases h
  | _ => cases h
theorem NE.its {o : D} : NE (itsM o) := fun μ c μ' h => by
  cases o with
  | mref n =>
    have h : (match muLst μ n with | some fs => R.ok fs μ | none => R.bad) = .ex c μ' := h
    cases q : muLst μ n with
    | some ds => rw [q] at h; cases h
    | none => rw [q] at h; cases h
  | _ => cases h
theorem NE.setM {o : D} {mo : MO} : NE (setM o mo) := fun μ c μ' h => by cases o <;> cases h
theorem NE.newM {mo : MO} : NE (newM mo) := fun μ c μ' h => by cases h
theorem NE.fldM {o : D} {x : Str} : NE (fldM o x) := .bind .flds fun _ => .opt
theorem NE.noFld {o : D} {x : Str} : NE (noFld o x) := .bind .flds fun _ => .ite .pure .no
theorem NE.setFld {o d : D} {x : Str} : NE (setFld o x d) := .bind .flds fun _ => .ite .setM .no
theorem NE.eqChk {x y : D} : NE (eqChk x y) := .bind .flds fun _ => by cases y <;> first | exact .no | exact .pure | exact .bind .flds fun _ => .pure
theorem NE.noneTo {r o : D} : NE (noneTo r o) := by cases r <;> first | exact .no | exact .pure
theorem NE.b1M {S : List Int} {o : B1} {d : D} : NE (b1M S o d) := by
  cases o
  case len => exact (show NE (Ev.lenM S d) from NE.lenM)
  all_goals (cases d <;> first | exact NE.no | exact NE.pure | exact NE.opt)
theorem NE.appTo {ρ : Env} {x : Nat} {e : IE} {d : D} : NE (appTo ρ x e d) := by
  unfold Ev.appTo
  split
  · exact .ite .pure .no
  · refine .ite (fun μ c μ' h => ?_) .no
    split at h
    · split at h <;> cases h
    · cases h
  · exact .no
section
variable (nf : Nat → Bool)
mutual
def pE : IE → Bool
  | .bin _ a b => pE a && pE b
  | .neg a => pE a
  | .not a => pE a
  | .cmp _ a b => pE a && pE b
  | .chain _ _ a b c => pE a && (pE b && pE c)
  | .isC _ _ a => pE a
  | .andL es => pEs es
  | .orL es => pEs es
  | .ite c a b => pE c && (pE a && pE b)
  | .tup es => pEs es
  | .lst es => pEs es
  | .idx a i => pE a && pE i
  | .slice a l h => pE a && (pO l && pO h)
  | .rev a => pE a
  | .call f es => nf f && pEs es
  | .callD f es _ => nf f && pEs es
  | .callF f a es => nf f && (pE a && pEs es)
  | .nin a b => pE a && pE b
  | .callK f es _ e => nf f && (pEs es && pE e)
  | .callL _ _ _ => false
  | .make f es => nf f && pEs es
  | .meth f _ _ es => nf f && pEs es
  | .methD f _ _ es _ => nf f && pEs es
  | .methK f _ _ es _ e => nf f && (pEs es && pE e)
  | .isiT a => pE a
  | .eqM f a b => nf f && (pE a && pE b)
  | .callLK _ _ _ _ _ => false
  | .b1 _ a => pE a
  | .mm _ a b => pE a && pE b
  | .isi _ a => pE a
  | .lrange a => pE a
  | .gidx _ _ k => pE k
  | .lcount _ b => pE b
  | .lindex _ b => pE b
  | .dget kvs k d => pEs kvs && (pE k && pE d)
  | .didx kvs k => pEs kvs && pE k
  | .comp _ _ it cd e => pT it && (pO cd && pE e)
  | .comp2 _ _ _ it _ it1 e => pT it && (pT it1 && pE e)
  | _ => true
def pEs : IEs → Bool
  | .nil => true
  | .cons e es => pE e && pEs es
def pO : IO → Bool
  | .none => true
  | .some e => pE e
def pT : IT → Bool
  | .seq a => pE a
  | .rng1 a => pE a
  | .rng2 a b => pE a && pE b
  | .zip a b => pE a && pE b
  | .enum a => pE a
end
mutual
def pS : IS → Bool
  | .assign _ e => pE nf e
  | .newRef _ => true
  | .unpack _ e => pE nf e
  | .par _ _ a b => pE nf a && pE nf b
  | .setIdx _ k e => pE nf k && pE nf e
  | .swap2 _ k1 k2 e1 e2 => pE nf k1 && (pE nf k2 && (pE nf e1 && pE nf e2))
  | .aug _ e => pE nf e
  | .augIdx _ k e => pE nf k && pE nf e
  | .append _ e => pE nf e
  | .extend _ e => pE nf e
  | .appPop _ _ e => pE nf e
  | .expr e => pE nf e
  | .ite c a b => pE nf c && (pSs a && pSs b)
  | .for_ _ it body => pT nf it && pSs body
  | .while_ _ c body => pE nf c && pSs body
  | .ret e => pE nf e
  | .raise _ => false
  | .cont => true
  | .stuck => true
  | .opq _ => false
  | .setF _ _ e => pE nf e
  | .newF _ _ => true
  | .appF _ _ e => pE nf e
  | .tryW _ _ => true
def pSs : ISs → Bool
  | .nil => true
  | .cons s ss => pS s && pSs ss
end
end
section
variable {nf : Nat → Bool} {S : List Int} {c : Nat → List D → M D}
theorem and2 {a b : Bool} (h : (a && b) = true) : a = true ∧ b = true := Bool.and_eq_true_iff.mp h
mutual
theorem neE (hc : ∀ f ds, nf f = true → NE (c f ds)) : ∀ (e : IE) (ρ : Env), pE nf e = true → NE (evE S c e ρ)
  | .non, ρ, h => by rw [evE]; exact .pure
  | .bl _, ρ, h => by rw [evE]; exact .pure
  | .int _, ρ, h => by rw [evE]; exact .pure
  | .str _, ρ, h => by rw [evE]; exact .pure
  | .var _, ρ, h => by rw [evE]; exact .opt
  | .glob _ _, ρ, h => by rw [evE]; exact .pure
  | .bin o a b, ρ, h => by
    obtain ⟨h1, h2⟩ := and2 h
    rw [evE]; exact .bind (neE hc a ρ h1) fun _ => .bind (neE hc b ρ h2) fun _ => .opt
  | .neg a, ρ, h => by rw [evE]; exact .bind (neE hc a ρ h) fun _ => .opt
  | .not a, ρ, h => by rw [evE]; exact .bind (neE hc a ρ h) fun _ => .bind .opt fun _ => .pure
  | .cmp o a b, ρ, h => by
    obtain ⟨h1, h2⟩ := and2 h
    rw [evE]; exact .bind (neE hc a ρ h1) fun _ => .bind (neE hc b ρ h2) fun _ => .opt
  | .chain o o' a b d, ρ, h => by
    obtain ⟨h1, h2⟩ := and2 h
    obtain ⟨h2, h3⟩ := and2 h2
    rw [evE]; exact .bind (neE hc a ρ h1) fun _ => .bind (neE hc b ρ h2) fun _ => .bind .opt fun _ => .bind .opt fun _ => .ite (.bind (neE hc d ρ h3) fun _ => .opt) .pure
  | .isC _ _ a, ρ, h => by rw [evE]; exact .bind (neE hc a ρ h) fun _ => .opt
  | .andL es, ρ, h => by rw [evE]; exact neAnd hc es ρ h
  | .orL es, ρ, h => by rw [evE]; exact neOr hc es ρ h
  | .ite k a b, ρ, h => by
    obtain ⟨h1, h2⟩ := and2 h
    obtain ⟨h2, h3⟩ := and2 h2
    rw [evE]; exact .bind (neE hc k ρ h1) fun _ => .bind .opt fun _ => .ite (neE hc a ρ h2) (neE hc b ρ h3)
  | .tup es, ρ, h => by rw [evE]; exact .bind (neEs hc es ρ h) fun _ => .ite .pure .no
  | .lst es, ρ, h => by rw [evE]; exact .bind (neEs hc es ρ h) fun _ => .ite .pure .no
  | .idx a i, ρ, h => by
    obtain ⟨h1, h2⟩ := and2 h
    rw [evE]; exact .bind (neE hc a ρ h1) fun _ => .bind (neE hc i ρ h2) fun _ => .opt
  | .slice a l u, ρ, h => by
    obtain ⟨h1, h2⟩ := and2 h
    obtain ⟨h2, h3⟩ := and2 h2
    rw [evE]; exact .bind (neE hc a ρ h1) fun _ => .bind (neO hc l ρ h2) fun _ => .bind .opt fun _ => .bind (neO hc u ρ h3) fun _ => .bind .opt fun _ => .opt
  | .rev a, ρ, h => by rw [evE]; exact .bind (neE hc a ρ h) fun _ => .opt
  | .call f es, ρ, h => by
    obtain ⟨h1, h2⟩ := and2 h
    rw [evE]; exact .bind (neEs hc es ρ h2) fun _ => hc f _ h1
  | .callD f es d, ρ, h => by
    obtain ⟨h1, h2⟩ := and2 h
    rw [evE]; exact .bind (neEs hc es ρ h2) fun _ => hc f _ h1
  | .nin a b, ρ, h => by
    obtain ⟨h1, h2⟩ := and2 h
    rw [evE]; exact .bind (neE hc a ρ h1) fun _ => .bind (neE hc b ρ h2) fun _ => .opt
  | .callF f a es, ρ, h => by
    obtain ⟨h1, h2⟩ := and2 h
    obtain ⟨h2, h3⟩ := and2 h2
    rw [evE]; exact .bind (neE hc a ρ h2) fun _ => .ite (.bind (neEs hc es ρ h3) fun _ => hc f _ h1) .no
  | .callK f es kk e, ρ, h => by
    obtain ⟨h1, h2⟩ := and2 h
    obtain ⟨h2, h3⟩ := and2 h2
    rw [evE]; exact .bind (neEs hc es ρ h2) fun _ => .bind (neE hc e ρ h3) fun _ => hc f _ h1
  | .callL _ _ _, ρ, h => by cases h
  | .make f es, ρ, h => by
    obtain ⟨h1, h2⟩ := and2 h
    rw [evE]; exact .bind (neEs hc es ρ h2) fun _ => .bind .newM fun _ => .bind (hc f _ h1) fun _ => .noneTo
  | .fld _ _, ρ, h => by rw [evE]; exact .bind .opt fun _ => .fldM
  | .meth f _ _ es, ρ, h => by
    obtain ⟨h1, h2⟩ := and2 h
    rw [evE]; exact .bind .opt fun _ => .bind .noFld fun _ => .bind (neEs hc es ρ h2) fun _ => hc f _ h1
  | .methD f _ _ es _, ρ, h => by
    obtain ⟨h1, h2⟩ := and2 h
    rw [evE]; exact .bind .opt fun _ => .bind .noFld fun _ => .bind (neEs hc es ρ h2) fun _ => hc f _ h1
  | .methK f _ _ es _ e, ρ, h => by
    obtain ⟨h1, h2⟩ := and2 h
    obtain ⟨h2, h3⟩ := and2 h2
    rw [evE]; exact .bind .opt fun _ => .bind .noFld fun _ => .bind (neEs hc es ρ h2) fun _ => .bind (neE hc e ρ h3) fun _ => hc f _ h1
  | .popF _ _, ρ, h => by rw [evE]; exact .bind .opt fun _ => .bind .fldM fun _ => .bind .its fun _ => .bind .opt fun _ => .bind .setM fun _ => .pure
  | .nilF _ _, ρ, h => by rw [evE]; exact .bind .opt fun _ => .bind .fldM fun _ => .bind .its fun _ => .ite .pure .no
  | .isiT a, ρ, h => by
    rw [evE]
    refine .bind (neE hc a ρ h) fun x => ?_
    cases x <;> first | exact .no | exact .pure | exact .bind .flds fun _ => .pure
  | .eqM f a b, ρ, h => by
    obtain ⟨h1, h2⟩ := and2 h
    obtain ⟨h2, h3⟩ := and2 h2
    rw [evE]; exact .bind (neE hc a ρ h2) fun _ => .bind (neE hc b ρ h3) fun _ => .bind .eqChk fun _ => hc f _ h1
  | .callLK _ _ _ _ _, ρ, h => by cases h
  | .b1 o a, ρ, h => by rw [evE]; exact .bind (neE hc a ρ h) fun _ => .b1M
  | .mm _ a b, ρ, h => by
    obtain ⟨h1, h2⟩ := and2 h
    rw [evE]; exact .bind (neE hc a ρ h1) fun _ => .bind (neE hc b ρ h2) fun _ => .opt
  | .isi _ a, ρ, h => by rw [evE]; exact .bind (neE hc a ρ h) fun _ => .opt
  | .lrange a, ρ, h => by rw [evE]; exact .bind (neE hc a ρ h) fun _ => .opt
  | .lcount _ b, ρ, h => by rw [evE]; exact .bind .opt fun _ => .bind (neE hc b ρ h) fun _ => .opt
  | .lindex _ b, ρ, h => by rw [evE]; exact .bind .opt fun _ => .bind (neE hc b ρ h) fun _ => .opt
  | .gidx _ _ k, ρ, h => by rw [evE]; exact .bind (neE hc k ρ h) fun _ => .opt
  | .dget kvs k d, ρ, h => by
    obtain ⟨h1, h2⟩ := and2 h
    obtain ⟨h2, h3⟩ := and2 h2
    rw [evE]; exact .bind (nePs hc kvs ρ h1) fun _ => .bind (neE hc k ρ h2) fun _ => .bind (neE hc d ρ h3) fun _ => .opt
  | .didx kvs k, ρ, h => by
    obtain ⟨h1, h2⟩ := and2 h
    rw [evE]; exact .bind (nePs hc kvs ρ h1) fun _ => .bind (neE hc k ρ h2) fun _ => .opt
  | .comp vs tg it cd e, ρ, h => by
    obtain ⟨h1, h2⟩ := and2 h
    obtain ⟨h2, h3⟩ := and2 h2
    rw [evE]
    exact .bind (neT hc it ρ h1) fun _ => .bind (.compM (fun _ => .bind .opt fun ρ1 => .bind (neC hc cd ρ1 h2) fun _ => .ite (.bind (neE hc e ρ1 h3) fun _ => .pure) .pure) _) fun _ => .ite .pure .no
  | .comp2 vs vs1 tg it tg1 it1 e, ρ, h => by
    obtain ⟨h1, h2⟩ := and2 h
    obtain ⟨h2, h3⟩ := and2 h2
    rw [evE]
    exact .bind (neT hc it ρ h1) fun _ => .bind (.compM2 (fun _ => .bind .opt fun ρ1 => .bind (neT hc it1 ρ1 h2) fun _ => .compM (fun _ => .bind .opt fun ρ2 => .bind (neE hc e ρ2 h3) fun _ => .pure) _) _) fun _ => .ite .pure .no
theorem neEs (hc : ∀ f ds, nf f = true → NE (c f ds)) : ∀ (es : IEs) (ρ : Env), pEs nf es = true → NE (evEs S c es ρ)
  | .nil, ρ, h => by rw [evEs]; exact .pure
  | .cons e es, ρ, h => by
    obtain ⟨h1, h2⟩ := and2 h
    rw [evEs]; exact .bind (neE hc e ρ h1) fun _ => .bind (neEs hc es ρ h2) fun _ => .pure
theorem nePs (hc : ∀ f ds, nf f = true → NE (c f ds)) : ∀ (es : IEs) (ρ : Env), pEs nf es = true → NE (evPs S c es ρ)
  | .nil, ρ, h => by rw [evPs]; exact .pure
  | .cons k .nil, ρ, h => by rw [evPs]; exact .no
  | .cons k (.cons v r), ρ, h => by
    obtain ⟨h1, h2⟩ := and2 h
    obtain ⟨h2, h3⟩ := and2 h2
    rw [evPs]; exact .bind (neE hc k ρ h1) fun _ => .bind (neE hc v ρ h2) fun _ => .bind .opt fun _ => .bind (nePs hc r ρ h3) fun _ => .pure
theorem neAnd (hc : ∀ f ds, nf f = true → NE (c f ds)) : ∀ (es : IEs) (ρ : Env), pEs nf es = true → NE (evAnd S c es ρ)
  | .nil, ρ, h => by rw [evAnd]; exact .no
  | .cons e .nil, ρ, h => by rw [evAnd]; exact neE hc e ρ (and2 h).1
  | .cons e (.cons f r), ρ, h => by
    obtain ⟨h1, h2⟩ := and2 h
    rw [evAnd]
    · exact .bind (neE hc e ρ h1) fun _ => .bind .opt fun _ => .ite (neAnd hc (.cons f r) ρ h2) .pure
    · intro z; cases z
theorem neOr (hc : ∀ f ds, nf f = true → NE (c f ds)) : ∀ (es : IEs) (ρ : Env), pEs nf es = true → NE (evOr S c es ρ)
  | .nil, ρ, h => by rw [evOr]; exact .no
  | .cons e .nil, ρ, h => by rw [evOr]; exact neE hc e ρ (and2 h).1
  | .cons e (.cons f r), ρ, h => by
    obtain ⟨h1, h2⟩ := and2 h
    rw [evOr]
    · exact .bind (neE hc e ρ h1) fun _ => .bind .opt fun _ => .ite .pure (neOr hc (.cons f r) ρ h2)
    · intro z; cases z
theorem neO (hc : ∀ f ds, nf f = true → NE (c f ds)) : ∀ (e : IO) (ρ : Env), pO nf e = true → NE (evO S c e ρ)
  | .none, ρ, h => by rw [evO]; exact .pure
  | .some e, ρ, h => by rw [evO]; exact .bind (neE hc e ρ h) fun _ => .pure
theorem neC (hc : ∀ f ds, nf f = true → NE (c f ds)) : ∀ (e : IO) (ρ : Env), pO nf e = true → NE (evC S c e ρ)
  | .none, ρ, h => by rw [evC]; exact .pure
  | .some e, ρ, h => by rw [evC]; exact .bind (neE hc e ρ h) fun _ => .opt
theorem neT (hc : ∀ f ds, nf f = true → NE (c f ds)) : ∀ (e : IT) (ρ : Env), pT nf e = true → NE (evT S c e ρ)
  | .seq a, ρ, h => by rw [evT]; exact .bind (neE hc a ρ h) fun _ => .opt
  | .rng1 a, ρ, h => by rw [evT]; exact .bind (neE hc a ρ h) fun _ => .opt
  | .rng2 a b, ρ, h => by
    obtain ⟨h1, h2⟩ := and2 h
    rw [evT]; exact .bind (neE hc a ρ h1) fun _ => .bind (neE hc b ρ h2) fun _ => .opt
  | .zip a b, ρ, h => by
    obtain ⟨h1, h2⟩ := and2 h
    rw [evT]; exact .bind (neE hc a ρ h1) fun _ => .bind (neE hc b ρ h2) fun _ => .opt
  | .enum a, ρ, h => by rw [evT]; exact .bind (neE hc a ρ h) fun _ => .opt
end
mutual
theorem neS (hc : ∀ f ds, nf f = true → NE (c f ds)) : ∀ (s : IS) (ρ : Env), pS nf s = true → NE (evS S c s ρ)
  | .assign _ e, ρ, h => by rw [evS]; exact .bind (neE hc e ρ h) fun _ => .pure
  | .newRef _, ρ, h => by rw [evS]; exact fun μ c μ' z => by cases z
  | .unpack _ e, ρ, h => by rw [evS]; exact .bind (neE hc e ρ h) fun _ => .bind .opt fun _ => .pure
  | .par _ _ a b, ρ, h => by
    obtain ⟨h1, h2⟩ := and2 h
    rw [evS]; exact .bind (neE hc a ρ h1) fun _ => .bind (neE hc b ρ h2) fun _ => .pure
  | .setIdx _ k e, ρ, h => by
    obtain ⟨h1, h2⟩ := and2 h
    rw [evS]; exact .bind (neE hc e ρ h2) fun _ => .bind (neE hc k ρ h1) fun _ => .bind .opt fun _ => .bind .opt fun _ => .ite .pure .no
  | .swap2 x k1 k2 e1 e2, ρ, h => by
    obtain ⟨h1, h2⟩ := and2 h
    obtain ⟨h2, h3⟩ := and2 h2
    obtain ⟨h3, h4⟩ := and2 h3
    rw [evS]; exact .bind (neE hc e1 ρ h3) fun _ => .bind (neE hc e2 ρ h4) fun _ => .bind (neE hc k1 ρ h1) fun _ => .bind .opt fun _ => .bind .opt fun _ => .bind (neE hc k2 _ h2) fun _ => .bind .opt fun _ => .ite .pure .no
  | .aug _ e, ρ, h => by rw [evS]; exact .bind .opt fun _ => .bind (neE hc e ρ h) fun _ => .opt
  | .augIdx _ k e, ρ, h => by
    obtain ⟨h1, h2⟩ := and2 h
    rw [evS]; exact .bind (neE hc k ρ h1) fun _ => .bind .opt fun _ => .bind .opt fun _ => .bind (neE hc e ρ h2) fun _ => .opt
  | .append _ e, ρ, h => by rw [evS]; exact .bind (neE hc e ρ h) fun _ => .bind .appTo fun _ => .pure
  | .extend _ e, ρ, h => by
    rw [evS]
    refine .bind (neE hc e ρ h) fun d => .bind .opt fun ds => ?_
    cases d <;> first | exact .no | exact .ite .pure .no
  | .appPop _ _ e, ρ, h => by
    rw [evS]
    refine .bind (neE hc e ρ h) fun j => .bind .opt fun ds => .bind .opt fun xs => .bind .opt fun d => ?_
    cases j <;> try exact .no
    simp only
    split
    · exact .ite .pure .no
    · exact .no
  | .expr e, ρ, h => by rw [evS]; exact .bind (neE hc e ρ h) fun _ => .pure
  | .ite k a b, ρ, h => by
    obtain ⟨h1, h2⟩ := and2 h
    obtain ⟨h2, h3⟩ := and2 h2
    rw [evS]; exact .bind (neE hc k ρ h1) fun _ => .bind .opt fun _ => .ite (neSs hc a ρ h2) (neSs hc b ρ h3)
  | .for_ tg it body, ρ, h => by
    obtain ⟨h1, h2⟩ := and2 h
    rw [evS]; exact .bind (neT hc it ρ h1) fun _ => .forM (fun _ _ => .bind .opt fun ρ1 => neSs hc body ρ1 h2) _ _
  | .while_ n k body, ρ, h => by
    obtain ⟨h1, h2⟩ := and2 h
    rw [evS]; exact .whileM (fun ρ => .bind (neE hc k ρ h1) fun _ => .opt) (fun ρ => neSs hc body ρ h2) n ρ
  | .ret e, ρ, h => by rw [evS]; exact .bind (neE hc e ρ h) fun _ => .pure
  | .raise _, ρ, h => by cases h
  | .cont, ρ, h => by rw [evS]; exact .pure
  | .stuck, ρ, h => by rw [evS]; exact .no
  | .opq _, ρ, h => by cases h
  | .setF _ _ e, ρ, h => by rw [evS]; exact .bind (neE hc e ρ h) fun _ => .bind .opt fun _ => .bind .setFld fun _ => .pure
  | .newF _ _, ρ, h => by rw [evS]; exact .bind .newM fun _ => .bind .opt fun _ => .bind .setFld fun _ => .pure
  | .appF _ _ e, ρ, h => by rw [evS]; exact .bind .opt fun _ => .bind .fldM fun _ => .bind .its fun _ => .bind (neE hc e ρ h) fun _ => .bind .its fun _ => .ite (.bind .setM fun _ => .pure) .no
  | .tryW _ _, ρ, h => by rw [evS]; exact .grab
theorem neSs (hc : ∀ f ds, nf f = true → NE (c f ds)) : ∀ (ss : ISs) (ρ : Env), pSs nf ss = true → NE (evSs S c ss ρ)
  | .nil, ρ, h => by rw [evSs]; exact .pure
  | .cons s ss, ρ, h => by
    obtain ⟨h1, h2⟩ := and2 h
    rw [evSs]
    refine .bind (neS hc s ρ h1) fun p => ?_
    split
    · exact neSs hc ss _ h2
    · exact .pure
    · exact .pure
end
end
end Ev

set_option Elab.async false
set_option linter.all false
set_option maxRecDepth 100000
set_option maxHeartbeats 4000000
namespace Ev
open PySem L2 PyProof.Rows
theorem bind_ex {α β : Type} {x : M α} {f : α → M β} {μ μ' : Mu} {c : Nat} (h : (x >>= f) μ = .ex c μ') : x μ = .ex c μ' ∨ ∃ a μ1, x μ = .ok a μ1 ∧ f a μ1 = .ex c μ' := by
  have h : M.bnd x f μ = .ex c μ' := h
  unfold M.bnd at h
  cases e : x μ with
  | ok a μ1 => rw [e] at h; exact .inr ⟨a, μ1, rfl, h⟩
  | ex c1 μ1 => rw [e] at h; cases h; exact .inl rfl
  | bad => rw [e] at h; cases h
theorem bind_exN {α β : Type} {x : M α} {f : α → M β} {μ μ' : Mu} {c : Nat} (hn : NE x) (h : (x >>= f) μ = .ex c μ') : ∃ a μ1, x μ = .ok a μ1 ∧ f a μ1 = .ex c μ' := (bind_ex h).resolve_left (hn _ _ _)
theorem _root_.L2.PA.nox {X : Cx} {es : List Expr} {t : TA} (h : PA X.nox es t) : PA X es t := ⟨fun pos pins s σ H Q I hw =>
  wpAny_mono (h.run pos pins s σ H Q (I.wish _) hw) (fun _ _ ⟨v, H', I', r, q⟩ => ⟨v, H', I'.unwish, r, q⟩) fun _ _ z => z.elim⟩
theorem _root_.L2.PS.nox {X : Cx} {st : Stmt} {t : TS} (h : PS X.nox st t) : PS X st t := ⟨fun pins s σ H D I hw =>
  wpAny_mono (h.run pins s σ H D (I.wish _) hw) (fun _ _ q => q.unwish) fun _ _ z => z.elim⟩
/-! ### readings with what is raised -/
def tEX (K : PySem.W.Frag) (cl : Calls) (ca : Nat → Value) (W : WX) (ie : IE) : TE := fun σ H Q => ∃ F own ph ρ μ, F.K = K ∧ Stt F own ph ρ μ σ H ∧
  ((∃ d μ', evE F.S (cl F.S) ie ρ μ = .ok d μ' ∧ ∀ ph' v H', Stt F own ph' ρ μ' σ H' → Grow ph H ph' H' → Rep F.sa ph' (Av F own (lk ie)) H' v d → Q v H') ∨
   ∃ c μ', evE F.S (cl F.S) ie ρ μ = .ex c μ' ∧ ∀ ph' H', Stt F own ph' ρ μ' σ H' → W (ca c) none σ H')
def tSX (K : PySem.W.Frag) (cl : Calls) (ca : Nat → Value) (W : WX) (s : IS) : TS := fun E σ H => ∃ F own ph ρ μ, F.K = K ∧ Stt F own ph ρ μ σ H ∧
  ((∃ fl ρ' μ', evS F.S (cl F.S) s ρ μ = .ok (fl, ρ') μ' ∧ EndR F E μ' ρ' fl) ∨ ∃ c μ', evS F.S (cl F.S) s ρ μ = .ex c μ' ∧ ∀ own' ph' ρ' σ' H', Stt F own' ph' ρ' μ' σ' H' → W (ca c) none σ' H')
def tSsX (K : PySem.W.Frag) (cl : Calls) (ca : Nat → Value) (W : WX) (s : ISs) : TS := fun E σ H => ∃ F own ph ρ μ, F.K = K ∧ Stt F own ph ρ μ σ H ∧
  ((∃ fl ρ' μ', evSs F.S (cl F.S) s ρ μ = .ok (fl, ρ') μ' ∧ EndR F E μ' ρ' fl) ∨ ∃ c μ', evSs F.S (cl F.S) s ρ μ = .ex c μ' ∧ ∀ own' ph' ρ' σ' H', Stt F own' ph' ρ' μ' σ' H' → W (ca c) none σ' H')
/-- a def's promise, what it raises too -/
def spX (K : PySem.W.Frag) (cl : Calls) (ca : Nat → Value) (f np : Nat) : Sp := fun vs H Q E => vs.length = np ∧ ∃ S sa ph μ B ds, Reps sa ph B H vs ds ∧ MuOk sa ph H μ ∧ ScrR K S sa H ∧ (∀ a, B a → H a ≠ none) ∧ (∀ a, B a → a ∉ ph) ∧
  ((∃ d μ', cl S f ds μ = .ok d μ' ∧ ∀ ph' v H', Grow ph H ph' H' → MuOk sa ph' H' μ' → Rep sa ph' B H' v d → Q v H') ∨
   ∃ c μ', cl S f ds μ = .ex c μ' ∧ ∀ ph' H', Grow ph H ph' H' → MuOk sa ph' H' μ' → E (ca c) none H')
structure HasFnX (X : Cx) (cl : Calls) (ca : Nat → Value) (k : Nat) (x : Str) (f np : Nat) (dk : Option (Str × Int)) : Prop where
  ex : ∃ fa fd ps, FnOk X.prog X.w X.K X.mg X.base (L2.CX X.prog X.w) k fa fd ps (spX X.K cl ca f np) ∧ X.mg x = some (.ref fa) ∧ PySem.W.keepIn X.K (.ref fa) = true ∧ (dk = none → Binds X.K fd ps []) ∧
    ∀ kw d, dk = some (kw, d) → (∃ ds, Vals [V.int d] ds ∧ Binds X.K fd ps ds) ∧ ∃ n g, np = n + 1 ∧ KBn X.K fd ps n [kw] g (fun vs zs => vs ++ zs)
  len : ∀ S ds μ, cl S f ds μ ≠ .bad → ds.length = np
/-- a class of exceptions -/
def HasExc (X : Cx) (ca : Nat → Value) (x : Str) (c : Nat) : Prop := ∃ C, ca c = .ref C ∧ X.mg x = some (.ref C) ∧ PySem.W.excIn X.K C He.veBase "ValueError.__new__" = true ∧ PySem.W.keepIn X.K (.ref C) = true ∧ PySem.W.subIn X.K (.ref C) (.type "BaseException") = some true ∧
  PySem.W.typeIn X.K (.ref C) = some (.type "type")
section
variable {X : Cx} {cl : Calls} {ca : Nat → Value} {W : WX} {a b c e : Expr} {es : List Expr} {ia ib ic ie : IE} {ies : IEs} {p pos : Pos} {k f np : Nat} {x kw : Str} {dv : Int}
theorem xe_pure (h : PE X.nox e (tE X.K cl ie)) (hn : ∀ S ρ, NE (evE S (cl S) ie ρ)) : PE X e (tEX X.K cl ca W ie) := (PE.nox h).imp fun σ H Q q => by
  obtain ⟨F, own, ph, ρ, μ, hK, I, ⟨d, μ', ev, k⟩ | ⟨c, μ', ev, _⟩⟩ := q
  · exact ⟨F, own, ph, ρ, μ, d, μ', hK, I, ev, fun ph' v H' I' g V0 => k ph' v H' I' g V0.rep⟩
  · exact absurd ev (hn _ _ _ _ _)
theorem xe_call (hF : HasFnX X cl ca k x f np none) (hr : Room k X.A) (hg : Gl X x) (hdb : (x == ("__debug__" : Str)) = false) (tk : Takes X W) (ha : SA X.nox cl (e :: es) ies) (hn : ∀ S ρ, NE (evEs S (cl S) ies ρ)) : PE X (.Call (.Name x p) (e :: es) [] pos) (tEX X.K cl ca W (.call f ies)) := by
  obtain ⟨fa, fd, ps, F0, hm, hk, hb, _⟩ := hF.ex
  have hp := ha.pl
  rw [List.all_cons, Bool.and_eq_true] at hp
  refine (pe_callS F0 hr hg hm hk (hb rfl) (fun σ => passAt tk σ) (PA.nox ha.pa) hdb (plain_star (X := X) hp.1) (noStars (X := X) hp.2 pos)).imp fun σ H Q q => ?_
  obtain ⟨F, own, ph, ρ, μ, hK, I, ⟨d, μ', ev, kk⟩ | ⟨c, μ', ev, kk⟩⟩ := q
  · obtain ⟨ds, μ1, e1, ev⟩ := bind_ok (show (evEs F.S (cl F.S) ies ρ >>= fun ds => cl F.S f ds) μ = .ok d μ' by simpa [evE] using ev)
    refine ⟨F, own, ph, ρ, μ, ds, μ1, hK, I, e1, fun ph1 vs H1 I1 g1 rs => ⟨?_, F.S, F.sa, ph1, μ1, Av F own (lks ies), ds, rs, I1.mu, hK ▸ I1.scr, fun a h => I1.dom h, fun a h => I1.avphi h, .inl ⟨d, μ', ev, fun ph' v H' g M r => kk ph' v H' (I1.grow g M) (g1.trans g) r⟩⟩⟩
    rw [rs.length]
    exact hF.len _ _ _ (by rw [ev]; exact fun z => by cases z)
  · obtain ⟨ds, μ1, e1, ev⟩ := bind_exN (hn _ _) (show (evEs F.S (cl F.S) ies ρ >>= fun ds => cl F.S f ds) μ = .ex c μ' by simpa [evE] using ev)
    refine ⟨F, own, ph, ρ, μ, ds, μ1, hK, I, e1, fun ph1 vs H1 I1 g1 rs => ⟨?_, F.S, F.sa, ph1, μ1, Av F own (lks ies), ds, rs, I1.mu, hK ▸ I1.scr, fun a h => I1.dom h, fun a h => I1.avphi h, .inr ⟨c, μ', ev, fun ph' H' g M => kk ph' H' (I1.grow g M)⟩⟩⟩
    rw [rs.length]
    exact hF.len _ _ _ (by rw [ev]; exact fun z => by cases z)
theorem xe_callD (hF : HasFnX X cl ca k x f np (some (kw, dv))) (hr : Room k X.A) (hg : Gl X x) (hdb : (x == ("__debug__" : Str)) = false) (tk : Takes X W) (ha : SA X.nox cl (e :: es) ies) (hn : ∀ S ρ, NE (evEs S (cl S) ies ρ)) : PE X (.Call (.Name x p) (e :: es) [] pos) (tEX X.K cl ca W (.callD f ies (.int dv))) := by
  obtain ⟨fa, fd, ps, F0, hm, hk, _, hb⟩ := hF.ex
  obtain ⟨⟨dvs, hv, hb⟩, _⟩ := hb kw dv rfl
  have hp := ha.pl
  rw [List.all_cons, Bool.and_eq_true] at hp
  refine (pe_callSD F0 hr hg hm hk hb hv (fun σ => passAt tk σ) (PA.nox ha.pa) hdb (plain_star (X := X) hp.1) (noStars (X := X) hp.2 pos)).imp fun σ H Q q => ?_
  obtain ⟨F, own, ph, ρ, μ, hK, I, ⟨d, μ', ev, kk⟩ | ⟨c, μ', ev, kk⟩⟩ := q
  · obtain ⟨ds, μ1, e1, ev⟩ := bind_ok (show (evEs F.S (cl F.S) ies ρ >>= fun ds => cl F.S f (ds ++ [.int dv])) μ = .ok d μ' by simpa [evE] using ev)
    refine ⟨F, own, ph, ρ, μ, ds, μ1, hK, I, e1, fun ph1 vs H1 I1 g1 rs => ⟨?_, F.S, F.sa, ph1, μ1, Av F own (lks ies), ds ++ [.int dv], rs.append (.cons (.int dv) .nil), I1.mu, hK ▸ I1.scr, fun a h => I1.dom h, fun a h => I1.avphi h, .inl ⟨d, μ', ev, fun ph' v H' g M r => kk ph' v H' (I1.grow g M) (g1.trans g) r⟩⟩⟩
    rw [List.length_append, rs.length]
    have := hF.len _ _ _ (show cl F.S f (ds ++ [.int dv]) μ1 ≠ .bad by rw [ev]; exact fun z => by cases z)
    rw [List.length_append] at this
    exact this
  · obtain ⟨ds, μ1, e1, ev⟩ := bind_exN (hn _ _) (show (evEs F.S (cl F.S) ies ρ >>= fun ds => cl F.S f (ds ++ [.int dv])) μ = .ex c μ' by simpa [evE] using ev)
    refine ⟨F, own, ph, ρ, μ, ds, μ1, hK, I, e1, fun ph1 vs H1 I1 g1 rs => ⟨?_, F.S, F.sa, ph1, μ1, Av F own (lks ies), ds ++ [.int dv], rs.append (.cons (.int dv) .nil), I1.mu, hK ▸ I1.scr, fun a h => I1.dom h, fun a h => I1.avphi h, .inr ⟨c, μ', ev, fun ph' H' g M => kk ph' H' (I1.grow g M)⟩⟩⟩
    rw [List.length_append, rs.length]
    have := hF.len _ _ _ (show cl F.S f (ds ++ [.int dv]) μ1 ≠ .bad by rw [ev]; exact fun z => by cases z)
    rw [List.length_append] at this
    exact this
/-- f(e, .., k = v), what is raised wished for at the slots -/
def tCallNS (n m : Nat) (sp : Sp) (E : L2.St → XK) (t : TA) (tk : TA) : TE := fun σ H Q => t σ H fun vs H1 => tk σ H1 fun zs H2 => vs.length = n ∧ zs.length = m ∧ sp (vs ++ zs) H2 Q (E σ)
theorem pe_callNS {CX : CXT} {fa : Addr} {fd : FuncData} {ps ks : List Str} {sp : Sp} {n : Nat} {g : List Value → List Value → List Value} {kws : List Keyword} {E : L2.St → XK} {t tk : TA} (F : FnOk X.prog X.w X.K X.mg X.base CX k fa fd ps sp) (hr : Room k X.A) (hg : Gl X x) (hm : X.mg x = some (.ref fa)) (hk : PySem.W.keepIn X.K (.ref fa) = true) (hb : KBn X.K fd ps n ks g (fun vs zs => vs ++ zs)) (hx : ∀ σ, PassesAt CX X σ (E σ))
    (ha : PA X (e :: es) t) (hkw : PK X kws tk) (hall : (backToKw pos (keywordEach kws X.env)).all (·.1.isSome) = true) (hks : (backToKw pos (keywordEach kws X.env)).filterMap (·.1) = ks)
    (hdb : (x == ("__debug__" : Str)) = false) (he : starEach (e :: es) X.env = (false, eval e X.env) :: starEach es X.env) (hpl : ((backTo pos (starEach (e :: es) X.env)).any (·.1) || (backToKw pos (keywordEach kws X.env)).any (·.1.isNone)) = false) :
    PE X (.Call (.Name x p) (e :: es) kws pos) (tCallNS n ks.length sp E t tk) := by
  refine ⟨fun pins s σ H Q I h => wpAny_Call_Name_kw (ld_glob I hg hm ?_ hdb)⟩
  refine PySem.W.callWith_KW (h₀ := X.base) I.ok.mod.kin hk hall (thn (ha.run pos pins s σ H _ I h) fun us s1 z1 => ?_) hpl he
  obtain ⟨vs, H1, I1, r, q⟩ := z1
  refine thn (hkw.run pos pins s1 σ H1 _ I1 q) fun ws s2 z2 => ?_
  obtain ⟨zs, H2, I2, rz, l1, l2, q2⟩ := z2
  refine ⟨I2.kIn, ?_⟩
  rw [hks]
  refine wpAny_call (codeAny_mono (F.run X.A X.stack s2 H2 ⟨us, ks.zip ws⟩ (g us ws) (vs ++ zs) Q (E σ) hr I2.env0 (hb.to s2 us ws I2.kIn (r.length.symm.trans l1) (rz.length.symm.trans l2)) (hb.rel r rz) q2) fun rr s' hq => ?_)
  cases rr with
  | error er => exact hx σ pins H2 s2 er s' I2 hq
  | ok fl =>
    cases fl with
    | ret u => exact I2.after hq
    | _ => exact False.elim hq
theorem xe_callK {kp : Pos} (hF : HasFnX X cl ca k x f np (some (kw, dv))) (hr : Room k X.A) (hg : Gl X x) (hdb : (x == ("__debug__" : Str)) = false) (tk : Takes X W) (ha : SA X.nox cl (e :: es) ies) (hb : SE X.nox cl b ib) (hn : ∀ S ρ, NE (evEs S (cl S) ies ρ)) (hn2 : ∀ S ρ, NE (evE S (cl S) ib ρ)) :
    PE X (.Call (.Name x p) (e :: es) [⟨some kw, b, kp⟩] pos) (tEX X.K cl ca W (.callK f ies kw ib)) := by
  obtain ⟨fa, fd, ps, F0, hm, hk, _, hbn⟩ := hF.ex
  obtain ⟨_, n, g, hnp, hbn⟩ := hbn kw dv rfl
  have hp := ha.pl
  rw [List.all_cons, Bool.and_eq_true] at hp
  have hpl : ((backTo pos (starEach (e :: es) X.env)).any (·.1) || (backToKw pos (keywordEach [⟨some kw, b, kp⟩] X.env)).any (·.1.isNone)) = false := by
    rw [noStars (X := X) ha.pl pos]
    rfl
  refine (pe_callNS F0 hr hg hm hk hbn (fun σ => passAt tk σ) (PA.nox ha.pa) (pk_cons (PE.nox hb.pe) pk_nil) rfl rfl hdb (plain_star (X := X) hp.1) hpl).imp fun σ H Q q => ?_
  obtain ⟨F, own, ph, ρ, μ, hK, I, ⟨d, μ', ev, kk⟩ | ⟨c, μ', ev, kk⟩⟩ := q
  · obtain ⟨ds, μ1, e1, ev⟩ := bind_ok (show (evEs F.S (cl F.S) ies ρ >>= fun ds => evE F.S (cl F.S) ib ρ >>= fun d => cl F.S f (ds ++ [d])) μ = .ok d μ' by simpa [evE] using ev)
    obtain ⟨dd, μ2, e2, ev⟩ := bind_ok ev
    have hl := hF.len _ _ _ (show cl F.S f (ds ++ [dd]) μ2 ≠ .bad by rw [ev]; exact fun z => by cases z)
    rw [List.length_append, hnp] at hl
    have hl : ds.length + 1 = n + 1 := hl
    refine ⟨F, own, ph, ρ, μ, ds, μ1, hK, I, e1, fun ph1 vs H1 I1 g1 rs => one hK I1 e2 fun ph2 vx H2 I2 g2 rx => ⟨?_, rfl, ?_, F.S, F.sa, ph2, μ2, Av F own (lks ies ++ lk ib), ds ++ [dd], ?_, I2.mu, hK ▸ I2.scr, fun a h => I2.dom h, fun a h => I2.avphi h, .inl ⟨d, μ', ev, fun ph' v H' g M r => kk ph' v H' (I2.grow g M) ((g1.trans g2).trans g) r⟩⟩⟩
    · rw [rs.length]; omega
    · show (vs ++ [vx]).length = np
      rw [List.length_append, rs.length, hnp]
      show ds.length + 1 = n + 1
      omega
    · exact ((g2.reps I1.mu rs).weaken lkA).append (.cons (rx.weaken lkB) .nil)
  · obtain ⟨ds, μ1, e1, ev⟩ := bind_exN (hn _ _) (show (evEs F.S (cl F.S) ies ρ >>= fun ds => evE F.S (cl F.S) ib ρ >>= fun d => cl F.S f (ds ++ [d])) μ = .ex c μ' by simpa [evE] using ev)
    obtain ⟨dd, μ2, e2, ev⟩ := bind_exN (hn2 _ _) ev
    have hl := hF.len _ _ _ (show cl F.S f (ds ++ [dd]) μ2 ≠ .bad by rw [ev]; exact fun z => by cases z)
    rw [List.length_append, hnp] at hl
    have hl : ds.length + 1 = n + 1 := hl
    refine ⟨F, own, ph, ρ, μ, ds, μ1, hK, I, e1, fun ph1 vs H1 I1 g1 rs => one hK I1 e2 fun ph2 vx H2 I2 g2 rx => ⟨?_, rfl, ?_, F.S, F.sa, ph2, μ2, Av F own (lks ies ++ lk ib), ds ++ [dd], ?_, I2.mu, hK ▸ I2.scr, fun a h => I2.dom h, fun a h => I2.avphi h, .inr ⟨c, μ', ev, fun ph' H' g M => kk ph' H' (I2.grow g M)⟩⟩⟩
    · rw [rs.length]; omega
    · show (vs ++ [vx]).length = np
      rw [List.length_append, rs.length, hnp]
      show ds.length + 1 = n + 1
      omega
    · exact ((g2.reps I1.mu rs).weaken lkA).append (.cons (rx.weaken lkB) .nil)
theorem xe_ite (ht : tst ic = true) (hc : SE X.nox cl c ic) (hn : ∀ S ρ, NE (evE S (cl S) ic ρ)) (ha : PE X a (tEX X.K cl ca W ia)) (hb : PE X b (tEX X.K cl ca W ib)) : PE X (.IfExp c a b pos) (tEX X.K cl ca W (.ite ic ia ib)) := by
  refine (pe_ifExp (PT.nox (hc.pt ht)) ha hb).imp fun σ H Q q => ?_
  obtain ⟨F, own, ph, ρ, μ, hK, I, q⟩ := q
  obtain ⟨t, μ1, e1, q⟩ : ∃ t μ1, evE F.S (cl F.S) ic ρ μ = .ok (.bl t) μ1 ∧ ((∃ d μ', (if t = true then evE F.S (cl F.S) ia ρ else evE F.S (cl F.S) ib ρ) μ1 = .ok d μ' ∧ ∀ ph' v H', Stt F own ph' ρ μ' σ H' → Grow ph H ph' H' → Rep F.sa ph' (Av F own (lk (.ite ic ia ib))) H' v d → Q v H') ∨
      ∃ c μ', (if t = true then evE F.S (cl F.S) ia ρ else evE F.S (cl F.S) ib ρ) μ1 = .ex c μ' ∧ ∀ ph' H', Stt F own ph' ρ μ' σ H' → W (ca c) none σ H') := by
    rcases q with ⟨d, μ', ev, kk⟩ | ⟨c, μ', ev, kk⟩
    · obtain ⟨x, μ1, e1, ev⟩ := bind_ok (show (evE F.S (cl F.S) ic ρ >>= fun x => M.opt (truth x) >>= fun k => if k = true then evE F.S (cl F.S) ia ρ else evE F.S (cl F.S) ib ρ) μ = .ok d μ' by simpa [evE] using ev)
      obtain ⟨t, μ2, e2, ev⟩ := bind_ok ev
      obtain ⟨e3, rfl⟩ := opt_ok e2
      rw [truth_bl e3] at e1
      exact ⟨t, _, e1, .inl ⟨d, μ', ev, kk⟩⟩
    · obtain ⟨x, μ1, e1, ev⟩ := bind_exN (hn _ _) (show (evE F.S (cl F.S) ic ρ >>= fun x => M.opt (truth x) >>= fun k => if k = true then evE F.S (cl F.S) ia ρ else evE F.S (cl F.S) ib ρ) μ = .ex c μ' by simpa [evE] using ev)
      obtain ⟨t, μ2, e2, ev⟩ := bind_exN NE.opt ev
      obtain ⟨e3, rfl⟩ := opt_ok e2
      rw [truth_bl e3] at e1
      exact ⟨t, _, e1, .inr ⟨c, μ', ev, kk⟩⟩
  refine ⟨F, own, ph, ρ, μ, t, μ1, hK, I, e1, fun ph2 H2 I2 g2 => ?_⟩
  cases t with
  | true =>
    rw [if_pos rfl]
    refine ⟨F, own, ph2, ρ, μ1, hK, I2, ?_⟩
    rcases q with ⟨d, μ', ev, kk⟩ | ⟨c, μ', ev, kk⟩
    · exact .inl ⟨d, μ', ev, fun ph' v H' I' g r => kk ph' v H' I' (g2.trans g) (r.weaken lkA)⟩
    · exact .inr ⟨c, μ', ev, kk⟩
  | false =>
    rw [if_neg Bool.false_ne_true]
    refine ⟨F, own, ph2, ρ, μ1, hK, I2, ?_⟩
    rcases q with ⟨d, μ', ev, kk⟩ | ⟨c, μ', ev, kk⟩
    · exact .inl ⟨d, μ', ev, fun ph' v H' I' g r => kk ph' v H' I' (g2.trans g) (r.weaken lkB)⟩
    · exact .inr ⟨c, μ', ev, kk⟩
/-! ### statements -/
section
variable {st : Stmt} {rest : List Stmt} {s : IS} {ss ss' : ISs}
theorem xs_pure (h : PS X.nox st (tS X.K cl s)) (hn : ∀ S ρ, NE (evS S (cl S) s ρ)) : PS X st (tSX X.K cl ca W s) := (PS.nox h).imp fun E σ H q => by
  obtain ⟨F, own, ph, ρ, μ, hK, I, ⟨fl, ρ', μ', ev, k⟩ | ⟨c, μ', ev, _⟩⟩ := q
  · exact ⟨F, own, ph, ρ, μ, fl, ρ', μ', hK, I, ev, k⟩
  · exact absurd ev (hn _ _ _ _ _)
theorem xs_expr (h : PE X e (tEX X.K cl ca W ie)) (hp : plainX e = true) (hc : isComp e = false) : PS X (.Expr e pos) (tSX X.K cl ca W (.expr ie)) := by
  refine (ps_expr h (noswap hp hc)).imp fun E σ H q => ?_
  obtain ⟨F, own, ph, ρ, μ, hK, I, ⟨fl, ρ', μ', ev, k⟩ | ⟨c, μ', ev, k⟩⟩ := q
  · unfold evS at ev
    obtain ⟨d, μ1, e1, ev⟩ := bind_ok ev
    obtain ⟨h1, rfl⟩ := pure_ok ev
    cases h1
    exact ⟨F, own, ph, ρ, μ, hK, I, .inl ⟨d, _, e1, fun ph' v H' I' g r => k own ph' σ H' I'⟩⟩
  · unfold evS at ev
    rcases bind_ex ev with e1 | ⟨d, μ1, e1, ev⟩
    · exact ⟨F, own, ph, ρ, μ, hK, I, .inr ⟨c, μ', e1, fun ph' H' I' => k own ph' ρ σ H' I'⟩⟩
    · cases ev
theorem xs_ret (h : PE X e (tEX X.K cl ca W ie)) : PS X (.Return (some e) pos) (tSX X.K cl ca W (.ret ie)) := by
  refine (ps_ret h).imp fun E σ H q => ?_
  obtain ⟨F, own, ph, ρ, μ, hK, I, ⟨fl, ρ', μ', ev, k⟩ | ⟨c, μ', ev, k⟩⟩ := q
  · unfold evS at ev
    obtain ⟨d, μ1, e1, ev⟩ := bind_ok ev
    obtain ⟨h1, rfl⟩ := pure_ok ev
    cases h1
    exact ⟨F, own, ph, ρ, μ, hK, I, .inl ⟨d, _, e1, fun ph' v H' I' g r => k own ph' σ H' v I' (r.weaken fun a z => .inl z)⟩⟩
  · unfold evS at ev
    rcases bind_ex ev with e1 | ⟨d, μ1, e1, ev⟩
    · exact ⟨F, own, ph, ρ, μ, hK, I, .inr ⟨c, μ', e1, fun ph' H' I' => k own ph' ρ σ H' I'⟩⟩
    · cases ev
theorem xs_ite {as bs : List Stmt} (hc : SE X.nox cl c ic) (ht : tst ic = true) (hn : ∀ S ρ, NE (evE S (cl S) ic ρ)) (ha : PSs X as (tSsX X.K cl ca W ss)) (hb : PSs X bs (tSsX X.K cl ca W ss')) : PS X (.If c as bs pos) (tSX X.K cl ca W (.ite ic ss ss')) := by
  refine (ps_if (PT.nox (hc.pt ht)) ha hb).imp fun E σ H q => ?_
  obtain ⟨F, own, ph, ρ, μ, hK, I, ⟨fl, ρ', μ', ev, k⟩ | ⟨c, μ', ev, k⟩⟩ := q
  · unfold evS at ev
    obtain ⟨x, μ1, e1, ev⟩ := bind_ok ev
    obtain ⟨kb, μ2, e2, ev⟩ := bind_ok ev
    obtain ⟨e2', rfl⟩ := opt_ok e2
    rw [truth_bl e2'] at e1
    refine ⟨F, own, ph, ρ, μ, kb, _, hK, I, e1, fun ph' H' I' g => ?_⟩
    cases kb with
    | true => exact ⟨F, own, ph', ρ, _, hK, I', .inl ⟨fl, ρ', μ', ev, k⟩⟩
    | false => exact ⟨F, own, ph', ρ, _, hK, I', .inl ⟨fl, ρ', μ', ev, k⟩⟩
  · unfold evS at ev
    obtain ⟨x, μ1, e1, ev⟩ := bind_exN (hn _ _) ev
    obtain ⟨kb, μ2, e2, ev⟩ := bind_exN NE.opt ev
    obtain ⟨e2', rfl⟩ := opt_ok e2
    rw [truth_bl e2'] at e1
    refine ⟨F, own, ph, ρ, μ, kb, _, hK, I, e1, fun ph' H' I' g => ?_⟩
    cases kb with
    | true => exact ⟨F, own, ph', ρ, _, hK, I', .inr ⟨c, μ', ev, k⟩⟩
    | false => exact ⟨F, own, ph', ρ, _, hK, I', .inr ⟨c, μ', ev, k⟩⟩
theorem xs_raise {n j : Nat} {m : Str} {p2 pos2 : Pos} (hc : X.calm = true) (tk : Takes X W) (hE : HasExc X ca x n) (hg : Gl X x) (hdb : (x == ("__debug__" : Str)) = false) :
    PS X (.Raise (some (.Call (.Name x p) [.Constant (.str m) j p2] [] pos2)) none pos) (tSX X.K cl ca W (.raise n)) := by
  obtain ⟨C, e1, h1, h2, h3, h4, h5⟩ := hE
  refine (ps_raise hc tk (pmk_own PySem.F.excBase_ValueError h2 h1 h3 (raises_own h4 h5) hg hdb)).imp fun E σ H q => ?_
  obtain ⟨F, own, ph, ρ, μ, hK, I, ⟨fl, ρ', μ', ev, k⟩ | ⟨c, μ', ev, k⟩⟩ := q
  · unfold evS at ev
    cases ev
  · unfold evS at ev
    cases ev
    have := k own ph ρ σ H I
    rw [e1] at this
    exact this
theorem xss_nil : PSs X [] (tSsX X.K cl ca W .nil) := pss_nil.imp fun E σ H q => by
  obtain ⟨F, own, ph, ρ, μ, hK, I, ⟨fl, ρ', μ', ev, k⟩ | ⟨c, μ', ev, k⟩⟩ := q
  · unfold evSs at ev
    obtain ⟨h1, rfl⟩ := pure_ok ev
    cases h1
    exact k own ph σ H I
  · unfold evSs at ev
    cases ev
theorem xss_cons (h1 : PS X st (tSX X.K cl ca W s)) (h2 : PSs X rest (tSsX X.K cl ca W ss)) : PSs X (st :: rest) (tSsX X.K cl ca W (.cons s ss)) := (pss_cons h1 h2).imp fun E σ H q => by
  obtain ⟨F, own, ph, ρ, μ, hK, I, ⟨fl, ρ', μ', ev, k⟩ | ⟨c, μ', ev, k⟩⟩ := q
  · unfold evSs at ev
    obtain ⟨⟨fl1, ρ1⟩, μ1, e1, ev⟩ := bind_ok ev
    refine ⟨F, own, ph, ρ, μ, hK, I, .inl ⟨fl1, ρ1, μ1, e1, ?_⟩⟩
    cases fl1 with
    | next => exact fun own' ph' σ' H' I' => ⟨F, own', ph', ρ1, μ1, hK, I', .inl ⟨fl, ρ', μ', ev, k⟩⟩
    | cont =>
      obtain ⟨h, rfl⟩ := pure_ok ev
      cases h
      exact k
    | ret d =>
      obtain ⟨h, rfl⟩ := pure_ok ev
      cases h
      exact k
  · unfold evSs at ev
    rcases bind_ex ev with e1 | ⟨⟨fl1, ρ1⟩, μ1, e1, ev⟩
    · exact ⟨F, own, ph, ρ, μ, hK, I, .inr ⟨c, μ', e1, k⟩⟩
    · refine ⟨F, own, ph, ρ, μ, hK, I, .inl ⟨fl1, ρ1, μ1, e1, ?_⟩⟩
      cases fl1 with
      | next => exact fun own' ph' σ' H' I' => ⟨F, own', ph', ρ1, μ1, hK, I', .inr ⟨c, μ', ev, k⟩⟩
      | cont => cases ev
      | ret d => cases ev
/-- what is never reached -/
theorem xss_stuck : PSs X rest (tSsX X.K cl ca W (.cons .stuck ss)) := ⟨fun pins s σ H E I q => by
  obtain ⟨F, own, ph, ρ, μ, hK, I, ⟨fl, ρ', μ', ev, k⟩ | ⟨c, μ', ev, k⟩⟩ := q
  · unfold evSs evS at ev
    cases ev
  · unfold evSs evS at ev
    cases ev⟩
theorem ss_stuck : PSs X rest (tSs X.K cl (.cons .stuck ss)) := ⟨fun pins s σ H E I q => by
  obtain ⟨F, own, ph, ρ, μ, fl, ρ', μ', hK, I, ev, k⟩ := q
  unfold evSs evS at ev
  cases ev⟩
end
end
end Ev

set_option Elab.async false
set_option linter.all false
set_option maxRecDepth 100000
set_option maxHeartbeats 4000000
namespace Ev
open PySem L2 PyProof.Rows
/-! ### which refusal it is: a def called within an except suite -/
theorem cr_isE {X : Cx} {a D : Addr} {oe : Obj} (C : ExcC X.K D) (hp : (a, oe) ∈ X.pn) (hz : Zc (.ref D) none oe) (hf : ∃ vs, oe.data = .fields vs) : CallR X (.builtin "isinstance") (rIsE X.K D a) := fun pins s σ H xs us Q I r h => by
  obtain ⟨c, cv, b, rfl, hcv, e, q⟩ := h
  cases r with
  | cons rx rr =>
    cases rr with
    | cons rt rr2 =>
      cases rr2
      cases rx
      cases hcv _ rt
      have hget := (I.pin (a, oe) (List.mem_append_left _ hp)).1
      have J : PySem.W.InstAt s.heap a oe D none := by
        obtain ⟨vs, hv⟩ := hf
        obtain ⟨k1, k2, k3, k4⟩ := oe
        obtain ⟨h1, h2⟩ := hz
        have h1 : k1 = .ref D := h1
        have h2 : k2 = none := h2
        have hv : k3 = .fields vs := hv
        subst h1 h2 hv
        exact ⟨hget, rfl, rfl, trivial⟩
      refine PySem.W.kia_one (PySem.W.handS_kitx_exc C.hg C.hk C.hs C.hd C.ha C.hn C.ht C.hm) I.kIn J e (fun z => nomatch z) fun tk => ?_
      exact ⟨.bl b, H, I.kept (t' := tk) fun _ _ z => z, rfl, q⟩
structure WhX (X : Cx) (a D : Addr) (c : Nat) : Prop where
  nd : X.N.Nodup
  n0 : X.N[0]? = some ("e" : Str)
  n1 : X.N[1]? = some ("own" : Str)
  v0 : Vis X.env.scope "e"
  v1 : Vis X.env.scope "own"
  l1 : Loc X.env.scope "own"
  s1 : X.fn ("own" : Str) = true ∨ X.env.scope.names.lookup ("own" : Str) = some .local
  gi : Gl X "isinstance"
  gv : Gl X "ValueError"
  gc : ∀ x ∈ whNms, Gl X x
  isi : X.mg "isinstance" = none
  ve : X.mg "ValueError" = none
  vek : PySem.W.kitOne X.K (.ref D) (.type "ValueError") = some true
  un : X.A.units + 66 < cLine
  is : CallR X (.builtin "isinstance") (rIsE X.K D a)
  cls : ∀ (j : Nat) nm, whNms[j]? = some nm → ∃ C, X.mg nm = some (.ref C) ∧ PySem.W.kitOne X.K (.ref D) (.ref C) = some (decide (j + 1 = c))
def isiB (nm : Str) (e : Expr) : Bool := match e with
  | .Call (.Name f _) [.Name y _, .Name z _] [] _ => f == ("isinstance" : Str) && (y == ("e" : Str) && z == nm)
  | _ => false
def isisB : List Str → List Expr → Bool
  | [], [] => true
  | n :: ns, e :: es => isiB n e && isisB ns es
  | _, _ => false
def tIs (a : Addr) (b : Bool) : TE := fun σ H Q => σ[0]? = some (some (.ref a)) ∧ Q (.bl b) H
def tIss (a : Addr) (bs : List Bool) : TA := fun σ H Q => σ[0]? = some (some (.ref a)) ∧ Q (bs.map V.bl) H
theorem isi_plain {nm : Str} {e : Expr} (h : isiB nm e = true) : plainX e = true ∧ isComp e = false := by
  unfold isiB at h
  split at h
  · exact ⟨rfl, rfl⟩
  · cases h
theorem isi_true {X : Cx} {nm : Str} {e : Expr} (h : isiB nm e = true) : ∀ whole, isTrue e X.env whole = (do let v ← whole; standAt e.pos; holding [v] (truthy v)) := by
  unfold isiB at h
  split at h
  · intro _; rfl
  · cases h
theorem nms_db : ∀ x ∈ whNms, (x == ("__debug__" : Str)) = false := by decide
section
variable {X : Cx} {a D : Addr} {c : Nat}
theorem pe_isG {nm : Str} {e : Expr} {cv : V} {cvv : Value} {b : Bool} (w : WhX X a D c) (h : isiB nm e = true) (hC : ∀ pos, PE X (.Name nm pos) (tC cv)) (hr : ∀ u, RelV cv u → u = cvv) (hk : PySem.W.kitOne X.K (.ref D) cvv = some b) : PE X e (tIs a b) := by
  unfold isiB at h
  split at h
  · simp only [Bool.and_eq_true] at h
    obtain ⟨h1, h2, h3⟩ := h
    rw [eq_of_beq h1, eq_of_beq h2, eq_of_beq h3]
    refine (pe_callB w.is w.gi w.isi boot_isi (pa_cons (pe_var w.n0 w.v0 (by decide) (by decide)) (pa_cons (hC _) pa_nil rfl) rfl) (by decide) (by decide) rfl rfl).imp fun σ H Q q => ?_
    exact ⟨.ref a, q.1, cv, cvv, b, rfl, hr, hk, q.2⟩
  · cases h
theorem pe_isC {j : Nat} {nm : Str} {e : Expr} (w : WhX X a D c) (hj : whNms[j]? = some nm) (h : isiB nm e = true) : PE X e (tIs a (decide (j + 1 = c))) := by
  obtain ⟨C, h1, h2⟩ := w.cls j nm hj
  have hm := List.mem_of_getElem? hj
  exact pe_isG w h (fun pos => pe_glob (w.gc nm hm) h1 (v := .ref C) rfl (nms_db nm hm)) (fun u r => r) h2
theorem boot_ve : bootBuiltins "ValueError" = some (.type "ValueError") := by decide +kernel
theorem pe_isV {e : Expr} (w : WhX X a D c) (h : isiB "ValueError" e = true) : PE X e (tIs a true) :=
  pe_isG w h (fun pos => pe_bltn (v := .ty "ValueError") w.gv w.ve boot_ve rfl (by decide) (by decide)) (fun u r => r) w.vek
theorem pa_isC : ∀ {ns : List Str} {es : List Expr} {i : Nat}, WhX X a D c → (∀ (k : Nat) n, ns[k]? = some n → whNms[i + k]? = some n) → isisB ns es = true → PA X es (tIss a ((List.range ns.length).map fun k => decide (i + k + 1 = c))) ∧ es.all plainX = true
  | [], [], i, w, _, _ => ⟨pa_nil.imp fun σ H Q q => q.2, rfl⟩
  | [], _ :: _, _, _, _, h => by cases h
  | _ :: _, [], _, _, _, h => by cases h
  | n :: ns, e :: es, i, w, hn, h => by
    have h : (isiB n e && isisB ns es) = true := h
    rw [Bool.and_eq_true] at h
    have h0 := pe_isC w (j := i) (hn 0 n rfl) h.1
    obtain ⟨h1, h2⟩ := pa_isC (i := i + 1) w (fun k m hk => by
      have := hn (k + 1) m hk
      rw [show i + (k + 1) = i + 1 + k by omega] at this
      exact this) h.2
    have hp := (isi_plain h.1).1
    refine ⟨(pa_cons h0 h1 (plain_star hp)).imp fun σ H Q q => ?_, by rw [List.all_cons, hp, h2]; rfl⟩
    refine ⟨q.1, q.1, ?_⟩
    have e1 : (List.range (n :: ns).length).map (fun k => decide (i + k + 1 = c)) = decide (i + 1 = c) :: (List.range ns.length).map fun k => decide (i + 1 + k + 1 = c) := by
      rw [List.length_cons, List.range_succ_eq_map, List.map_cons, List.map_map]
      congr 1
      apply List.map_congr_left
      intro k _
      show decide (i + (k + 1) + 1 = c) = _
      congr 1
      rw [show i + (k + 1) = i + 1 + k by omega]
    have q2 := q.2
    rw [e1] at q2
    exact q2
/-- the def's text -/
def whichB (body : List Stmt) : Bool := match body with
  | [.Assign [.Name o1 _] (.List l1 _) _, .Expr (.Call (.Attribute (.Name o2 _) m2 ap2) [.List l2 _] [] cp2) _, .Expr (.Call (.Attribute (.Name o3 _) m3 ap3) [.List l3 _] [] cp3) _, .Expr (.Call (.Attribute (.Name o4 _) m4 ap4) [e4] [] cp4) _,
      .If (.BoolOp .Or [.Compare (.Call (.Attribute (.Name o5 _) m5 ap5) [.Constant (.bool true) _ _] [] cp5) [.NotEq] [.Constant (.int 1) _ _] _, .UnaryOp .Not e5 _] _) [.Return (some _) _] [] _,
      .Return (some (.Tuple [.Constant (.str rf) _ _, .Call (.Attribute (.Name o6 _) m6 ap6) [.Constant (.bool true) _ _] [] cp6] _ _)) _] =>
    [o1, o2, o3, o4, o5, o6].all (· == ("own" : Str)) && (m2 == ("extend" : Str) && (m3 == ("extend" : Str) && (m4 == ("append" : Str) && (m5 == ("count" : Str) && (m6 == ("index" : Str) && (rf == ("refused" : Str) &&
      ((ap2.endLine == cp2.line) && ((ap3.endLine == cp3.line) && ((ap4.endLine == cp4.line) && ((ap5.endLine == cp5.line) && ((ap6.endLine == cp6.line) &&
      (isisB ["NoHands", "NoRow", "NoHand", "NoWorths"] l1 && (isisB ["NoOrder", "NoBound", "NotEven", "TooLong"] l2 && (isisB ["NoDegree", "NoPlaces", "NoText", "Done"] l3 && (isiB "Nothing" e4 && isiB "ValueError" e5)))))))))))))))
  | _ => false
def bits (c : Nat) : List Bool := (List.range 13).map fun k => decide (0 + k + 1 = c)
theorem bits_count : ∀ c, 1 ≤ c → c ≤ 13 → ((bits c).map PyData.bool).countP (fun z => PyData.eqv z (.bool true)) = 1 := by
  intro c h1 h2
  have : ∀ c ∈ (List.range 13).map (· + 1), ((bits c).map PyData.bool).countP (fun z => PyData.eqv z (.bool true)) = 1 := by decide
  exact this c (List.mem_map.mpr ⟨c - 1, List.mem_range.mpr (by omega), by omega⟩)
theorem bits_at {c : Nat} (k : Nat) (hk : k < 13) : (bits c)[k]? = some (decide (k + 1 = c)) := by
  unfold bits
  rw [List.getElem?_map, List.getElem?_range hk]
  show some (decide (0 + k + 1 = c)) = _
  rw [Nat.zero_add]
theorem dp_bits {K : PySem.W.Frag} {H : Hp} : ∀ bs : List Bool, DpAll K H (bs.map V.bl) (bs.map PyData.bool)
  | [] => .nil
  | b :: bs => .cons (.bl b) (dp_bits bs)
theorem bools_lay : ∀ bs : List Bool, PyData.canLayAll0 (bs.map PyData.bool) = true ∧ PyData.depthAll (bs.map PyData.bool) ≤ 0
  | [] => ⟨rfl, by simp [PyData.depthAll]⟩
  | b :: bs => by
    obtain ⟨h1, h2⟩ := bools_lay bs
    exact ⟨by simp [PyData.canLayAll0, PyData.canLay0, h1], by simp only [List.map_cons, PyData.depthAll, PyData.depth]; omega⟩
theorem bools_shaped (bs : List Bool) : SeqAt.shaped (.list (bs.map PyData.bool)) = true := by
  obtain ⟨h1, h2⟩ := bools_lay bs
  unfold SeqAt.shaped
  rw [show PyData.canLay0 (.list (bs.map PyData.bool)) = true from h1, Bool.true_and]
  exact decide_eq_true (by simp only [PyData.depth]; omega)
def tWhich (a : Addr) (c : Nat) : TS := fun E σ H => σ[0]? = some (some (.ref a)) ∧ 2 ≤ σ.length ∧ ∀ H' p, (∀ b o, H b = some o → H' b = some o) → H p = none → H' p = some (.tup [.str "refused", .int ((c : Int) - 1)]) → E.rt (.ref p) H'
theorem ps_expr_meth {e : Expr} {t : TE} {pos : Pos} (h : PE X e t) (hp : plainX e = true) (hc : isComp e = false) : PS X (.Expr e pos) (fun E σ H => t σ H fun _ H1 => E.nx σ H1) := ps_expr h (noswap hp hc)
theorem ite_n {k : Bool} {p q : Prop} (h : k = false) (hq : q) : if k = true then p else q := by rw [if_neg (by rw [h]; exact Bool.false_ne_true)]; exact hq
theorem which_ps {body : List Stmt} (w : WhX X a D c) (c1 : 1 ≤ c) (c2 : c ≤ 13) (h : whichB body = true) : PSs X body (tWhich a c) := by
  unfold whichB at h
  split at h
  · rename_i o1 _ l1 _ _ o2 _ m2 ap2 l2 _ cp2 _ o3 _ m3 ap3 l3 _ cp3 _ o4 _ m4 ap4 e4 cp4 _ o5 _ m5 ap5 _ _ cp5 _ _ _ e5 _ _ _ _ _ rf _ _ o6 _ m6 ap6 _ _ cp6 _ _ _
    simp only [Bool.and_eq_true, List.all_cons, List.all_nil, Bool.and_true] at h
    obtain ⟨⟨k1, k2, k3, k4, k5, k6⟩, n2, n3, n4, n5, n6, n7, p2, p3, p4, p5, p6, q1, q2, q3, q4, q5⟩ := h
    rw [eq_of_beq k1, eq_of_beq k2, eq_of_beq k3, eq_of_beq k4, eq_of_beq k5, eq_of_beq k6, eq_of_beq n2, eq_of_beq n3, eq_of_beq n4, eq_of_beq n5, eq_of_beq n6, eq_of_beq n7]
    obtain ⟨a1, b1⟩ := pa_isC (ns := ["NoHands", "NoRow", "NoHand", "NoWorths"]) (i := 0) w (fun k n hk => by
      match k, hk with
      | 0, hk => exact hk
      | 1, hk => exact hk
      | 2, hk => exact hk
      | 3, hk => exact hk
      | k + 4, hk => cases hk) q1
    obtain ⟨a2, b2⟩ := pa_isC (ns := ["NoOrder", "NoBound", "NotEven", "TooLong"]) (i := 4) w (fun k n hk => by
      match k, hk with
      | 0, hk => exact hk
      | 1, hk => exact hk
      | 2, hk => exact hk
      | 3, hk => exact hk
      | k + 4, hk => cases hk) q2
    obtain ⟨a3, b3⟩ := pa_isC (ns := ["NoDegree", "NoPlaces", "NoText", "Done"]) (i := 8) w (fun k n hk => by
      match k, hk with
      | 0, hk => exact hk
      | 1, hk => exact hk
      | 2, hk => exact hk
      | 3, hk => exact hk
      | k + 4, hk => cases hk) q3
    have a4 := pe_isC w (j := 12) (nm := "Nothing") rfl q4
    have a5 := pe_isV w q5
    obtain ⟨bs1, d1⟩ : ∃ bs, bs = (List.range 4).map fun k => decide (0 + k + 1 = c) := ⟨_, rfl⟩
    obtain ⟨bs2, d2⟩ : ∃ bs, bs = (List.range 4).map fun k => decide (4 + k + 1 = c) := ⟨_, rfl⟩
    obtain ⟨bs3, d3⟩ : ∃ bs, bs = (List.range 4).map fun k => decide (8 + k + 1 = c) := ⟨_, rfl⟩
    obtain ⟨b4, d4⟩ : ∃ b, b = decide (12 + 1 = c) := ⟨_, rfl⟩
    have a1 : PA X l1 (tIss a bs1) := by rw [d1]; exact a1
    have a2 : PA X l2 (tIss a bs2) := by rw [d2]; exact a2
    have a3 : PA X l3 (tIss a bs3) := by rw [d3]; exact a3
    have a4 : PE X e4 (tIs a b4) := by rw [d4]; exact a4
    have hbits : bs1 ++ bs2 ++ bs3 ++ [b4] = bits c := by rw [d1, d2, d3, d4]; rfl
    have ll1 : bs1.length = 4 := by rw [d1, List.length_map, List.length_range]
    have ll2 : bs2.length = 4 := by rw [d2, List.length_map, List.length_range]
    have ll3 : bs3.length = 4 := by rw [d3, List.length_map, List.length_range]
    clear d1 d2 d3 d4
    obtain ⟨r4, _⟩ := isi_plain q4
    have pv : ∀ pos, PE X (.Name "own" pos) (tVar 1) := fun pos => pe_var w.n1 w.v1 (by decide) (by decide)
    refine (pss_cons (ps_set (i := 1) w.nd w.n1 w.l1 (pe_lst a1) rfl w.s1)
      (pss_cons (ps_expr (pe_bm PySem.F.plainAttrs_list PySem.F.slot_list_extend PySem.F.type_list_extend mt_extend (pv _) (pa_cons (pe_lst a2) pa_nil rfl) rfl rfl p2 rfl rfl) rfl)
      (pss_cons (ps_expr (pe_bm PySem.F.plainAttrs_list PySem.F.slot_list_extend PySem.F.type_list_extend mt_extend (pv _) (pa_cons (pe_lst a3) pa_nil rfl) rfl rfl p3 rfl rfl) rfl)
      (pss_cons (ps_expr (pe_bm PySem.F.plainAttrs_list PySem.F.slot_list_append PySem.F.type_list_append mt_append (pv _) (pa_cons a4 pa_nil (plain_star r4)) rfl (few r4) p4 (plain_star r4) rfl) rfl)
      (pss_cons (ps_if (PW.pt (pw_or (pt_cmpR (op_of (by have := w.un; omega) .ne) (pe_bm PySem.F.plainAttrs_list PySem.F.slot_list_count PySem.F.type_list_count (mt_countD (by have := w.un; omega)) (pv _) (pa_cons pe_bl pa_nil rfl) rfl rfl p5 rfl rfl) pe_int (nomark _)) (pw_or1 (pt_not (pt_val a5 (isi_true q5)))))) (pss_one ps_never) pss_nil)
      (pss_one (ps_ret (pe_tup (pa_cons pe_str (pa_cons (pe_bm PySem.F.plainAttrs_list PySem.F.slot_list_index PySem.F.type_list_index (mt_indexD (by have := w.un; omega)) (pv _) (pa_cons pe_bl pa_nil rfl) rfl rfl p6 rfl rfl) pa_nil rfl) rfl))))))))).imp fun E σ H q => ?_
    obtain ⟨h0, hlen, kk⟩ := q
    have e0 : ∀ l : Addr, (σ.set 1 (some (V.ref l)))[0]? = some (some (.ref a)) := fun l => by rw [List.getElem?_set_ne (by decide)]; exact h0
    have e1 : ∀ l : Addr, (σ.set 1 (some (V.ref l)))[1]? = some (some (.ref l)) := fun l => List.getElem?_set_self (by omega)
    have sz : 100 ≤ sizeLine := by rw [sizeLine_eq]; decide
    have ln : ∀ (bs : List Bool), (bs.map V.bl).length = bs.length := fun bs => List.length_map _
    refine ⟨h0, by rw [ln, ll1]; exact Nat.le_trans (by decide) sz, fun l hl => ?_⟩
    refine ⟨.ref l, e1 l, .inl ⟨rfl, _, SqL.of upd_same⟩, ⟨e0 l, by rw [ln, ll2]; exact Nat.le_trans (by decide) sz, fun p hp => ?_⟩⟩
    have np : l ≠ p := fun z => by rw [z, upd_same] at hp; cases hp
    have np0 : H p = none := by rw [upd_ne (Ne.symm np)] at hp; exact hp
    refine ⟨l, p, _, _, rfl, rfl, (upd_ne np).trans upd_same, upd_same, by rw [ln, ln, ll1, ll2]; exact Nat.le_trans (by decide) sz, ?_⟩
    rw [← List.map_append]
    obtain ⟨H2, hH2, k2, g2⟩ : ∃ H2, H2 = upd (upd (upd H l (.lst (bs1.map V.bl))) p (.lst (bs2.map V.bl))) l (.lst ((bs1 ++ bs2).map V.bl)) ∧ (∀ b o, H b = some o → H2 b = some o) ∧ H2 l = some (.lst ((bs1 ++ bs2).map V.bl)) :=
      ⟨_, rfl, fun b o z => by rw [upd_ne (ne_of_none z hl), upd_ne (ne_of_none z np0), upd_ne (ne_of_none z hl)]; exact z, upd_same⟩
    rw [← hH2]
    clear hH2
    refine ⟨.ref l, e1 l, .inl ⟨rfl, _, SqL.of g2⟩, ⟨e0 l, by rw [ln, ll3]; exact Nat.le_trans (by decide) sz, fun p2 hp2 => ?_⟩⟩
    have np2 : l ≠ p2 := fun z => by rw [← z, g2] at hp2; cases hp2
    refine ⟨l, p2, _, _, rfl, rfl, (upd_ne np2).trans g2, upd_same, by rw [ln, ln, List.length_append, ll1, ll2, ll3]; exact Nat.le_trans (by decide) sz, ?_⟩
    rw [← List.map_append]
    obtain ⟨H3, hH3, k3, g3⟩ : ∃ H3, H3 = upd (upd H2 p2 (.lst (bs3.map V.bl))) l (.lst ((bs1 ++ bs2 ++ bs3).map V.bl)) ∧ (∀ b o, H b = some o → H3 b = some o) ∧ H3 l = some (.lst ((bs1 ++ bs2 ++ bs3).map V.bl)) :=
      ⟨_, rfl, fun b o z => by rw [upd_ne (ne_of_none z hl), upd_ne (ne_of_none (k2 b o z) hp2)]; exact k2 b o z, upd_same⟩
    rw [← hH3]
    clear hH3
    refine ⟨.ref l, e1 l, .inl ⟨rfl, _, SqL.of g3⟩, ⟨e0 l, l, _, _, rfl, rfl, g3, by rw [ln, List.length_append, List.length_append, ll1, ll2, ll3]; exact Nat.lt_of_lt_of_le (by decide) sz, ?_⟩⟩
    have hb2 : (bs1 ++ bs2 ++ bs3).map V.bl ++ [V.bl b4] = (bits c).map V.bl := by rw [← hbits]; simp only [List.map_append, List.map_cons, List.map_nil]
    rw [hb2]
    obtain ⟨H4, hH4, k4', g4⟩ : ∃ H4, H4 = upd H3 l (.lst ((bits c).map V.bl)) ∧ (∀ b o, H b = some o → H4 b = some o) ∧ H4 l = some (.lst ((bits c).map V.bl)) :=
      ⟨_, rfl, fun b o z => by rw [upd_ne (ne_of_none z hl)]; exact k3 b o z, upd_same⟩
    rw [← hH4]
    clear hH4
    have hdp : Dp X.K H4 (.ref l) (.list ((bits c).map PyData.bool)) := .lst (SqL.of g4) (dp_bits _)
    refine ⟨.ref l, e1 l, .inl ⟨rfl, _, SqL.of g4⟩, l, .bl true, .bool true, _, rfl, rfl, hdp, .bl true, bools_shaped _, rfl, .int 1, .int 1, by rw [bits_count c c1 c2]; exact .int 1, .int 1, rfl, rfl, false, rfl, ?_⟩
    refine (ite_n (k := false) rfl ?_)
    refine ⟨e0 l, true, rfl, ?_⟩
    refine (ite_n (k := !true) rfl ?_)
    have hat : ∀ m, m < 13 → ((bits c).map PyData.bool)[m]? = some (.bool (decide (m + 1 = c))) := fun m hm => by
      rw [List.getElem?_map, bits_at m hm]
      rfl
    have hc1 : (((c - 1 : Nat)) : Int) = (c : Int) - 1 := by omega
    refine (show tRet (tTup (tCons (tC (V.str "refused")) (tCons (tBM X.K "list" (rIndexD X.K) (tVar 1) (tCons (tC (V.bl true)) tNil)) tNil))) E (σ.set 1 (some (V.ref l))) H4 from ?_)
    refine ⟨.ref l, e1 l, .inl ⟨rfl, _, SqL.of g4⟩, l, .bl true, .bool true, _, c - 1, .bool true, rfl, rfl, hdp, .bl true, bools_shaped _, rfl, ?_, rfl, ?_, ?_⟩
    · rw [hat _ (by omega), decide_eq_true (show c - 1 + 1 = c by omega)]
    · intro m z hm hz
      rw [hat m (by omega), decide_eq_false (show ¬ m + 1 = c by omega)] at hz
      cases hz
      rfl
    · refine ⟨Nat.le_trans (by decide : 2 ≤ 100) sz, fun p3 hp3 => ?_⟩
      rw [hc1]
      refine kk _ p3 (fun b o z => by rw [upd_ne (ne_of_none (k4' b o z) hp3)]; exact k4' b o z) ?_ upd_same
      cases z : H p3 with
      | none => rfl
      | some o => rw [k4' p3 o z] at hp3; cases hp3
  · cases h
end
end Ev

set_option Elab.async false
set_option linter.all false
set_option maxRecDepth 100000
set_option maxHeartbeats 4000000
namespace Ev
open PySem L2 PyProof.Rows
section
variable {F : Fx} {own : Nat → Option Addr} {ph : List Addr} {ρ : Env} {μ : Mu} {σ : L2.St} {H H' : Hp}
theorem Grow.more (h : ∀ a o, H a = some o → H' a = some o) : Grow ph H ph H' := ⟨fun a o e _ => h a o e, ⟨[], by simp, by simp⟩, fun a o e => ⟨o, h a o e⟩⟩
theorem MuOk.more {sa : Sa} (M : MuOk sa ph H μ) (h : ∀ a o, H a = some o → H' a = some o) : MuOk sa ph H' μ := by
  refine ⟨M.len, M.nd, fun n a mo e1 e2 => ?_⟩
  exact (M.mo n a mo e1 e2).mono (fun o e => h a o e) ((Grow.more (ph := ph) h).reps M)
theorem Stt.more (I : Stt F own ph ρ μ σ H) (h : ∀ a o, H a = some o → H' a = some o) : Stt F own ph ρ μ σ H' := I.grow (Grow.more h) (I.mu.more h)
theorem Stt.blank {ρ' : Env} {σ' : L2.St} (I : Stt F own ph ρ μ σ H) (hl : ρ'.length = σ'.length) : Stt F own ph (ρ'.map fun _ => none) μ σ' H := I.slot (by rw [List.length_map]; exact hl) fun i b d e => by
  rw [List.getElem?_map] at e
  obtain ⟨x, _, z⟩ := Option.map_eq_some_iff.mp e
  cases z
end
/-- a def's call where an exception is handled, its object pinned -/
theorem run_hot {X : Cx} {k : Nat} {pins : List (Addr × Obj)} {σ : L2.St} {H : Hp} {s : Shared} {Q : VK} {N ps : List Str} {f : Addr} {fd : FuncData} {name qual : Str} {params : Arguments} {body : List Stmt} {scope : Scope} {us : List Value} {vs : List V} {pp : Addr × Obj}
    (F : FunD X.K name qual params body scope [] [] f fd) (S : FnScope N ps scope) (hb : Binds X.K fd ps []) (hr : L2H.RoomH (k + 1) X.A) (hp : pp ∈ X.pn) (I : Inv X pins σ H s) (r : Vals vs us) (hl : vs.length = ps.length)
    (hbody : ∀ cdv, ∃ t, PSs (L2H.cxH CX0 X.prog X.w X.K X.mg X.base N qual scope f cdv X.A X.stack s H E0 pp) body t ∧ t { nx := fun _ H' => Q .non H', rt := Q } (L2.start N vs) H) :
    wpAny (model X.prog X.w) X.A (call (.ref f) us) (EP X pins σ Q) X.xe s := by
  obtain ⟨oc, od, dV, kV, doc, pm, an, cdv, ct, osl, rfl, lk, hcd, _, _⟩ := F.ex
  have P1 := I.pin pp (List.mem_append_left _ hp)
  have hpin : L2H.PinOk X.stack H s pp := ⟨P1.1, P1.2.1, fun hm => (List.mem_cons.mp (I.stkSub pp.1 hm)).elim P1.2.2.1 P1.2.2.2.1, P1.2.2.2.2⟩
  have b := hb s us I.kIn (by rw [List.append_nil, ← r.length]; exact hl)
  rw [List.append_nil] at b
  have hkd : ∀ y ∈ ps.zip us, scope.names.lookup y.1 = some .local ∨ (scope.names.lookup y.1 = some .cell ∧ ((cellsFrom (s.heap.objs.size + 1) scope.names []).lookup y.1).isSome = true) := by
    rintro ⟨m, v⟩ hy
    exact (S.par m (List.of_mem_zip hy).1).imp id fun z => ⟨z, PySem.W.cellsFrom_some _ _ _ (.inl z)⟩
  refine wpAny_call (codeAny_mono (codeAny_call_function hr.depth (I.kIn _ _ lk) rfl S.co S.gen rfl (PySem.W.codeRec_of I.kIn hcd) (b _ _ _ _ (wpAny_newFunctionEnv_cells S.kind hkd fun env he s1 x => ?_)) (R := CR CX0 X.stack X.prog X.w H s Q E0)) fun rr s' hq => ?_)
  · subst he
    obtain ⟨t, ht, hq⟩ := hbody cdv
    refine ⟨I.nolimit.keeps x.toInCall.keep, codeAny_func (wpAny_mono (ht.run [] s1 (L2.start N vs) H _ (L2H.inv_startH S hpin I.env0 hl r x) hq) (fun fl s' hs => ?_) fun e s' hs => hs)⟩
    cases fl with
    | ret u =>
      obtain ⟨v, σ', H', J, rv, q⟩ := hs
      exact ⟨v, H', J.os, J.bare, J.base, J.hok, rv, q⟩
    | next =>
      obtain ⟨σ', H', J, q⟩ := hs
      exact ⟨V.non, H', J.os, J.bare, J.base, J.hok, rfl, q⟩
    | brk => obtain ⟨_, _, _, z⟩ := hs; exact z.elim
    | cont => obtain ⟨_, _, _, z⟩ := hs; exact z.elim
  · cases rr with
    | error e => exact False.elim hq
    | ok fl =>
      cases fl with
      | ret u => exact I.after hq
      | _ => exact False.elim hq
def whScB (sc : Scope) : Bool := sc.names.lookup ("e" : Str) == some .local && (sc.names.lookup ("own" : Str) == some .local && (sc.names.lookup ("isinstance" : Str) == some .globalImplicit && (sc.names.lookup ("ValueError" : Str) == some .globalImplicit && whNms.all fun x => sc.names.lookup x == some .globalImplicit)))
structure WhOk (K : PySem.W.Frag) (mg : Str → Option Value) (ca : Nat → Value) : Prop where
  fn : ∃ params body scope f fd, FunD K "_law_which" "_law_which" params body scope [] [] f fd ∧ FnScope ["e", "own"] ["e"] scope ∧ Binds K fd ["e"] [] ∧ mg ("_law_which" : Str) = some (.ref f) ∧ whichB body = true ∧ whScB scope = true
  isi : mg ("isinstance" : Str) = none
  ve : mg ("ValueError" : Str) = none
  cls : ∀ (j : Nat) nm, whNms[j]? = some nm → ∃ C, mg nm = some (.ref C) ∧ ca (j + 1) = .ref C ∧ ExcC K C ∧ PySem.W.kitOne K (.ref C) (.type "ValueError") = some true ∧ ∀ (j' : Nat) nm', whNms[j']? = some nm' → ∃ C', mg nm' = some (.ref C') ∧ PySem.W.kitOne K (.ref C) (.ref C') = some (decide (j' = j))
  te : ∃ T, mg ("TurnError" : Str) = some (.ref T) ∧ ∀ j < 13, PySem.W.exmOne K (ca (j + 1)) (.ref T) = some true
def tWh (i : Nat) (a : Addr) (c : Nat) : TE := fun σ H Q => (∃ σ0 : L2.St, σ = σ0.set i (some (V.ref a))) ∧ ∀ H' p, (∀ b o, H b = some o → H' b = some o) → H p = none → H' p = some (.tup [.str "refused", .int ((c : Int) - 1)]) → Q (.ref p) H'
theorem pe_which {X : Cx} {ca : Nat → Value} {k i c : Nat} {n : Str} {a D : Addr} {oe : Obj} {p q pos : Pos} (g : WhOk X.K X.mg ca) (c1 : 1 ≤ c) (c2 : c ≤ 13) (hD : ca c = .ref D) (hr : L2H.RoomH (k + 1) X.A) (hu : X.A.units + 100 < cLine) (hp : (a, oe) ∈ X.pn) (hz : Zc (.ref D) none oe) (hf : ∃ vs, oe.data = .fields vs)
    (hg : Gl X "_law_which") (hi : X.N[i]? = some n) (hv : Vis X.env.scope n) (hd : (n == ("__debug__" : Str)) = false) (hcd : (n == ("__classdict__" : Str)) = false) : PE X (.Call (.Name "_law_which" p) [.Name n q] [] pos) (tWh i a c) := by
  obtain ⟨params, body, scope, f, fd, F, S, hb, hm, hw, hs⟩ := g.fn
  refine ⟨fun pins s σ H Q I h => wpAny_Call_Name_kw (ld_glob I hg hm ?_ (by decide))⟩
  have ha : PA X [.Name n q] (tCons (tVar i) tNil) := pa_cons (pe_var hi hv hd hcd) pa_nil rfl
  have h0 : σ[i]? = some (some (.ref a)) := by
    obtain ⟨σ0, e⟩ := h.1
    have hlen := I.len
    rw [e, List.length_set] at hlen
    rw [e]
    exact List.getElem?_set_self (by rw [hlen]; exact (List.getElem?_eq_some_iff.mp hi).1)
  refine PySem.W.callWith_K (h₀ := X.base) I.ok.mod.kin F.kp (thn (ha.run pos pins s σ H (fun vs H1 => vs = [V.ref a] ∧ H1 = H) I ⟨.ref a, h0, rfl, rfl⟩) fun us s1 z => ?_) rfl rfl
  obtain ⟨vs, H1, I1, r, e1, e2⟩ := z
  subst e1 e2
  refine ⟨I1.kIn, run_hot F S hb hr hp I1 r rfl fun cdv => ?_⟩
  simp only [whScB, Bool.and_eq_true] at hs
  obtain ⟨h1, h2, h3, h4, h5⟩ := hs
  obtain ⟨C, q1, q2, q3, q4, q5⟩ := g.cls (c - 1) (whNms[c - 1]'(by show c - 1 < 13; omega)) (List.getElem?_eq_getElem (by show c - 1 < 13; omega))
  rw [show c - 1 + 1 = c by omega, hD] at q2
  cases q2
  have w : WhX (L2H.cxH CX0 X.prog X.w X.K X.mg X.base ["e", "own"] "_law_which" scope f cdv X.A X.stack s1 H1 E0 (a, oe)) a D c := by
    refine ⟨S.nd, rfl, rfl, .inl (eq_of_beq h1), .inl (eq_of_beq h2), .inl (eq_of_beq h2), .inl rfl, eq_of_beq h3, eq_of_beq h4, fun x hx => eq_of_beq (List.all_eq_true.mp h5 x hx), g.isi, g.ve, q4, ?_, cr_isE q3 (by simp [L2H.cxH]) hz hf, fun j nm hj => ?_⟩
    · show X.A.units + 3 + 66 < cLine
      omega
    · obtain ⟨C', z1, z2⟩ := q5 j nm hj
      refine ⟨C', z1, z2.trans ?_⟩
      congr 1
      have hj13 : j < 13 := (List.getElem?_eq_some_iff.mp hj).1
      by_cases e : j = c - 1
      · rw [decide_eq_true e, decide_eq_true (by omega)]
      · rw [decide_eq_false e, decide_eq_false (by omega)]
  exact ⟨_, which_ps w c1 c2 hw, rfl, Nat.le_refl 2, fun H' p hext hnp hH => h.2 H' p hext hnp hH⟩
/-! ### try: body, except TurnError as n: return _law_which(n) -/
section
variable {X : Cx} {cl : Calls} {ca : Nat → Value} {k i : Nat} {n : Str} {body : List Stmt} {ib : ISs} {np p1 p2 p3 p4 pos pos' : Pos}
def tSuite (ca : Nat → Value) (i : Nat) (a : Addr) (cls : Value) (d : Option Addr) : TS := fun E σ H => d = none ∧ ∃ c, 1 ≤ c ∧ c ≤ 13 ∧ cls = ca c ∧ tWh i a c σ H fun v H' => E.rt v H'
theorem ss_tryW (hst : X.stack = X.env :: X.outer) (hfr : X.env.frame = some X.env.locals) (g : WhOk X.K X.mg ca) (hr : Room (k + 1) X.A) (nd : X.N.Nodup) (hi : X.N[i]? = some n) (hln : X.env.scope.names.lookup n = some .local) (hd : (n == ("__debug__" : Str)) = false) (hcd : (n == ("__classdict__" : Str)) = false)
    (hgT : Gl X "TurnError") (hgW : Gl X "_law_which") (hb : ∀ (W : WX) (pn : List (Addr × Obj)) (xe : Value → Shared → Prop), Takes (X.tr pn xe) W → PSs (X.tr pn xe) body (tSsX X.K cl ca W ib)) :
    PS X (.Try body [.ExceptHandler (some (.Name "TurnError" np)) (some n) [.Return (some (.Call (.Name "_law_which" p1) [.Name n p2] [] p3)) p4] pos'] [] [] pos) (tS X.K cl (.tryW i ib)) := by
  obtain ⟨T, hT, hex⟩ := g.te
  refine (ps_try_as (i := i) (c := .ref T) (tb := fun W => tSsX X.K cl ca W ib) (ts := tSuite ca i) (Wout := fun _ _ _ _ => False) hst hfr nd hi hln ⟨hgT, by decide, .inl hT⟩ takes0 (fun W pn xe tk _ => hb W pn xe tk) (fun a oe cls d pn hz hf => ?_)).imp fun E σ H q => ?_
  · by_cases hc : d = none ∧ ∃ c, 1 ≤ c ∧ c ≤ 13 ∧ cls = ca c
    · obtain ⟨rfl, c, c1, c2, rfl⟩ := hc
      have hj : c - 1 < whNms.length := by show c - 1 < 13; omega
      obtain ⟨C, _, q2, _⟩ := g.cls (c - 1) whNms[c - 1] (List.getElem?_eq_getElem hj)
      rw [show c - 1 + 1 = c by omega] at q2
      refine (pss_one (ps_ret (pe_which (X := X.suite a ((a, oe) :: pn)) (k := k) (a := a) (oe := oe) g c1 c2 q2 ⟨hr.dp, hr.un⟩ (by have := hr.un; show X.A.units + 100 < cLine; omega) (by simp) (by rw [← q2]; exact hz) hf hgW hi (.inl hln) hd hcd))).imp fun E σ H q => ?_
      obtain ⟨_, c', z1, z2, z3, z4⟩ := q
      have : c' = c := by
        have hj' : c' - 1 < whNms.length := by show c' - 1 < 13; omega
        obtain ⟨C', _, q2', _, _, q5⟩ := g.cls (c' - 1) whNms[c' - 1] (List.getElem?_eq_getElem hj')
        obtain ⟨C0, m1, m3, _, _, r5⟩ := g.cls (c - 1) whNms[c - 1] (List.getElem?_eq_getElem hj)
        rw [show c' - 1 + 1 = c' by omega, ← z3, q2] at q2'
        cases q2'
        obtain ⟨D1, n1, o1⟩ := q5 (c - 1) whNms[c - 1] (List.getElem?_eq_getElem hj)
        obtain ⟨D2, n2, o2⟩ := r5 (c - 1) whNms[c - 1] (List.getElem?_eq_getElem hj)
        rw [n1] at n2
        cases n2
        have m3 : ca c = .ref C0 := by
          have := m3
          rw [show c - 1 + 1 = c by omega] at this
          exact this
        rw [q2] at m3
        cases m3
        rw [o1] at o2
        have := Option.some.inj o2
        rw [decide_eq_true (show c - 1 = c - 1 from rfl)] at this
        have := of_decide_eq_true this
        omega
      rw [this] at z4
      exact z4
    · exact ⟨fun pins s σ H E I q => absurd ⟨q.1, q.2.imp fun c z => ⟨z.1, z.2.1, z.2.2.1⟩⟩ hc⟩
  · obtain ⟨F, own, ph, ρ, μ, fl, ρ', μ', hK, I, ev, kk⟩ := q
    unfold evS M.grab at ev
    refine ⟨F, own, ph, ρ, μ, hK, I, ?_⟩
    cases e : evSs F.S (cl F.S) ib ρ μ with
    | ok p μ1 =>
      rw [e] at ev
      cases ev
      exact .inl ⟨_, _, _, rfl, kk⟩
    | bad => rw [e] at ev; cases ev
    | ex c μ1 =>
      rw [e] at ev
      simp only at ev
      by_cases hc : 1 ≤ c ∧ c ≤ 13
      · rw [if_pos hc] at ev
        cases ev
        refine .inr ⟨c, _, rfl, fun own' ph' ρ'' σ' H' I' => ⟨true, ?_, fun _ a ha => ?_, fun z => by cases z⟩⟩
        · have := hex (c - 1) (by omega)
          rw [show c - 1 + 1 = c by omega] at this
          exact this
        · refine ⟨rfl, c, hc.1, hc.2, rfl, ⟨σ', rfl⟩, fun H'' p hext hnp hH => ?_⟩
          exact kk own' ph' σ H'' (.ref p) ((I'.more hext).blank I.lenE) (.tup hH (.cons (.str _) (.cons (.int _) .nil)))
      · rw [if_neg hc] at ev
        cases ev
end
end Ev

set_option Elab.async false
set_option linter.all false
set_option maxRecDepth 100000
set_option maxHeartbeats 4000000
namespace Ev
open PySem L2 PyProof.Rows
/-! ### a def out of a list of defs, called -/
/-- the names of a display of defs -/
inductive SFs (X : Cx) (cl : Calls) (ca : Nat → Value) (k : Nat) (kq : Option Str) : List Expr → List (Str × Nat × Option Int) → List Addr → Prop
  | nil : SFs X cl ca k kq [] [] []
  | cons {x : Str} {p : Pos} {es : List Expr} {f np : Nat} {dk : Option Int} {kw : Str} {fa : Addr} {fs : List (Str × Nat × Option Int)} {as : List Addr} : HasFnX X cl ca k x f np (dk.map fun d => (kw, d)) → X.mg x = some (.ref fa) → Gl X x → (x == ("__debug__" : Str)) = false → (∀ q, kq = some q → q = kw ∧ dk.isSome = true) → SFs X cl ca k kq es fs as → SFs X cl ca k kq (.Name x p :: es) ((x, f, dk) :: fs) (fa :: as)
theorem Call_kw {M : Model} {A : Around} {E : Value → Shared → Prop} {s : Shared} {env : PySem.Env} {func : Expr} {args : List Expr} {kws : List Keyword} {pos : Pos} {Q : Value → Shared → Prop}
    (h : wpAny M A (eval func env) (fun f s₁ => wpAny M A (callWith pos f [] (backTo pos (starEach args env)) (backToKw pos (keywordEach kws env))) Q E s₁) E s)
    (he : eval (.Call func args kws pos) env = (do callWith pos (← eval func env) [] (backTo pos (starEach args env)) (backToKw pos (keywordEach kws env)))) :
    wpAny M A (eval (.Call func args kws pos) env) Q E s := by
  rw [he]; exact wpAny_bind h
section
variable {X : Cx} {cl : Calls} {ca : Nat → Value} {W : WX} {k : Nat} {kq : Option Str} {ns : List Expr} {fs : List (Str × Nat × Option Int)} {as : List Addr}
theorem SFs.pa (h : SFs X cl ca k kq ns fs as) : PA X ns (fun _ H Q => Q (as.map V.ref) H) := by
  induction h with
  | nil => exact pa_nil
  | @cons x p es f np dk kw fa fs as h1 h2 h3 h4 _ _ ih => exact (pa_cons (pe_glob h3 h2 (v := .ref fa) rfl h4) ih rfl).imp fun σ H Q q => q
theorem SFs.len (h : SFs X cl ca k kq ns fs as) : as.length = fs.length := by
  induction h with
  | nil => rfl
  | cons _ _ _ _ _ _ ih => simp [ih]
theorem SFs.at (h : SFs X cl ca k kq ns fs as) : ∀ {i : Nat} {p : Str × Nat × Option Int}, fs[i]? = some p → ∃ fa np kw, as[i]? = some fa ∧ HasFnX X cl ca k p.1 p.2.1 np (p.2.2.map fun d => (kw, d)) ∧ X.mg p.1 = some (.ref fa) ∧ (∀ q, kq = some q → q = kw ∧ p.2.2.isSome = true) := by
  induction h with
  | nil => intro i p e; simp at e
  | @cons x p es f np dk kw fa fs as h1 h2 _ _ h5 _ ih =>
    intro i q e
    cases i with
    | zero =>
      simp at e
      subst e
      exact ⟨fa, np, kw, rfl, h1, h2, h5⟩
    | succ i =>
      obtain ⟨fa', np', kw', e1, e2⟩ := ih (i := i) (p := q) (by simpa using e)
      exact ⟨fa', np', kw', by simpa using e1, e2⟩
theorem SFs.atI (h : SFs X cl ca k kq ns fs as) {j : Int} {p : Str × Nat × Option Int} (e : L2.atI fs j = some p) : ∃ fa np kw, L2.atI (as.map V.ref) j = some (.ref fa) ∧ HasFnX X cl ca k p.1 p.2.1 np (p.2.2.map fun d => (kw, d)) ∧ X.mg p.1 = some (.ref fa) ∧ (∀ q, kq = some q → q = kw ∧ p.2.2.isSome = true) := by
  unfold L2.atI at e ⊢
  rw [List.length_map, h.len]
  obtain ⟨i, h1, h2⟩ := Option.bind_eq_some_iff.mp e
  obtain ⟨fa, np, kw, e1, e2, e3, e4⟩ := h.at h2
  refine ⟨fa, np, kw, ?_, e2, e3, e4⟩
  rw [h1]
  show (as.map V.ref)[i]? = _
  rw [List.getElem?_map, e1]
  rfl
variable {c e b : Expr} {es : List Expr} {ii ib : IE} {ies : IEs} {lp sp pos kp : Pos} {kw : Str}
/-- the def that is picked -/
theorem pe_pick (hF : SFs X cl ca k kq ns fs as) (hl : ns.length ≤ 1000) (hi : SE X.nox cl c ii) : PE X (.Subscript (.List ns lp) c sp) (fun σ H Q => ∃ F own ph ρ μ j μ1 p fa, F.K = X.K ∧ Stt F own ph ρ μ σ H ∧ evE F.S (cl F.S) ii ρ μ = .ok (.int j) μ1 ∧ L2.atI fs j = some p ∧ L2.atI (as.map V.ref) j = some (.ref fa) ∧
    ∀ ph' H', Stt F own ph' ρ μ1 σ H' → Grow ph H ph' H' → Q (.ref fa) H') := by
  refine (pe_ix ix_list (pe_lst hF.pa) (PE.nox hi.pe) (plain_ix hi.pl)).imp fun σ H Q q => ?_
  obtain ⟨F, own, ph, ρ, μ, j, μ1, p, fa, hK, I, e1, e2, e3, kk⟩ := q
  have hz : (as.map V.ref).length ≤ sizeLine := by
    have h1 : ns.length = fs.length := by
      clear kk e3 e2 hl
      induction hF with
      | nil => rfl
      | cons _ _ _ _ _ _ ih => simp [ih]
    rw [List.length_map, hF.len, ← h1]
    exact Nat.le_trans hl (Nat.le_trans (by decide) million)
  refine ⟨hz, fun q hq => ?_⟩
  have I1 : Stt F own ph ρ μ σ (upd H q (.lst (as.map V.ref))) := I.laid hq
  have g1 : Grow ph H ph (upd H q (.lst (as.map V.ref))) := Grow.new hq
  refine one hK I1 e1 fun ph2 vx H2 I2 g2 rx => ?_
  cases rx
  exact ⟨q, as.map V.ref, j, .ref fa, rfl, rfl, SqL.of (g2.keep q _ upd_same (I.notPhi hq)), e3, kk ph2 H2 I2 (g1.trans g2)⟩
theorem xe_callL (hF : SFs X cl ca k kq ns fs as) (hl : ns.length ≤ 1000) (hr : Room k X.A) (tk : Takes X W) (hi : SE X.nox cl c ii) (hni : ∀ S ρ, NE (evE S (cl S) ii ρ)) (ha : SA X.nox cl (e :: es) ies) (hn : ∀ S ρ, NE (evEs S (cl S) ies ρ)) :
    PE X (.Call (.Subscript (.List ns lp) c sp) (e :: es) [] pos) (tEX X.K cl ca W (.callL fs ii ies)) := by
  have hp := ha.pl
  rw [List.all_cons, Bool.and_eq_true] at hp
  refine ⟨fun pins s σ H Q I q => ?_⟩
  obtain ⟨F, own, ph, ρ, μ, hK, I0, q⟩ := q
  obtain ⟨j, μ1, p, ds, μ2, e1, e2, e3, q⟩ : ∃ j μ1 p ds μ2, evE F.S (cl F.S) ii ρ μ = .ok (.int j) μ1 ∧ L2.atI fs j = some p ∧ evEs F.S (cl F.S) ies ρ μ1 = .ok ds μ2 ∧
      ((∃ d μ', cl F.S p.2.1 (ds ++ dfl p.2.2) μ2 = .ok d μ' ∧ ∀ ph' v H', Stt F own ph' ρ μ' σ H' → Grow ph H ph' H' → Rep F.sa ph' (Av F own (lk (.callL fs ii ies))) H' v d → Q v H') ∨ ∃ c μ', cl F.S p.2.1 (ds ++ dfl p.2.2) μ2 = .ex c μ' ∧ ∀ ph' H', Stt F own ph' ρ μ' σ H' → W (ca c) none σ H') := by
    have fnI : ∀ {x : D} {p : Str × Nat × Option Int}, fnAt fs x = some p → ∃ j, x = .int j ∧ L2.atI fs j = some p := fun {x p} h => by
      cases x <;> first | exact ⟨_, rfl, h⟩ | cases h
    rcases q with ⟨d, μ', ev, kk⟩ | ⟨c, μ', ev, kk⟩
    · obtain ⟨x, μ1, e1, ev⟩ := bind_ok (show (evE F.S (cl F.S) ii ρ >>= fun j => M.opt (fnAt fs j) >>= fun p => evEs F.S (cl F.S) ies ρ >>= fun ds => cl F.S p.2.1 (ds ++ dfl p.2.2)) μ = .ok d μ' by simpa [evE] using ev)
      obtain ⟨p, μ2, e2, ev2⟩ := bind_ok ev
      obtain ⟨e2', e5⟩ := opt_ok e2
      obtain ⟨ds, μ3, e3, ev3⟩ := bind_ok ev2
      obtain ⟨j, e6, e4⟩ := fnI e2'
      subst e5
      subst e6
      exact ⟨j, _, p, ds, μ3, e1, e4, e3, .inl ⟨d, μ', ev3, kk⟩⟩
    · obtain ⟨x, μ1, e1, ev⟩ := bind_exN (hni _ _) (show (evE F.S (cl F.S) ii ρ >>= fun j => M.opt (fnAt fs j) >>= fun p => evEs F.S (cl F.S) ies ρ >>= fun ds => cl F.S p.2.1 (ds ++ dfl p.2.2)) μ = .ex c μ' by simpa [evE] using ev)
      obtain ⟨p, μ2, e2, ev2⟩ := bind_exN NE.opt ev
      obtain ⟨e2', e5⟩ := opt_ok e2
      obtain ⟨ds, μ3, e3, ev3⟩ := bind_exN (hn _ _) ev2
      obtain ⟨j, e6, e4⟩ := fnI e2'
      subst e5
      subst e6
      exact ⟨j, _, p, ds, μ3, e1, e4, e3, .inr ⟨c, μ', ev3, kk⟩⟩
  obtain ⟨fa, np, kw, e4, hFn, hmg, _⟩ := hF.atI e2
  refine Call_ (thn ((pe_pick hF hl hi).run pins s σ H (fun v H1 => ∃ ph1, v = .ref fa ∧ Stt F own ph1 ρ μ1 σ H1 ∧ Grow ph H ph1 H1) I ⟨F, own, ph, ρ, μ, j, μ1, p, fa, hK, I0, e1, e2, e4, fun ph' H' I' g' => ⟨ph', rfl, I', g'⟩⟩) fun u s1 z => ?_) rfl
  obtain ⟨v, H1, I1, r1, ph1, ev, St1, g1⟩ := z
  subst ev
  cases r1
  obtain ⟨fa', fd, ps, F0, hm, hk, hb, hb2⟩ := hFn.ex
  rw [hmg] at hm
  cases hm
  have hA := (PA.nox ha.pa).run pos pins s1 σ H1 (fun vs H2 => ∃ ph2, Stt F own ph2 ρ μ2 σ H2 ∧ Grow ph1 H1 ph2 H2 ∧ Reps F.sa ph2 (Av F own (lks ies)) H2 vs ds) I1 ⟨F, own, ph1, ρ, μ1, ds, μ2, hK, St1, e3, fun ph2 vs H2 I2 g2 rs => ⟨ph2, I2, g2, rs⟩⟩
  refine PySem.W.callWith_K (h₀ := X.base) I.ok.mod.kin hk (thn hA fun us s2 z2 => ?_) (plain_star (X := X) hp.1) (noStars (X := X) hp.2 pos)
  obtain ⟨vs, H2, I2, r, ph2, St2, g2, rs⟩ := z2
  refine ⟨I2.kIn, ?_⟩
  have build : ∀ {vs' : List V}, Reps F.sa ph2 (Av F own (lks ies)) H2 vs' (ds ++ dfl p.2.2) → spX X.K cl ca p.2.1 np vs' H2 Q (WE W σ) := fun {vs'} rr => by
    have hbad : cl F.S p.2.1 (ds ++ dfl p.2.2) μ2 ≠ .bad := by
      rcases q with ⟨d, μ', ev, _⟩ | ⟨c, μ', ev, _⟩ <;> (rw [ev]; exact fun z => by cases z)
    refine ⟨by rw [rr.length]; exact hFn.len _ _ _ hbad, F.S, F.sa, ph2, μ2, Av F own (lks ies), _, rr, St2.mu, hK ▸ St2.scr, fun a h => St2.dom h, fun a h => St2.avphi h, ?_⟩
    rcases q with ⟨d, μ', ev, kk⟩ | ⟨c, μ', ev, kk⟩
    · exact .inl ⟨d, μ', ev, fun ph' v H' g M r => kk ph' v H' (St2.grow g M) ((g1.trans g2).trans g) r⟩
    · exact .inr ⟨c, μ', ev, fun ph' H' g M => kk ph' H' (St2.grow g M)⟩
  cases hdk : p.2.2 with
  | none =>
    rw [hdk] at hb build
    have rr := build (vs' := vs) (by show Reps F.sa ph2 (Av F own (lks ies)) H2 vs (ds ++ []); rw [List.append_nil]; exact rs)
    exact run_fnS F0 hr (hb rfl) (passAt tk σ) I2 r rr
  | some dv =>
    rw [hdk] at hb2 build
    obtain ⟨⟨dvs, hv, hb⟩, _⟩ := hb2 kw dv rfl
    exact run_fnSD F0 hr hb hv (passAt tk σ) I2 r (build (rs.append (.cons (.int dv) .nil)))
theorem xe_callLK (hF : SFs X cl ca k (some kw) ns fs as) (hl : ns.length ≤ 1000) (hr : Room k X.A) (tk : Takes X W) (hi : SE X.nox cl c ii) (hni : ∀ S ρ, NE (evE S (cl S) ii ρ)) (ha : SA X.nox cl (e :: es) ies) (hn : ∀ S ρ, NE (evEs S (cl S) ies ρ)) (hb : SE X.nox cl b ib) (hn2 : ∀ S ρ, NE (evE S (cl S) ib ρ)) :
    PE X (.Call (.Subscript (.List ns lp) c sp) (e :: es) [⟨some kw, b, kp⟩] pos) (tEX X.K cl ca W (.callLK fs ii ies kw ib)) := by
  have hp := ha.pl
  rw [List.all_cons, Bool.and_eq_true] at hp
  have hpl : ((backTo pos (starEach (e :: es) X.env)).any (·.1) || (backToKw pos (keywordEach [⟨some kw, b, kp⟩] X.env)).any (·.1.isNone)) = false := by
    rw [noStars (X := X) ha.pl pos]
    rfl
  refine ⟨fun pins s σ H Q I q => ?_⟩
  obtain ⟨F, own, ph, ρ, μ, hK, I0, q⟩ := q
  obtain ⟨j, μ1, p, ds, μ2, dd, μ3, e1, e2, e3, e3b, q⟩ : ∃ j μ1 p ds μ2 dd μ3, evE F.S (cl F.S) ii ρ μ = .ok (.int j) μ1 ∧ L2.atI fs j = some p ∧ evEs F.S (cl F.S) ies ρ μ1 = .ok ds μ2 ∧ evE F.S (cl F.S) ib ρ μ2 = .ok dd μ3 ∧
      ((∃ d μ', cl F.S p.2.1 (ds ++ [dd]) μ3 = .ok d μ' ∧ ∀ ph' v H', Stt F own ph' ρ μ' σ H' → Grow ph H ph' H' → Rep F.sa ph' (Av F own (lk (.callLK fs ii ies kw ib))) H' v d → Q v H') ∨ ∃ c μ', cl F.S p.2.1 (ds ++ [dd]) μ3 = .ex c μ' ∧ ∀ ph' H', Stt F own ph' ρ μ' σ H' → W (ca c) none σ H') := by
    have fnI : ∀ {x : D} {p : Str × Nat × Option Int}, fnAt fs x = some p → ∃ j, x = .int j ∧ L2.atI fs j = some p := fun {x p} h => by
      cases x <;> first | exact ⟨_, rfl, h⟩ | cases h
    rcases q with ⟨d, μ', ev, kk⟩ | ⟨c, μ', ev, kk⟩
    · obtain ⟨x, μ1, e1, ev⟩ := bind_ok (show (evE F.S (cl F.S) ii ρ >>= fun j => M.opt (fnAt fs j) >>= fun p => evEs F.S (cl F.S) ies ρ >>= fun ds => evE F.S (cl F.S) ib ρ >>= fun d => cl F.S p.2.1 (ds ++ [d])) μ = .ok d μ' by simpa [evE] using ev)
      obtain ⟨p, μ2, e2, ev2⟩ := bind_ok ev
      obtain ⟨e2', e5⟩ := opt_ok e2
      obtain ⟨ds, μ3, e3, ev3⟩ := bind_ok ev2
      obtain ⟨dd, μ4, e7, ev4⟩ := bind_ok ev3
      obtain ⟨j, e6, e4⟩ := fnI e2'
      subst e5
      subst e6
      exact ⟨j, _, p, ds, μ3, dd, μ4, e1, e4, e3, e7, .inl ⟨d, μ', ev4, kk⟩⟩
    · obtain ⟨x, μ1, e1, ev⟩ := bind_exN (hni _ _) (show (evE F.S (cl F.S) ii ρ >>= fun j => M.opt (fnAt fs j) >>= fun p => evEs F.S (cl F.S) ies ρ >>= fun ds => evE F.S (cl F.S) ib ρ >>= fun d => cl F.S p.2.1 (ds ++ [d])) μ = .ex c μ' by simpa [evE] using ev)
      obtain ⟨p, μ2, e2, ev2⟩ := bind_exN NE.opt ev
      obtain ⟨e2', e5⟩ := opt_ok e2
      obtain ⟨ds, μ3, e3, ev3⟩ := bind_exN (hn _ _) ev2
      obtain ⟨dd, μ4, e7, ev4⟩ := bind_exN (hn2 _ _) ev3
      obtain ⟨j, e6, e4⟩ := fnI e2'
      subst e5
      subst e6
      exact ⟨j, _, p, ds, μ3, dd, μ4, e1, e4, e3, e7, .inr ⟨c, μ', ev4, kk⟩⟩
  obtain ⟨fa, np, kw', e4, hFn, hmg, hq⟩ := hF.atI e2
  obtain ⟨rfl, hsome⟩ := hq kw rfl
  refine Call_kw (thn ((pe_pick hF hl hi).run pins s σ H (fun v H1 => ∃ ph1, v = .ref fa ∧ Stt F own ph1 ρ μ1 σ H1 ∧ Grow ph H ph1 H1) I ⟨F, own, ph, ρ, μ, j, μ1, p, fa, hK, I0, e1, e2, e4, fun ph' H' I' g' => ⟨ph', rfl, I', g'⟩⟩) fun u s1 z => ?_) rfl
  obtain ⟨v, H1, I1, r1, ph1, ev, St1, g1⟩ := z
  subst ev
  cases r1
  obtain ⟨fa', fd, ps, F0, hm, hk, hb1, hb2⟩ := hFn.ex
  rw [hmg] at hm
  cases hm
  obtain ⟨dv, hdv⟩ := Option.isSome_iff_exists.mp hsome
  rw [hdv] at hb2
  obtain ⟨_, n, g, hnp, hbn⟩ := hb2 kw dv rfl
  have hA := (PA.nox ha.pa).run pos pins s1 σ H1 (fun vs H2 => ∃ ph2, Stt F own ph2 ρ μ2 σ H2 ∧ Grow ph1 H1 ph2 H2 ∧ Reps F.sa ph2 (Av F own (lks ies)) H2 vs ds) I1 ⟨F, own, ph1, ρ, μ1, ds, μ2, hK, St1, e3, fun ph2 vs H2 I2 g2 rs => ⟨ph2, I2, g2, rs⟩⟩
  refine PySem.W.callWith_KW (h₀ := X.base) I.ok.mod.kin hk rfl (thn hA fun us s2 z2 => ?_) hpl (plain_star (X := X) hp.1)
  obtain ⟨vs, H2, I2, r, ph2, St2, g2, rs⟩ := z2
  have hB := (pk_cons (nm := some kw) (kpos := kp) (PE.nox hb.pe) pk_nil).run pos pins s2 σ H2 (fun zs H3 => ∃ ph3 vx, zs = [vx] ∧ Stt F own ph3 ρ μ3 σ H3 ∧ Grow ph2 H2 ph3 H3 ∧ Rep F.sa ph3 (Av F own (lk ib)) H3 vx dd) I2 (one hK St2 e3b fun ph3 vx H3 I3 g3 rx => ⟨ph3, vx, rfl, I3, g3, rx⟩)
  refine thn hB fun ws s3 z3 => ?_
  obtain ⟨zs, H3, I3, rz, ph3, vx, rfl, St3, g3, rx⟩ := z3
  refine ⟨I3.kIn, ?_⟩
  have hbad : cl F.S p.2.1 (ds ++ [dd]) μ3 ≠ .bad := by
    rcases q with ⟨d, μ', ev, _⟩ | ⟨c, μ', ev, _⟩ <;> (rw [ev]; exact fun z => by cases z)
  have hlen := hFn.len _ _ _ hbad
  rw [List.length_append, hnp] at hlen
  have hlen : ds.length + 1 = n + 1 := hlen
  have l1 : vs.length = n := by rw [rs.length]; omega
  have rr : Reps F.sa ph3 (Av F own (lks ies ++ lk ib)) H3 (vs ++ [vx]) (ds ++ [dd]) := ((g3.reps St2.mu rs).weaken lkA).append (.cons (rx.weaken lkB) .nil)
  have q2 : spX X.K cl ca p.2.1 np (vs ++ [vx]) H3 Q (WE W σ) := by
    refine ⟨by rw [rr.length]; exact hFn.len _ _ _ hbad, F.S, F.sa, ph3, μ3, Av F own (lks ies ++ lk ib), _, rr, St3.mu, hK ▸ St3.scr, fun a h => St3.dom h, fun a h => St3.avphi h, ?_⟩
    rcases q with ⟨d, μ', ev, kk⟩ | ⟨c, μ', ev, kk⟩
    · exact .inl ⟨d, μ', ev, fun ph' v H' g M r => kk ph' v H' (St3.grow g M) (((g1.trans g2).trans g3).trans g) r⟩
    · exact .inr ⟨c, μ', ev, fun ph' H' g M => kk ph' H' (St3.grow g M)⟩
  refine wpAny_call (codeAny_mono (F0.run X.A X.stack s3 H3 ⟨us, [kw].zip ws⟩ (g us ws) (vs ++ [vx]) Q (WE W σ) hr I3.env0 (hbn.to s3 us ws I3.kIn (r.length.symm.trans l1) (rz.length.symm.trans rfl)) (hbn.rel r rz) q2) fun rr s' hq => ?_)
  cases rr with
  | error er => exact passAt tk σ pins H3 s3 er s' I3 hq
  | ok fl =>
    cases fl with
    | ret u => exact I3.after hq
    | _ => exact False.elim hq
end
end Ev

set_option Elab.async false
set_option linter.all false
set_option maxRecDepth 100000
set_option maxHeartbeats 4000000
namespace Ev
open PySem L2 PyProof.Rows
/-! ### a local name for a list of defs, and at once the call out of it -/
theorem Stt.unset {F : Fx} {own : Nat → Option Addr} {ph : List Addr} {ρ : Env} {μ : Mu} {σ : L2.St} {H : Hp} (I : Stt F own ph ρ μ σ H) (i : Nat) (v : V) : Stt F own ph (ρ.set i none) μ (σ.set i (some v)) H :=
  { I with
    slots := fun j b d e => by
      rw [List.getElem?_set] at e
      by_cases h : i = j
      · rw [if_pos h] at e
        split at e <;> cases e
      · rw [if_neg h] at e
        obtain ⟨u, e1, e2⟩ := I.slots j b d e
        exact ⟨u, by rw [List.getElem?_set, if_neg h]; exact e1, e2⟩
    lenE := by rw [List.length_set, List.length_set]; exact I.lenE }
section
variable {X : Cx} {cl : Calls} {ca : Nat → Value} {W : WX} {k : Nat} {kq : Option Str} {ns : List Expr} {fs : List (Str × Nat × Option Int)} {as : List Addr}
variable {c e b : Expr} {es : List Expr} {ii ib : IE} {ies : IEs} {lp sp pos kp py py2 pos1 pos2 : Pos} {kw y : Str} {i : Nat}
/-- the slot holds the defs -/
def preD (i : Nat) (as : List Addr) : L2.St → Hp → List Addr → Prop := fun σ H ph => ∃ q, σ[i]? = some (some (.ref q)) ∧ H q = some (.lst (as.map V.ref)) ∧ q ∉ ph
theorem pe_pickV (hF : SFs X cl ca k kq ns fs as) (hN : X.N[i]? = some y) (hv : Vis X.env.scope y) (hd : (y == ("__debug__" : Str)) = false) (hcd : (y == ("__classdict__" : Str)) = false) (hi : SE X.nox cl c ii) :
    PE X (.Subscript (.Name y py) c sp) (fun σ H Q => ∃ F own ph ρ μ j μ1 p fa, F.K = X.K ∧ Stt F own ph ρ μ σ H ∧ preD i as σ H ph ∧ evE F.S (cl F.S) ii ρ μ = .ok (.int j) μ1 ∧ L2.atI fs j = some p ∧ L2.atI (as.map V.ref) j = some (.ref fa) ∧
    ∀ ph' H', Stt F own ph' ρ μ1 σ H' → Grow ph H ph' H' → Q (.ref fa) H') := by
  refine (pe_ix ix_list (pe_var hN hv hd hcd) (PE.nox hi.pe) (plain_ix hi.pl)).imp fun σ H Q q => ?_
  obtain ⟨F, own, ph, ρ, μ, j, μ1, p, fa, hK, I, ⟨q, h1, h2, h3⟩, e1, e2, e3, kk⟩ := q
  refine ⟨.ref q, h1, one hK I e1 fun ph2 vx H2 I2 g2 rx => ?_⟩
  cases rx
  exact ⟨q, as.map V.ref, j, .ref fa, rfl, rfl, SqL.of (g2.keep q _ h2 h3), e3, kk ph2 H2 I2 g2⟩
theorem xe_callG {gx : Expr} (hcl : ∀ (args : List Expr) (pos : Pos) (env : PySem.Env), eval (.Call gx args [] pos) env = (do callWith pos (← eval gx env) [] (backTo pos (starEach args env)) (backToKw pos (keywordEach [] env)))) {pre : L2.St → Hp → List Addr → Prop} (hF : SFs X cl ca k kq ns fs as)
    (hpick : PE X gx (fun σ H Q => ∃ F own ph ρ μ j μ1 p fa, F.K = X.K ∧ Stt F own ph ρ μ σ H ∧ pre σ H ph ∧ evE F.S (cl F.S) ii ρ μ = .ok (.int j) μ1 ∧ L2.atI fs j = some p ∧ L2.atI (as.map V.ref) j = some (.ref fa) ∧
      ∀ ph' H', Stt F own ph' ρ μ1 σ H' → Grow ph H ph' H' → Q (.ref fa) H'))
    (hr : Room k X.A) (tk : Takes X W) (hni : ∀ S ρ, NE (evE S (cl S) ii ρ)) (ha : SA X.nox cl (e :: es) ies) (hn : ∀ S ρ, NE (evEs S (cl S) ies ρ)) :
    PE X (.Call gx (e :: es) [] pos) (fun σ H Q => ∃ F own ph ρ μ, F.K = X.K ∧ Stt F own ph ρ μ σ H ∧ pre σ H ph ∧
      ((∃ d μ', evE F.S (cl F.S) (.callL fs ii ies) ρ μ = .ok d μ' ∧ ∀ ph' v H', Stt F own ph' ρ μ' σ H' → Grow ph H ph' H' → Rep F.sa ph' (Av F own (lk (.callL fs ii ies))) H' v d → Q v H') ∨
        ∃ c μ', evE F.S (cl F.S) (.callL fs ii ies) ρ μ = .ex c μ' ∧ ∀ ph' H', Stt F own ph' ρ μ' σ H' → W (ca c) none σ H')) := by
  have hp := ha.pl
  rw [List.all_cons, Bool.and_eq_true] at hp
  refine ⟨fun pins s σ H Q I q => ?_⟩
  obtain ⟨F, own, ph, ρ, μ, hK, I0, hpre, q⟩ := q
  obtain ⟨j, μ1, p, ds, μ2, e1, e2, e3, q⟩ : ∃ j μ1 p ds μ2, evE F.S (cl F.S) ii ρ μ = .ok (.int j) μ1 ∧ L2.atI fs j = some p ∧ evEs F.S (cl F.S) ies ρ μ1 = .ok ds μ2 ∧
      ((∃ d μ', cl F.S p.2.1 (ds ++ dfl p.2.2) μ2 = .ok d μ' ∧ ∀ ph' v H', Stt F own ph' ρ μ' σ H' → Grow ph H ph' H' → Rep F.sa ph' (Av F own (lk (.callL fs ii ies))) H' v d → Q v H') ∨ ∃ c μ', cl F.S p.2.1 (ds ++ dfl p.2.2) μ2 = .ex c μ' ∧ ∀ ph' H', Stt F own ph' ρ μ' σ H' → W (ca c) none σ H') := by
    have fnI : ∀ {x : D} {p : Str × Nat × Option Int}, fnAt fs x = some p → ∃ j, x = .int j ∧ L2.atI fs j = some p := fun {x p} h => by
      cases x <;> first | exact ⟨_, rfl, h⟩ | cases h
    rcases q with ⟨d, μ', ev, kk⟩ | ⟨c, μ', ev, kk⟩
    · obtain ⟨x, μ1, e1, ev⟩ := bind_ok (show (evE F.S (cl F.S) ii ρ >>= fun j => M.opt (fnAt fs j) >>= fun p => evEs F.S (cl F.S) ies ρ >>= fun ds => cl F.S p.2.1 (ds ++ dfl p.2.2)) μ = .ok d μ' by simpa [evE] using ev)
      obtain ⟨p, μ2, e2, ev2⟩ := bind_ok ev
      obtain ⟨e2', e5⟩ := opt_ok e2
      obtain ⟨ds, μ3, e3, ev3⟩ := bind_ok ev2
      obtain ⟨j, e6, e4⟩ := fnI e2'
      subst e5
      subst e6
      exact ⟨j, _, p, ds, μ3, e1, e4, e3, .inl ⟨d, μ', ev3, kk⟩⟩
    · obtain ⟨x, μ1, e1, ev⟩ := bind_exN (hni _ _) (show (evE F.S (cl F.S) ii ρ >>= fun j => M.opt (fnAt fs j) >>= fun p => evEs F.S (cl F.S) ies ρ >>= fun ds => cl F.S p.2.1 (ds ++ dfl p.2.2)) μ = .ex c μ' by simpa [evE] using ev)
      obtain ⟨p, μ2, e2, ev2⟩ := bind_exN NE.opt ev
      obtain ⟨e2', e5⟩ := opt_ok e2
      obtain ⟨ds, μ3, e3, ev3⟩ := bind_exN (hn _ _) ev2
      obtain ⟨j, e6, e4⟩ := fnI e2'
      subst e5
      subst e6
      exact ⟨j, _, p, ds, μ3, e1, e4, e3, .inr ⟨c, μ', ev3, kk⟩⟩
  obtain ⟨fa, np, kw, e4, hFn, hmg, _⟩ := hF.atI e2
  refine Call_ (thn (hpick.run pins s σ H (fun v H1 => ∃ ph1, v = .ref fa ∧ Stt F own ph1 ρ μ1 σ H1 ∧ Grow ph H ph1 H1) I ⟨F, own, ph, ρ, μ, j, μ1, p, fa, hK, I0, hpre, e1, e2, e4, fun ph' H' I' g' => ⟨ph', rfl, I', g'⟩⟩) fun u s1 z => ?_) (hcl _ _ _)
  obtain ⟨v, H1, I1, r1, ph1, ev, St1, g1⟩ := z
  subst ev
  cases r1
  obtain ⟨fa', fd, ps, F0, hm, hk, hb, hb2⟩ := hFn.ex
  rw [hmg] at hm
  cases hm
  have hA := (PA.nox ha.pa).run pos pins s1 σ H1 (fun vs H2 => ∃ ph2, Stt F own ph2 ρ μ2 σ H2 ∧ Grow ph1 H1 ph2 H2 ∧ Reps F.sa ph2 (Av F own (lks ies)) H2 vs ds) I1 ⟨F, own, ph1, ρ, μ1, ds, μ2, hK, St1, e3, fun ph2 vs H2 I2 g2 rs => ⟨ph2, I2, g2, rs⟩⟩
  refine PySem.W.callWith_K (h₀ := X.base) I.ok.mod.kin hk (thn hA fun us s2 z2 => ?_) (plain_star (X := X) hp.1) (noStars (X := X) hp.2 pos)
  obtain ⟨vs, H2, I2, r, ph2, St2, g2, rs⟩ := z2
  refine ⟨I2.kIn, ?_⟩
  have build : ∀ {vs' : List V}, Reps F.sa ph2 (Av F own (lks ies)) H2 vs' (ds ++ dfl p.2.2) → spX X.K cl ca p.2.1 np vs' H2 Q (WE W σ) := fun {vs'} rr => by
    have hbad : cl F.S p.2.1 (ds ++ dfl p.2.2) μ2 ≠ .bad := by
      rcases q with ⟨d, μ', ev, _⟩ | ⟨c, μ', ev, _⟩ <;> (rw [ev]; exact fun z => by cases z)
    refine ⟨by rw [rr.length]; exact hFn.len _ _ _ hbad, F.S, F.sa, ph2, μ2, Av F own (lks ies), _, rr, St2.mu, hK ▸ St2.scr, fun a h => St2.dom h, fun a h => St2.avphi h, ?_⟩
    rcases q with ⟨d, μ', ev, kk⟩ | ⟨c, μ', ev, kk⟩
    · exact .inl ⟨d, μ', ev, fun ph' v H' g M r => kk ph' v H' (St2.grow g M) ((g1.trans g2).trans g) r⟩
    · exact .inr ⟨c, μ', ev, fun ph' H' g M => kk ph' H' (St2.grow g M)⟩
  cases hdk : p.2.2 with
  | none =>
    rw [hdk] at hb build
    have rr := build (vs' := vs) (by show Reps F.sa ph2 (Av F own (lks ies)) H2 vs (ds ++ []); rw [List.append_nil]; exact rs)
    exact run_fnS F0 hr (hb rfl) (passAt tk σ) I2 r rr
  | some dv =>
    rw [hdk] at hb2 build
    obtain ⟨⟨dvs, hv, hb⟩, _⟩ := hb2 kw dv rfl
    exact run_fnSD F0 hr hb hv (passAt tk σ) I2 r (build (rs.append (.cons (.int dv) .nil)))
theorem xss_two (hF : SFs X cl ca k kq ns fs as) (hlen : ns.length ≤ 1000) (hr : Room k X.A) (tk : Takes X W) (hi : SE X.nox cl c ii) (hni : ∀ S ρ, NE (evE S (cl S) ii ρ)) (ha : SA X.nox cl (e :: es) ies) (hn : ∀ S ρ, NE (evEs S (cl S) ies ρ))
    (hnd : X.N.Nodup) (hN : X.N[i]? = some y) (hl : Loc X.env.scope y) (hf : X.fn y = true ∨ X.env.scope.names.lookup y = some .local) (hv : Vis X.env.scope y) (hd : (y == ("__debug__" : Str)) = false) (hcd : (y == ("__classdict__" : Str)) = false) :
    PSs X [.Assign [.Name y py] (.List ns lp) pos1, .Return (some (.Call (.Subscript (.Name y py2) c sp) (e :: es) [] pos)) pos2] (tSsX X.K cl ca W (.cons (.opq i) (.cons (.ret (.callL fs ii ies)) .nil))) := by
  refine (pss_cons (ps_set hnd hN hl (pe_lst hF.pa) rfl hf) (pss_cons (ps_ret (xe_callG (fun _ _ _ => rfl) hF (pe_pickV hF hN hv hd hcd hi) hr tk hni ha hn)) pss_nil)).imp fun E σ H q => ?_
  obtain ⟨F, own, ph, ρ, μ, hK, I, q⟩ := q
  have hz : (as.map V.ref).length ≤ sizeLine := by
    have h1 : ns.length = fs.length := by
      clear q
      clear hlen
      induction hF with
      | nil => rfl
      | cons _ _ _ _ _ _ ih => simp [ih]
    rw [List.length_map, hF.len, ← h1]
    exact Nat.le_trans hlen (Nat.le_trans (by decide) million)
  refine ⟨hz, fun q0 hq => ?_⟩
  obtain ⟨hlt, q⟩ : i < σ.length ∧ ((∃ d μ', evE F.S (cl F.S) (.callL fs ii ies) (ρ.set i none) μ = .ok d μ' ∧ EndR F E μ' (ρ.set i none) (.ret d)) ∨
      ∃ c μ', evE F.S (cl F.S) (.callL fs ii ies) (ρ.set i none) μ = .ex c μ' ∧ ∀ own' ph' ρ' σ' H', Stt F own' ph' ρ' μ' σ' H' → W (ca c) none σ' H') := by
    rw [← I.lenE]
    by_cases h : i < ρ.length
    · refine ⟨h, ?_⟩
      have eq : evSs F.S (cl F.S) (.cons (.opq i) (.cons (.ret (.callL fs ii ies)) .nil)) ρ μ = ((evE F.S (cl F.S) (.callL fs ii ies) (ρ.set i none) >>= fun d => (pure (.ret d, ρ.set i none) : M (Fl × Env))) >>= fun p => match p.1 with | .next => (pure (.next, p.2) : M (Fl × Env)) | .cont => pure p | .ret _ => pure p) μ := by
        simp only [evSs, evS, if_pos h]
        rfl
      rcases q with ⟨fl, ρ', μ', ev, kk⟩ | ⟨c, μ', ev, kk⟩
      · rw [eq] at ev
        obtain ⟨p, μ1, e1, ev⟩ := bind_ok ev
        obtain ⟨d, μ2, e2, e3⟩ := bind_ok e1
        obtain ⟨h1, h2⟩ := pure_ok e3
        subst h1 h2
        obtain ⟨h1, h2⟩ := pure_ok ev
        cases h1
        subst h2
        exact .inl ⟨d, _, e2, kk⟩
      · rw [eq] at ev
        rcases bind_ex ev with e1 | ⟨p, μ1, e1, ev⟩
        · rcases bind_ex e1 with e2 | ⟨d, μ2, e2, e3⟩
          · exact .inr ⟨c, μ', e2, kk⟩
          · cases e3
        · obtain ⟨d, μ2, e2, e3⟩ := bind_ok e1
          obtain ⟨h1, h2⟩ := pure_ok e3
          subst h1 h2
          cases ev
    · exfalso
      have eq : evSs F.S (cl F.S) (.cons (.opq i) (.cons (.ret (.callL fs ii ies)) .nil)) ρ μ = .bad := by
        simp only [evSs, evS, if_neg h]
        rfl
      rcases q with ⟨fl, ρ', μ', ev, kk⟩ | ⟨c, μ', ev, kk⟩ <;> (rw [eq] at ev; cases ev)
  have I1 : Stt F own ph (ρ.set i none) μ (σ.set i (some (.ref q0))) (upd H q0 (.lst (as.map V.ref))) := (I.laid hq).unset i _
  refine ⟨F, own, ph, ρ.set i none, μ, hK, I1, ⟨q0, by rw [List.getElem?_set, if_pos rfl, if_pos hlt], upd_same, I.notPhi hq⟩, ?_⟩
  rcases q with ⟨d, μ', e1, kk⟩ | ⟨c, μ', e1, kk⟩
  · exact .inl ⟨d, _, e1, fun ph' v H' I' g r => kk own ph' _ H' v I' (r.weaken fun a z => .inl z)⟩
  · exact .inr ⟨c, μ', e1, fun ph' H' I' => kk own ph' _ _ H' I'⟩
end
end Ev

set_option Elab.async false
set_option linter.all false
set_option maxRecDepth 100000
set_option maxHeartbeats 4000000
namespace Ev
open PySem L2 PyProof.Rows
/-! ### instances made, methods called, where something may be raised -/
structure HasMakeX (X : Cx) (cl : Calls) (ca : Nat → Value) (k : Nat) (f np : Nat) : Prop where
  ex : ∃ fi fd ps, Mk X.K (tabC X.K) fi ∧ FnOk X.prog X.w X.K X.mg X.base (L2.CX X.prog X.w) k fi fd ps (spX X.K cl ca f np) ∧ Binds X.K fd ps []
  len : ∀ S ds μ, cl S f ds μ ≠ .bad → ds.length = np
structure HasMethX (X : Cx) (cl : Calls) (ca : Nat → Value) (k : Nat) (m : Str) (f np : Nat) (dk : Option (Str × Int)) : Prop where
  ex : ∃ fa fd ps, FnOk X.prog X.w X.K X.mg X.base (L2.CX X.prog X.w) k fa fd ps (spX X.K cl ca f np) ∧ Meth X.K (tabC X.K) m fa ∧ (dk = none → Binds X.K fd ps []) ∧
    ∀ kw d, dk = some (kw, d) → (∃ ds, Vals [V.int d] ds ∧ Binds X.K fd ps ds) ∧ ∃ n g, np = n + 1 ∧ KBn X.K fd ps n [kw] g (fun vs zs => vs ++ zs)
  len : ∀ S ds μ, cl S f ds μ ≠ .bad → ds.length = np
section
variable {X : Cx} {cl : Calls} {ca : Nat → Value} {W : WX} {k f np i : Nat} {x m kw : Str} {p px apos pos kp : Pos} {e b : Expr} {es : List Expr} {ies : IEs} {ib : IE} {dv : Int}
theorem xe_make (T : TabK X) (hF : HasMakeX X cl ca k f np) (hr : Room (k + 1) X.A) (hg : Gl X "Table") (tk : Takes X W) (ha : SA X.nox cl (e :: es) ies) (hn : ∀ S ρ, NE (evEs S (cl S) ies ρ)) :
    PE X (.Call (.Name "Table" p) (e :: es) [] pos) (tEX X.K cl ca W (.make f ies)) := by
  obtain ⟨fi, fd, ps, M0, F0, hb⟩ := hF.ex
  refine (pe_mk (E := WE W) M0 F0 hr hg T.mg hb (fun σ => passAt tk σ) (PA.nox ha.pa) (by decide) ha.pl).imp fun σ H Q q => ?_
  obtain ⟨F, own, ph, ρ, μ, hK, I, q⟩ := q
  obtain ⟨ds, μ1, e1, q⟩ : ∃ ds μ1, evEs F.S (cl F.S) ies ρ μ = .ok ds μ1 ∧ ((∃ μ3, cl F.S f (.mref μ1.length :: ds) (μ1 ++ [.ins []]) = .ok .non μ3 ∧ ∀ ph' v H', Stt F own ph' ρ μ3 σ H' → Grow ph H ph' H' → Rep F.sa ph' (Av F own (lk (.make f ies))) H' v (.mref μ1.length) → Q v H') ∨
      ∃ c μ3, cl F.S f (.mref μ1.length :: ds) (μ1 ++ [.ins []]) = .ex c μ3 ∧ ∀ ph' H', Stt F own ph' ρ μ3 σ H' → W (ca c) none σ H') := by
    rcases q with ⟨d, μ', ev, kk⟩ | ⟨c, μ', ev, kk⟩
    · obtain ⟨ds, μ1, e1, ev⟩ := bind_ok (show (evEs F.S (cl F.S) ies ρ >>= fun ds => newM (.ins []) >>= fun o => cl F.S f (o :: ds) >>= fun r => noneTo r o) μ = .ok d μ' by simpa [evE] using ev)
      obtain ⟨o, μ2, e2, ev2⟩ := bind_ok ev
      have e2 : R.ok (D.mref μ1.length) (μ1 ++ [.ins []]) = R.ok o μ2 := e2
      cases e2
      obtain ⟨r, μ3, e3, ev3⟩ := bind_ok ev2
      obtain ⟨h1, h2, h3⟩ := noneTo_ok ev3
      subst h1 h2 h3
      exact ⟨ds, μ1, e1, .inl ⟨_, e3, kk⟩⟩
    · obtain ⟨ds, μ1, e1, ev⟩ := bind_exN (hn _ _) (show (evEs F.S (cl F.S) ies ρ >>= fun ds => newM (.ins []) >>= fun o => cl F.S f (o :: ds) >>= fun r => noneTo r o) μ = .ex c μ' by simpa [evE] using ev)
      obtain ⟨o, μ2, e2, ev2⟩ := bind_exN NE.newM ev
      have e2 : R.ok (D.mref μ1.length) (μ1 ++ [.ins []]) = R.ok o μ2 := e2
      cases e2
      rcases bind_ex ev2 with e3 | ⟨r, μ3, e3, e4⟩
      · exact ⟨ds, μ1, e1, .inr ⟨c, μ', e3, kk⟩⟩
      · exact absurd e4 (NE.noneTo _ _ _)
  refine ⟨F, own, ph, ρ, μ, ds, μ1, hK, I, e1, fun ph1 vs H1 I1 g1 rs xa dx h1 h2 h3 => ?_⟩
  obtain ⟨I2, g2, hi⟩ := I1.made hK h1 h2 h3
  refine ⟨?_, F.S, F.sa, _, _, Av F own (lks ies), .mref μ1.length :: ds, .cons (.mref hi) (g2.reps I1.mu rs), I2.mu, hK ▸ I2.scr, fun a h => I2.dom h, fun a h => I2.avphi h, ?_⟩
  · rw [List.length_cons, rs.length]
    have := hF.len F.S (.mref μ1.length :: ds) (μ1 ++ [.ins []]) (by rcases q with ⟨μ3, e3, _⟩ | ⟨c, μ3, e3, _⟩ <;> (rw [e3]; exact fun z => by cases z))
    rw [List.length_cons] at this
    exact this
  · rcases q with ⟨μ3, e3, kk⟩ | ⟨c, μ3, e3, kk⟩
    · refine .inl ⟨.non, μ3, e3, fun ph' v H' g M r => ?_⟩
      cases r
      exact ⟨rfl, kk ph' _ H' (I2.grow g M) ((g1.trans g2).trans g) (.mref (g.idx hi))⟩
    · exact .inr ⟨c, μ3, e3, fun ph' H' g M => kk ph' H' (I2.grow g M)⟩
theorem xe_meth (T : TabK X) (hF : HasMethX X cl ca k m f np none) (hr : Room k X.A) (hN : X.N[i]? = some x) (hv : Vis X.env.scope x) (hd : (x == ("__debug__" : Str)) = false) (hcd : (x == ("__classdict__" : Str)) = false) (tk : Takes X W) (ha : SA X.nox cl es ies) (hn : ∀ S ρ, NE (evEs S (cl S) ies ρ)) (hl : es.length < 20) (hline : (apos.endLine == pos.line) = true) :
    PE X (.Call (.Attribute (.Name x px) m apos) es [] pos) (tEX X.K cl ca W (.meth f m i ies)) := by
  obtain ⟨fa, fd, ps, F0, hm, hb, _⟩ := hF.ex
  have hb := hb rfl
  have main : ∀ {σ : L2.St} {H : Hp} {Q : VK}, tEX X.K cl ca W (.meth f m i ies) σ H Q → tMt (tabC X.K) m (spX X.K cl ca f np) [] (WE W) (tE X.K cl (.var i)) (tEs X.K cl ies) σ H Q := fun {σ H Q} q => by
    obtain ⟨F, own, ph, ρ, μ, hK, I, q⟩ := q
    obtain ⟨n, fs, ds, μ3, e1, h2, h3, e3, q⟩ : ∃ n fs ds μ3, look ρ i = some (.mref n) ∧ μ[n]? = some (.ins fs) ∧ fs.lookup m = none ∧ evEs F.S (cl F.S) ies ρ μ = .ok ds μ3 ∧
        ((∃ d μ', cl F.S f (.mref n :: ds) μ3 = .ok d μ' ∧ ∀ ph' v H', Stt F own ph' ρ μ' σ H' → Grow ph H ph' H' → Rep F.sa ph' (Av F own (lks ies)) H' v d → Q v H') ∨ ∃ c μ', cl F.S f (.mref n :: ds) μ3 = .ex c μ' ∧ ∀ ph' H', Stt F own ph' ρ μ' σ H' → W (ca c) none σ H') := by
      rcases q with ⟨d, μ', ev, kk⟩ | ⟨c, μ', ev, kk⟩
      · obtain ⟨o, μ1, e1, ev1⟩ := bind_ok (show (M.opt (look ρ i) >>= fun o => noFld o m >>= fun _ => evEs F.S (cl F.S) ies ρ >>= fun ds => cl F.S f (o :: ds)) μ = .ok d μ' by simpa [evE] using ev)
        obtain ⟨e1', e1''⟩ := opt_ok e1
        subst e1''
        obtain ⟨u, μ2, e2, ev2⟩ := bind_ok ev1
        obtain ⟨n, fs, h1, h2, h3, h4⟩ := noFld_ok e2
        clear ev1 e2 ev e1
        subst h1 h4
        obtain ⟨ds, μ3, e3, ev⟩ := bind_ok ev2
        exact ⟨n, fs, ds, μ3, e1', h2, h3, e3, .inl ⟨d, μ', ev, kk⟩⟩
      · obtain ⟨o, μ1, e1, ev1⟩ := bind_exN NE.opt (show (M.opt (look ρ i) >>= fun o => noFld o m >>= fun _ => evEs F.S (cl F.S) ies ρ >>= fun ds => cl F.S f (o :: ds)) μ = .ex c μ' by simpa [evE] using ev)
        obtain ⟨e1', e1''⟩ := opt_ok e1
        subst e1''
        obtain ⟨u, μ2, e2, ev2⟩ := bind_exN NE.noFld ev1
        obtain ⟨n, fs, h1, h2, h3, h4⟩ := noFld_ok e2
        clear ev1 e2 ev e1
        subst h1 h4
        obtain ⟨ds, μ3, e3, ev⟩ := bind_exN (hn _ _) ev2
        exact ⟨n, fs, ds, μ3, e1', h2, h3, e3, .inr ⟨c, μ', ev, kk⟩⟩
    refine one hK I (x := .mref n) (μ1 := μ) (by unfold evE; rw [e1]; rfl) fun ph2 vx H2 I2 g2 rx => ?_
    obtain ⟨a, dx, gs, q1, q2, q3, q4, q5⟩ := I2.insAt rx h2
    refine ⟨a, dx, gs, q1, I2.tc hK ▸ q3, fs_none q4 h3, F, own, ph2, ρ, μ, ds, μ3, hK, I2, e3, fun ph3 vs H3 I3 g3 rs => ?_⟩
    have rx3 : Rep F.sa ph3 (Av F own (lks ies)) H3 vx (.mref n) := by rw [q1]; exact .mref (g3.idx q2)
    refine ⟨?_, F.S, F.sa, ph3, μ3, Av F own (lks ies), .mref n :: ds, ?_, I3.mu, hK ▸ I3.scr, fun a h => I3.dom h, fun a h => I3.avphi h, ?_⟩
    · rw [List.append_nil, List.length_cons, rs.length]
      have := hF.len F.S (.mref n :: ds) μ3 (by rcases q with ⟨d, μ', e, _⟩ | ⟨c, μ', e, _⟩ <;> (rw [e]; exact fun z => by cases z))
      rw [List.length_cons] at this
      exact this
    · rw [List.append_nil]; exact .cons rx3 rs
    · rcases q with ⟨d, μ', ev, kk⟩ | ⟨c, μ', ev, kk⟩
      · exact .inl ⟨d, μ', ev, fun ph' v H' g M r => kk ph' v H' (I3.grow g M) ((g2.trans g3).trans g) r⟩
      · exact .inr ⟨c, μ', ev, fun ph' H' g M => kk ph' H' (I3.grow g M)⟩
  cases es with
  | nil =>
    refine (pe_mt0 (E := WE W) (s_var (cl := cl) (pos := px) hN hv hd hcd).pe T.cls hm F0 hr hb .nil (fun σ => passAt tk σ) hline).imp fun σ H Q q => ?_
    cases ies with
    | nil =>
      obtain ⟨F, own, ph, ρ, μ, d, μ', hK, I, ev, kk⟩ := main q
      refine ⟨F, own, ph, ρ, μ, d, μ', hK, I, ev, fun ph' v H' I' g V0 => ?_⟩
      obtain ⟨a, dx, fs, q1, q2, q3, F1, own1, ph1, ρ1, μ1, ds, μ2, hK1, I1, e1, kk1⟩ := kk ph' v H' I' g V0
      obtain ⟨rfl, rfl⟩ := pure_ok (show (pure [] : M (List D)) μ1 = .ok ds μ2 by simpa [evEs] using e1)
      exact ⟨a, dx, fs, q1, q2, q3, kk1 ph1 [] H' I1 (Grow.refl _ _) .nil⟩
    | cons ie r =>
      have := ha.ln
      cases this
  | cons e es => exact (pe_mt (E := WE W) (s_var (cl := cl) (pos := px) hN hv hd hcd).pe T.cls hm F0 hr hb .nil (fun σ => passAt tk σ) (PA.nox ha.pa) ha.pl hl hline).imp fun σ H Q q => main q
theorem xe_methK (T : TabK X) (hF : HasMethX X cl ca k m f np (some (kw, dv))) (hr : Room k X.A) (hN : X.N[i]? = some x) (hv : Vis X.env.scope x) (hd : (x == ("__debug__" : Str)) = false) (hcd : (x == ("__classdict__" : Str)) = false) (tk : Takes X W) (ha : SA X.nox cl (e :: es) ies) (hb : SE X.nox cl b ib)
    (hn : ∀ S ρ, NE (evEs S (cl S) ies ρ)) (hn2 : ∀ S ρ, NE (evE S (cl S) ib ρ)) (hl : (e :: es).length < 20) (hline : (apos.endLine == pos.line) = true) :
    PE X (.Call (.Attribute (.Name x px) m apos) (e :: es) [⟨some kw, b, kp⟩] pos) (tEX X.K cl ca W (.methK f m i ies kw ib)) := by
  obtain ⟨fa, fd, ps, F0, hm, _, hbn⟩ := hF.ex
  obtain ⟨_, nn, g, hnp, hbn⟩ := hbn kw dv rfl
  have hpl : ((backTo pos (starEach (e :: es) X.env)).any (·.1) || (backToKw pos (keywordEach [⟨some kw, b, kp⟩] X.env)).any (·.1.isNone)) = false := by
    rw [noStars (X := X) ha.pl pos]
    rfl
  refine (pe_mtK (E := WE W) (s_var (cl := cl) (pos := px) hN hv hd hcd).pe T.cls hm F0 hr hbn (fun σ => passAt tk σ) (PA.nox ha.pa) (pk_cons (PE.nox hb.pe) pk_nil) rfl rfl ha.pl hpl (mformK ha.pl hl) hline).imp fun σ H Q q => ?_
  obtain ⟨F, own, ph, ρ, μ, hK, I, q⟩ := q
  obtain ⟨n, fs, ds, μ3, dd, μ4, e1, h2, h3, e3, e4, q⟩ : ∃ n fs ds μ3 dd μ4, look ρ i = some (.mref n) ∧ μ[n]? = some (.ins fs) ∧ fs.lookup m = none ∧ evEs F.S (cl F.S) ies ρ μ = .ok ds μ3 ∧ evE F.S (cl F.S) ib ρ μ3 = .ok dd μ4 ∧
      ((∃ d μ', cl F.S f (.mref n :: (ds ++ [dd])) μ4 = .ok d μ' ∧ ∀ ph' v H', Stt F own ph' ρ μ' σ H' → Grow ph H ph' H' → Rep F.sa ph' (Av F own (lks ies ++ lk ib)) H' v d → Q v H') ∨ ∃ c μ', cl F.S f (.mref n :: (ds ++ [dd])) μ4 = .ex c μ' ∧ ∀ ph' H', Stt F own ph' ρ μ' σ H' → W (ca c) none σ H') := by
    rcases q with ⟨d, μ', ev, kk⟩ | ⟨c, μ', ev, kk⟩
    · obtain ⟨o, μ1, e1, ev1⟩ := bind_ok (show (M.opt (look ρ i) >>= fun o => noFld o m >>= fun _ => evEs F.S (cl F.S) ies ρ >>= fun ds => evE F.S (cl F.S) ib ρ >>= fun d => cl F.S f (o :: (ds ++ [d]))) μ = .ok d μ' by simpa [evE] using ev)
      obtain ⟨e1', e1''⟩ := opt_ok e1
      subst e1''
      obtain ⟨u, μ2, e2, ev2⟩ := bind_ok ev1
      obtain ⟨n, fs, h1, h2, h3, h4⟩ := noFld_ok e2
      clear ev1 e2 ev e1
      subst h1 h4
      obtain ⟨ds, μ3, e3, ev3⟩ := bind_ok ev2
      obtain ⟨dd, μ4, e4, ev⟩ := bind_ok ev3
      exact ⟨n, fs, ds, μ3, dd, μ4, e1', h2, h3, e3, e4, .inl ⟨d, μ', ev, kk⟩⟩
    · obtain ⟨o, μ1, e1, ev1⟩ := bind_exN NE.opt (show (M.opt (look ρ i) >>= fun o => noFld o m >>= fun _ => evEs F.S (cl F.S) ies ρ >>= fun ds => evE F.S (cl F.S) ib ρ >>= fun d => cl F.S f (o :: (ds ++ [d]))) μ = .ex c μ' by simpa [evE] using ev)
      obtain ⟨e1', e1''⟩ := opt_ok e1
      subst e1''
      obtain ⟨u, μ2, e2, ev2⟩ := bind_exN NE.noFld ev1
      obtain ⟨n, fs, h1, h2, h3, h4⟩ := noFld_ok e2
      clear ev1 e2 ev e1
      subst h1 h4
      obtain ⟨ds, μ3, e3, ev3⟩ := bind_exN (hn _ _) ev2
      obtain ⟨dd, μ4, e4, ev⟩ := bind_exN (hn2 _ _) ev3
      exact ⟨n, fs, ds, μ3, dd, μ4, e1', h2, h3, e3, e4, .inr ⟨c, μ', ev, kk⟩⟩
  have hl := hF.len F.S (.mref n :: (ds ++ [dd])) μ4 (by rcases q with ⟨d, μ', e, _⟩ | ⟨c, μ', e, _⟩ <;> (rw [e]; exact fun z => by cases z))
  rw [List.length_cons, List.length_append, hnp] at hl
  have hl : ds.length + 1 + 1 = nn + 1 := hl
  refine one hK I (x := .mref n) (μ1 := μ) (by unfold evE; rw [e1]; rfl) fun ph2 vx H2 I2 g2 rx => ?_
  obtain ⟨a, dx, gs, q1, q2, q3, q4, q5⟩ := I2.insAt rx h2
  refine ⟨a, dx, gs, q1, I2.tc hK ▸ q3, fs_none q4 h3, F, own, ph2, ρ, μ, ds, μ3, hK, I2, e3, fun ph3 vs H3 I3 g3 rs => one hK I3 e4 fun ph4 vy H4 I4 g4 ry => ?_⟩
  have rx3 : Rep F.sa ph4 (Av F own (lks ies ++ lk ib)) H4 vx (.mref n) := by rw [q1]; exact .mref (g4.idx (g3.idx q2))
  refine ⟨?_, rfl, ?_, F.S, F.sa, ph4, μ4, Av F own (lks ies ++ lk ib), .mref n :: (ds ++ [dd]), ?_, I4.mu, hK ▸ I4.scr, fun a h => I4.dom h, fun a h => I4.avphi h, ?_⟩
  · rw [List.length_cons, rs.length]; omega
  · show (vx :: (vs ++ [vy])).length = np
    rw [List.length_cons, List.length_append, rs.length, hnp]
    show ds.length + 1 + 1 = nn + 1
    omega
  · exact .cons rx3 (((g4.reps I3.mu rs).weaken lkA).append (.cons (ry.weaken lkB) .nil))
  · rcases q with ⟨d, μ', ev, kk⟩ | ⟨c, μ', ev, kk⟩
    · exact .inl ⟨d, μ', ev, fun ph' v H' g M r => kk ph' v H' (I4.grow g M) (((g2.trans g3).trans g4).trans g) r⟩
    · exact .inr ⟨c, μ', ev, fun ph' H' g M => kk ph' H' (I4.grow g M)⟩
end
end Ev

set_option Elab.async false
set_option linter.all false
set_option maxRecDepth 100000
set_option maxHeartbeats 4000000
namespace Ev
open PySem L2 PyProof.Rows
section
variable (P : PCtx)
mutual
def ckS : IS → Ctx → Stmt → Bool
  | .assign i e, C, s => (match s with | .Assign [.Name y _] v _ => tgtB C i y && ckE P e C v | _ => false)
  | .newRef i, C, s => (match s with | .Assign [.Name y _] (.List [] _) _ => tgtB C i y | _ => false)
  | .unpack is e, C, s => (match s with | .Assign [.Tuple es _ _] v _ => tgsB C is es && (!isComp v && (!isTup v && ckE P e C v)) | _ => false)
  | .par i j a b, C, s => (match s with | .Assign [.Tuple [.Name x px, .Name y py] _ _] (.Tuple [l, r] _ _) _ => C.N[i]? == some x && (C.N[j]? == some y && (!(i == j) && (C.sc.kind == .function && (((kdB C x .local && (kdB C y .local && ((py.line == px.line) && (!(foldedForSure 8 l && foldedForSure 8 r) && !(constantsAlone 8 l && constantsAlone 8 r))))) || ((kdB C x .cell || kdB C y .cell) && (tgtB C i x && tgtB C j y))) && (ckE P a C l && ckE P b C r))))) | _ => false)
  | .setIdx x kk e, C, s => (match s with | .Assign [.Subscript (.Name y _) kx _] v _ => varB C x y && (ckE P kk C kx && ckE P e C v) | _ => false)
  | .swap2 x k1 k2 e1 e2, C, s => (match s with | .Assign [.Tuple [.Subscript (.Name y _) a _, .Subscript (.Name z _) b _] _ _] (.Tuple [l, r] _ _) _ => varB C x y && (y == z && (ckE P k1 C a && (ckE P k2 C b && (ckE P e1 C l && ckE P e2 C r)))) | _ => false)
  | .aug i e, C, s => (match s with | .AugAssign (.Name y _) .Add v _ => tgtB C i y && ckE P e C v | _ => false)
  | .augIdx x kk e, C, s => (match s with | .AugAssign (.Subscript (.Name y _) kx _) .Add v _ => varB C x y && (ckE P kk C kx && ckE P e C v) | _ => false)
  | .append x e, C, s => (match s with | .Expr (.Call (.Attribute (.Name y _) m apos) [v] [] cpos) _ => m == ("append" : Str) && (varB C x y && ((apos.endLine == cpos.line) && ckE P e C v)) | _ => false)
  | .extend x e, C, s => (match s with | .Expr (.Call (.Attribute (.Name y _) m apos) [v] [] cpos) _ => m == ("extend" : Str) && (varB C x y && ((apos.endLine == cpos.line) && ckE P e C v)) | _ => false)
  | .appPop x z e, C, s => (match s with | .Expr (.Call (.Attribute (.Name y _) m apos) [.Call (.Attribute (.Name y2 _) m2 apos2) [v] [] cpos2] [] cpos) _ => m == ("append" : Str) && (m2 == ("pop" : Str) && (varB C x y && (varB C z y2 && ((apos.endLine == cpos.line) && ((apos2.endLine == cpos2.line) && ckE P e C v))))) | _ => false)
  | .expr e, C, s => (match s with | .Expr v _ => !isComp v && ckE P e C v | _ => false)
  | .ite c a b, C, s => (match s with | .If t as bs _ => tst c && (ckE P c C t && (ckSs a C as && ckSs b C bs)) | _ => false)
  | .for_ tg it body, C, s => (match s with | .For t i bs [] _ => tgB C tg t && (ckT P it C t i && ckSs body C bs) | _ => false)
  | .while_ _ c body, C, s => (match s with | .While t bs [] _ => tst c && (ckE P c C t && ckSs body C bs) | _ => false)
  | .ret e, C, s => (match s with | .Return (some v) _ => ckE P e C v | _ => false)
  | .raise _, _, _ => true
  | .cont, _, s => (match s with | .Continue _ => true | _ => false)
  | .stuck, _, _ => true
  | .opq _, _, _ => false
  | .setF i y e, C, s => (match s with | .Assign [.Attribute (.Name x _) z _] v _ => P.tab && (z == y && (tabF.contains y && (varB C i x && ckE P e C v))) | _ => false)
  | .newF i y, C, s => (match s with | .Assign [.Attribute (.Name x _) z _] (.List [] _) _ => P.tab && (z == y && (tabF.contains y && varB C i x)) | _ => false)
  | .appF i y e, C, s => (match s with | .Expr (.Call (.Attribute (.Attribute (.Name x _) z _) m apos) [v] [] cpos) _ => P.tab && (m == ("append" : Str) && (z == y && (tabF.contains y && (varB C i x && ((apos.endLine == cpos.line) && ckE P e C v))))) | _ => false)
  | .tryW _ _, _, _ => false
def ckSs : ISs → Ctx → List Stmt → Bool
  | .nil, _, ss => ss.isEmpty
  | .cons a as, C, ss => (match ss with | s :: ss => ckS a C s && ckSs as C ss | [] => false)
end
end
section
variable {P : PCtx} {cl : Calls} {k : Nat}
theorem not_true {b : Bool} (h : (!b) = true) : b = false := by cases b <;> first | rfl | cases h
mutual
theorem okS : ∀ (is : IS) (X : Cx) (C : Ctx) (s : Stmt), Good P cl k X C → PassesOwn (model X.prog X.w) X.A X.env X.xe → ckS P is C s = true → PS X s (tS X.K cl is)
  | .assign i e, X, C, s, g, hp, h => by
    unfold ckS at h
    split at h
    · simp only [Bool.and_eq_true] at h
      obtain ⟨h1, h2, h3⟩ := g.tgt h.1
      exact ss_assign (okE e X C _ g h.2) g.nd h1 h2 h3
    · cases h
  | .newRef i, X, C, s, g, hp, h => by
    unfold ckS at h
    split at h
    · obtain ⟨h1, h2, h3⟩ := g.tgt h
      exact ss_newRef g.nd h1 h2 h3
    · cases h
  | .unpack is e, X, C, s, g, hp, h => by
    unfold ckS at h
    split at h
    · simp only [Bool.and_eq_true] at h
      obtain ⟨h1, h2, h3, h4⟩ := h
      exact ss_unpack (okE e X C _ g h4) (not_true h2) (not_true h3) (g.tg (t := .many is) h1)
    · cases h
  | .par i j a b, X, C, s, g, hp, h => by
    unfold ckS at h
    split at h
    · simp only [Bool.and_eq_true, Bool.or_eq_true] at h
      obtain ⟨h1, h2, h3, h4, h5, h10, h11⟩ := h
      have hk : X.env.blockKind = .function := by
        unfold Env.blockKind
        rw [g.sc, eq_of_beq h4]
        rfl
      refine ss_par (okE a X C _ g h10) (okE b X C _ g h11) g.calm g.nd (by rw [g.N]; exact eq_of_beq h1) (by rw [g.N]; exact eq_of_beq h2) (fun z => by rw [z] at h3; simp at h3) hk ?_
      rcases h5 with ⟨h5, h6, h7, h8, h9⟩ | ⟨h5, h6, h7⟩
      · exact .inl ⟨g.kd h5, g.kd h6, h7, not_true h8, not_true h9⟩
      · obtain ⟨_, a2, a3⟩ := g.tgt h6
        obtain ⟨_, b2, b3⟩ := g.tgt h7
        refine .inr ⟨?_, a2, a3, b2, b3⟩
        rcases h5 with h5 | h5
        · have : X.env.kindOf _ = some .cell := g.kd h5
          rw [this]
          rfl
        · have : X.env.kindOf _ = some .cell := g.kd h5
          rw [this, Bool.and_eq_false_iff]
          exact .inr rfl
    · cases h
  | .setIdx x kk e, X, C, s, g, hp, h => by
    unfold ckS at h
    split at h
    · simp only [Bool.and_eq_true] at h
      obtain ⟨h1, h3, h4⟩ := h
      obtain ⟨q1, q2, q3, q4⟩ := g.var h1
      exact ss_setIdx (okE e X C _ g h4) (okE kk X C _ g h3) q1 q2 q3 q4
    · cases h
  | .swap2 x k1 k2 e1 e2, X, C, s, g, hp, h => by
    unfold ckS at h
    split at h
    · simp only [Bool.and_eq_true] at h
      obtain ⟨h1, h2, h3, h4, h5, h6⟩ := h
      obtain ⟨q1, q2, q3, q4⟩ := g.var h1
      rw [← eq_of_beq h2]
      exact ss_swap2 (okE e1 X C _ g h5) (okE e2 X C _ g h6) (okE k1 X C _ g h3) (okE k2 X C _ g h4) g.calm q1 q2 q3 q4
    · cases h
  | .aug i e, X, C, s, g, hp, h => by
    unfold ckS at h
    split at h
    · simp only [Bool.and_eq_true] at h
      obtain ⟨h1, h2, h3⟩ := g.tgt h.1
      exact ss_aug (okE e X C _ g h.2) g.nd h1 h2 h3
    · cases h
  | .augIdx x kk e, X, C, s, g, hp, h => by
    unfold ckS at h
    split at h
    · simp only [Bool.and_eq_true] at h
      obtain ⟨h1, h3, h4⟩ := h
      obtain ⟨q1, q2, q3, q4⟩ := g.var h1
      exact ss_augIdx (okE e X C _ g h4) (okE kk X C _ g h3) q1 q2 q3 q4
    · cases h
  | .append x e, X, C, s, g, hp, h => by
    unfold ckS at h
    split at h
    · simp only [Bool.and_eq_true] at h
      obtain ⟨h1, h2, h3, h4⟩ := h
      obtain ⟨q1, q2, q3, q4⟩ := g.var h2
      rw [eq_of_beq h1]
      exact ss_append (okE e X C _ g h4) q1 q2 q3 q4 h3
    · cases h
  | .extend x e, X, C, s, g, hp, h => by
    unfold ckS at h
    split at h
    · simp only [Bool.and_eq_true] at h
      obtain ⟨h1, h2, h3, h4⟩ := h
      obtain ⟨q1, q2, q3, q4⟩ := g.var h2
      rw [eq_of_beq h1]
      exact ss_extend (okE e X C _ g h4) q1 q2 q3 q4 h3
    · cases h
  | .appPop x z e, X, C, s, g, hp, h => by
    unfold ckS at h
    split at h
    · simp only [Bool.and_eq_true] at h
      obtain ⟨h1, h2, h3, h4, h5, h6, h7⟩ := h
      obtain ⟨q1, q2, q3, q4⟩ := g.var h3
      obtain ⟨r1, r2, r3, r4⟩ := g.var h4
      rw [eq_of_beq h1, eq_of_beq h2]
      exact ss_appPop (okE e X C _ g h7) q1 q2 q3 q4 r1 r2 r3 r4 h5 h6
    · cases h
  | .expr e, X, C, s, g, hp, h => by
    unfold ckS at h
    split at h
    · simp only [Bool.and_eq_true] at h
      exact ss_expr (okE e X C _ g h.2) (not_true h.1)
    · cases h
  | .ite c a b, X, C, s, g, hp, h => by
    unfold ckS at h
    split at h
    · simp only [Bool.and_eq_true] at h
      obtain ⟨h1, h2, h3, h4⟩ := h
      exact ss_ite (okE c X C _ g h2) h1 (okSs a X C _ g hp h3) (okSs b X C _ g hp h4)
    · cases h
  | .for_ tg it body, X, C, s, g, hp, h => by
    unfold ckS at h
    split at h
    · simp only [Bool.and_eq_true] at h
      obtain ⟨h1, h2, h3⟩ := h
      exact ss_for hp g.calm (okT it X C _ _ g h2) (g.tg h1) (okSs body X C _ g hp h3)
    · cases h
  | .while_ n c body, X, C, s, g, hp, h => by
    unfold ckS at h
    split at h
    · simp only [Bool.and_eq_true] at h
      obtain ⟨h1, h2, h3⟩ := h
      exact ss_while hp (okE c X C _ g h2) h1 (okSs body X C _ g hp h3)
    · cases h
  | .ret e, X, C, s, g, hp, h => by
    unfold ckS at h
    split at h
    · exact ss_ret (okE e X C _ g h)
    · cases h
  | .raise c, X, C, s, g, hp, h => ss_raise
  | .cont, X, C, s, g, hp, h => by
    unfold ckS at h
    split at h
    · exact ss_cont
    · cases h
  | .stuck, X, C, s, g, hp, h => by
    refine ps_never.imp fun E σ H q => ?_
    obtain ⟨F, own, ph, ρ, μ, fl, ρ', μ', hK, I, ev, k⟩ := q
    unfold evS at ev
    cases ev
  | .tryW _ _, X, C, s, g, hp, h => by cases h
  | .opq _, X, C, s, g, hp, h => by cases h
  | .setF i y e, X, C, s, g, hp, h => by
    unfold ckS at h
    split at h
    · simp only [Bool.and_eq_true] at h
      obtain ⟨h1, h2, h3, h4, h5⟩ := h
      obtain ⟨q1, q2, q3, q4⟩ := g.var h4
      rw [eq_of_beq h2]
      exact ss_setF (g.tab h1) (in_tabF h3) q1 q2 q3 q4 (okE e X C _ g h5)
    · cases h
  | .newF i y, X, C, s, g, hp, h => by
    unfold ckS at h
    split at h
    · simp only [Bool.and_eq_true] at h
      obtain ⟨h1, h2, h3, h4⟩ := h
      obtain ⟨q1, q2, q3, q4⟩ := g.var h4
      rw [eq_of_beq h2]
      exact ss_newF (g.tab h1) (in_tabF h3) q1 q2 q3 q4
    · cases h
  | .appF i y e, X, C, s, g, hp, h => by
    unfold ckS at h
    split at h
    · simp only [Bool.and_eq_true] at h
      obtain ⟨h1, h2, h3, h4, h5, h6, h7⟩ := h
      obtain ⟨q1, q2, q3, q4⟩ := g.var h5
      rw [eq_of_beq h2, eq_of_beq h3]
      exact ss_appF (g.tab h1) (in_tabF h4) q1 q2 q3 q4 (okE e X C _ g h7) h6
    · cases h
theorem okSs : ∀ (iss : ISs) (X : Cx) (C : Ctx) (ss : List Stmt), Good P cl k X C → PassesOwn (model X.prog X.w) X.A X.env X.xe → ckSs P iss C ss = true → PSs X ss (tSs X.K cl iss)
  | .nil, X, C, ss, g, hp, h => by
    unfold ckSs at h
    cases ss with
    | nil => exact ss_nil
    | cons _ _ => cases h
  | .cons a as, X, C, ss, g, hp, h => by
    unfold ckSs at h
    split at h
    · simp only [Bool.and_eq_true] at h
      exact ss_cons (okS a X C _ g hp h.1) (okSs as X C _ g hp h.2)
    · cases h
end
end
end Ev

set_option Elab.async false
set_option linter.all false
set_option maxRecDepth 100000
set_option maxHeartbeats 4000000
namespace Ev
open PySem L2 PyProof.Rows
/-! ### the checker for what may raise -/
structure XCtx where
  nf : List Nat
  xfns : List (Str × (Nat × Nat × Option (Str × Int)))
  excs : List (Str × Nat)
  wh : Bool
  xmeths : List (Str × (Nat × Nat × Option (Str × Int))) := []
  xini : Option (Nat × Nat) := none
def XCtx.n (Y : XCtx) (f : Nat) : Bool := Y.nf.contains f
def isStuck : IS → Bool
  | .stuck => true
  | _ => false
section
variable (P : PCtx) (Y : XCtx)
/-- the defs of a display -/
def ckFs (C : Ctx) (kq : Option Str) : List Expr → List (Str × Nat × Option Int) → Bool
  | [], [] => true
  | .Name x _ :: es, (y, f, dk) :: fs => x == y && (glB C x && (dbgB x && ((match Y.xfns.lookup x with
    | some (g, _, none) => g == f && (dk.isNone && kq.isNone)
    | some (g, _, some (kw, v)) => g == f && ((dk == some v) && (match kq with | none => true | some q => q == kw))
    | none => false) && ckFs C kq es fs)))
  | _, _ => false
def ckXE : IE → Ctx → Expr → Bool
  | .ite c a b, C, e => (match e with | .IfExp t x y _ => tst c && (pE Y.n c && (ckE P c C t && (ckXE a C x && ckXE b C y))) | _ => false)
  | .call f es, C, e => (pE Y.n (.call f es) && ckE P (.call f es) C e) || (match e with | .Call (.Name x _) (y :: xs) [] _ => glB C x && (dbgB x && ((match Y.xfns.lookup x with | some (g, _, none) => g == f | _ => false) && (pEs Y.n es && ckEs P es C (y :: xs)))) | _ => false)
  | .callD f es d, C, e => (pE Y.n (.callD f es d) && ckE P (.callD f es d) C e) || (match e with | .Call (.Name x _) (y :: xs) [] _ => glB C x && (dbgB x && ((match Y.xfns.lookup x with | some (g, _, some (_, v)) => g == f && scSame (.int v) d | _ => false) && (pEs Y.n es && ckEs P es C (y :: xs)))) | _ => false)
  | .callK f es kw b, C, e => (pE Y.n (.callK f es kw b) && ckE P (.callK f es kw b) C e) || (match e with | .Call (.Name x _) (y :: xs) [⟨some kn, z, _⟩] _ => glB C x && (dbgB x && ((match Y.xfns.lookup x with | some (g, _, some (k2, v)) => g == f && (k2 == kw && kn == kw) | _ => false) && (pEs Y.n es && (pE Y.n b && (ckEs P es C (y :: xs) && ckE P b C z))))) | _ => false)
  | .callL fs i es, C, e => (match e with | .Call (.Subscript (.List ns _) c _) (y :: xs) [] _ => decide (ns.length ≤ 1000) && (ckFs Y C none ns fs && (pE Y.n i && (ckE P i C c && (pEs Y.n es && ckEs P es C (y :: xs))))) | _ => false)
  | .make f es, C, e => (pE Y.n (.make f es) && ckE P (.make f es) C e) || (match e with | .Call (.Name x _) (y :: xs) [] _ => P.tab && (x == ("Table" : Str) && (glB C x && ((match Y.xini with | some (g, _) => g == f | none => false) && (pEs Y.n es && ckEs P es C (y :: xs))))) | _ => false)
  | .meth f m i es, C, e => (pE Y.n (.meth f m i es) && ckE P (.meth f m i es) C e) || (match e with | .Call (.Attribute (.Name x _) z apos) xs [] pos => P.tab && (z == m && (varB C i x && ((match Y.xmeths.lookup m with | some (g, _, none) => g == f | _ => false) && (decide (xs.length < 20) && ((apos.endLine == pos.line) && (pEs Y.n es && ckEs P es C xs)))))) | _ => false)
  | .methK f m i es kw b, C, e => (pE Y.n (.methK f m i es kw b) && ckE P (.methK f m i es kw b) C e) || (match e with | .Call (.Attribute (.Name x _) z apos) (y :: xs) [⟨some kn, v, _⟩] pos => P.tab && (z == m && (varB C i x && ((match Y.xmeths.lookup m with | some (g, _, some (k2, _)) => g == f && (k2 == kw && kn == kw) | _ => false) && (decide ((y :: xs).length < 20) && ((apos.endLine == pos.line) && (pEs Y.n es && (pE Y.n b && (ckEs P es C (y :: xs) && ckE P b C v)))))))) | _ => false)
  | .callLK fs i es kw b, C, e => (match e with | .Call (.Subscript (.List ns _) c _) (y :: xs) [⟨some kn, z, _⟩] _ => kn == kw && (decide (ns.length ≤ 1000) && (ckFs Y C (some kn) ns fs && (pE Y.n i && (ckE P i C c && (pEs Y.n es && (ckEs P es C (y :: xs) && (pE Y.n b && ckE P b C z))))))) | _ => false)
  | e', C, e => pE Y.n e' && ckE P e' C e
/-- some = [..]; return some[i](..) -/
def ckTwo (a : IS) (as : ISs) (C : Ctx) (ss : List Stmt) : Bool := match a, as, ss with
  | .opq i, .cons (.ret (.callL fs ii es)) .nil, [.Assign [.Name y _] (.List ns _) _, .Return (some (.Call (.Subscript (.Name z _) c _) (e :: xs) [] _)) _] =>
    tgtB C i y && (varB C i z && (decide (ns.length ≤ 1000) && (ckFs Y C none ns fs && (pE Y.n ii && (ckE P ii C c && (pEs Y.n es && ckEs P es C (e :: xs)))))))
  | _, _, _ => false
mutual
def ckX : IS → Ctx → Stmt → Bool
  | .raise c, C, s => (match s with | .Raise (some (.Call (.Name x _) [.Constant (.str _) _ _] [] _)) none _ => glB C x && (dbgB x && (Y.excs.lookup x == some c)) | _ => false)
  | .expr e, C, s => (match s with | .Expr v _ => !isComp v && (plainX v && ckXE P Y e C v) | _ => false)
  | .ret e, C, s => (match s with | .Return (some v) _ => ckXE P Y e C v | _ => false)
  | .ite c a b, C, s => (match s with | .If t as bs _ => tst c && (pE Y.n c && (ckE P c C t && (ckXs a C as && ckXs b C bs))) | _ => false)
  | s', C, s => pS Y.n s' && ckS P s' C s
def ckXs : ISs → Ctx → List Stmt → Bool
  | .nil, _, ss => ss.isEmpty
  | .cons a as, C, ss => isStuck a || (ckTwo P Y a as C ss || (match ss with | s :: ss => ckX a C s && ckXs as C ss | [] => false))
end
/-- a def's whole body: a try, or no try -/
def ckTry (i : Nat) (body : ISs) (C : Ctx) (ss : List Stmt) : Bool := match ss with
  | [.Try bs [.ExceptHandler (some (.Name x _)) (some n) [.Return (some (.Call (.Name f _) [.Name m _] [] _)) _] _] [] [] _] =>
    Y.wh && (x == ("TurnError" : Str) && (f == ("_law_which" : Str) && (n == m && (C.N[i]? == some n && (kdB C n .local && (dbgB n && (glB C x && (glB C f && ckXs P Y body C bs))))))))
  | _ => false
def ckBody : ISs → Ctx → List Stmt → Bool
  | .cons (.tryW i body) .nil, C, ss => ckTry P Y i body C ss
  | b, C, ss => ckSs P b C ss
end
structure GoodX (Y : XCtx) (cl : Calls) (ca : Nat → Value) (k : Nat) (X : Cx) : Prop where
  fns : ∀ x f np dk, Y.xfns.lookup x = some (f, np, dk) → HasFnX X cl ca k x f np dk
  exc : ∀ x c, Y.excs.lookup x = some c → HasExc X ca x c
  ne : ∀ S f ds, Y.n f = true → NE (cl S f ds)
  meths : ∀ m f np dk, Y.xmeths.lookup m = some (f, np, dk) → HasMethX X cl ca k m f np dk
  ini : ∀ f np, Y.xini = some (f, np) → HasMakeX X cl ca k f np ∧ Room (k + 1) X.A
section
variable {P : PCtx} {Y : XCtx} {cl : Calls} {ca : Nat → Value} {k : Nat} {W : WX}
theorem okXEp (ie : IE) (X : Cx) (C : Ctx) (e : Expr) (g : Good P cl k X.nox C) (gx : GoodX Y cl ca k X) (h : (pE Y.n ie && ckE P ie C e) = true) : PE X e (tEX X.K cl ca W ie) := by
  obtain ⟨h1, h2⟩ := and2 h
  exact xe_pure (okE ie X.nox C e g h2).pe fun S ρ => neE (gx.ne S) ie ρ h1
theorem okFs {X : Cx} {C : Ctx} {kq : Option Str} (g : Good P cl k X.nox C) (gx : GoodX Y cl ca k X) : ∀ (ns : List Expr) (fs : List (Str × Nat × Option Int)), ckFs Y C kq ns fs = true → ∃ as, SFs X cl ca k kq ns fs as := by
  intro ns
  induction ns with
  | nil =>
    intro fs h
    cases fs with
    | nil => exact ⟨_, .nil⟩
    | cons => simp [ckFs] at h
  | cons e es ih =>
    intro fs h
    cases fs with
    | nil => cases e <;> simp [ckFs] at h
    | cons q fs =>
      obtain ⟨y, f, dk⟩ := q
      cases e
      case Name x p =>
        simp only [ckFs, Bool.and_eq_true] at h
        obtain ⟨h1, h2, h3, h4, h5⟩ := h
        obtain ⟨as, ih⟩ := ih fs h5
        rw [← eq_of_beq h1]
        split at h4
        · rename_i hl
          simp only [Bool.and_eq_true] at h4
          obtain ⟨q1, q2, q3⟩ := h4
          have hF := gx.fns _ _ _ _ hl
          rw [eq_of_beq q1] at hF
          obtain ⟨fa, fd, ps, F0, hm, z⟩ := hF.ex
          rw [Option.isNone_iff_eq_none.mp q2]
          exact ⟨fa :: as, .cons (kw := x) hF hm (g.gl h2) (dbg_ok h3).1 (fun q e => by rw [e] at q3; cases q3) ih⟩
        · rename_i kw v hl
          simp only [Bool.and_eq_true] at h4
          obtain ⟨q1, q2, q3⟩ := h4
          have hF := gx.fns _ _ _ _ hl
          rw [eq_of_beq q1] at hF
          obtain ⟨fa, fd, ps, F0, hm, z⟩ := hF.ex
          rw [eq_of_beq q2]
          exact ⟨fa :: as, .cons (kw := kw) hF hm (g.gl h2) (dbg_ok h3).1 (fun q e => by rw [e] at q3; exact ⟨eq_of_beq q3, rfl⟩) ih⟩
        · cases h4
      all_goals simp [ckFs] at h
theorem okXE : ∀ (ie : IE) (X : Cx) (C : Ctx) (e : Expr), Good P cl k X.nox C → GoodX Y cl ca k X → Takes X W → ckXE P Y ie C e = true → PE X e (tEX X.K cl ca W ie)
  | .ite c a b, X, C, e, g, gx, tk, h => by
    unfold ckXE at h
    split at h
    · simp only [Bool.and_eq_true] at h
      obtain ⟨h1, h2, h3, h4, h5⟩ := h
      exact xe_ite h1 (okE c X.nox C _ g h3) (fun S ρ => neE (gx.ne S) c ρ h2) (okXE a X C _ g gx tk h4) (okXE b X C _ g gx tk h5)
    · cases h
  | .call f es, X, C, e, g, gx, tk, h => by
    unfold ckXE at h
    rcases Bool.or_eq_true_iff.mp h with h | h
    · exact okXEp _ X C e g gx h
    · split at h
      · simp only [Bool.and_eq_true] at h
        obtain ⟨h1, h2, h3, h4, h5⟩ := h
        split at h3
        · rename_i hl
          rw [← eq_of_beq h3]
          exact xe_call (gx.fns _ _ _ _ hl) g.room (g.gl h1) (dbg_ok h2).1 tk (okEs es X.nox C _ g h5) fun S ρ => neEs (gx.ne S) es ρ h4
        · cases h3
      · cases h
  | .callD f es d, X, C, e, g, gx, tk, h => by
    unfold ckXE at h
    rcases Bool.or_eq_true_iff.mp h with h | h
    · exact okXEp _ X C e g gx h
    · split at h
      · simp only [Bool.and_eq_true] at h
        obtain ⟨h1, h2, h3, h4, h5⟩ := h
        split at h3
        · rename_i hl
          simp only [Bool.and_eq_true] at h3
          rw [← eq_of_beq h3.1, ← scSame_eq h3.2]
          exact xe_callD (gx.fns _ _ _ _ hl) g.room (g.gl h1) (dbg_ok h2).1 tk (okEs es X.nox C _ g h5) fun S ρ => neEs (gx.ne S) es ρ h4
        · cases h3
      · cases h
  | .callK f es kw b, X, C, e, g, gx, tk, h => by
    unfold ckXE at h
    rcases Bool.or_eq_true_iff.mp h with h | h
    · exact okXEp _ X C e g gx h
    · split at h
      · simp only [Bool.and_eq_true] at h
        obtain ⟨h1, h2, h3, h4, h5, h6, h7⟩ := h
        split at h3
        · rename_i hl
          simp only [Bool.and_eq_true] at h3
          obtain ⟨q1, q2, q3⟩ := h3
          rw [← eq_of_beq q1, eq_of_beq q3]
          rw [eq_of_beq q2] at hl
          exact xe_callK (gx.fns _ _ _ _ hl) g.room (g.gl h1) (dbg_ok h2).1 tk (okEs es X.nox C _ g h6) (okE b X.nox C _ g h7) (fun S ρ => neEs (gx.ne S) es ρ h4) fun S ρ => neE (gx.ne S) b ρ h5
        · cases h3
      · cases h
  | .make f es, X, C, e, g, gx, tk, h => by
    unfold ckXE at h
    rcases Bool.or_eq_true_iff.mp h with h | h
    · exact okXEp _ X C e g gx h
    · split at h
      · simp only [Bool.and_eq_true] at h
        obtain ⟨h1, h2, h3, h4, h5, h6⟩ := h
        rw [eq_of_beq h2] at h3 ⊢
        split at h4
        · rename_i hl
          rw [← eq_of_beq h4]
          obtain ⟨m1, m2⟩ := gx.ini _ _ hl
          exact xe_make (g.tab h1) m1 m2 (g.gl h3) tk (okEs es X.nox C _ g h6) fun S ρ => neEs (gx.ne S) es ρ h5
        · cases h4
      · cases h
  | .meth f m i es, X, C, e, g, gx, tk, h => by
    unfold ckXE at h
    rcases Bool.or_eq_true_iff.mp h with h | h
    · exact okXEp _ X C e g gx h
    · split at h
      · simp only [Bool.and_eq_true] at h
        obtain ⟨h1, h2, h3, h4, h5, h6, h7, h8⟩ := h
        obtain ⟨q1, q2, q3, q4⟩ := g.var h3
        rw [eq_of_beq h2]
        split at h4
        · rename_i hl
          rw [← eq_of_beq h4]
          exact xe_meth (g.tab h1) (gx.meths _ _ _ _ hl) g.room q1 q2 q3 q4 tk (okEs es X.nox C _ g h8) (fun S ρ => neEs (gx.ne S) es ρ h7) (of_decide_eq_true h5) h6
        · cases h4
      · cases h
  | .methK f m i es kw b, X, C, e, g, gx, tk, h => by
    unfold ckXE at h
    rcases Bool.or_eq_true_iff.mp h with h | h
    · exact okXEp _ X C e g gx h
    · split at h
      · simp only [Bool.and_eq_true] at h
        obtain ⟨h1, h2, h3, h4, h5, h6, h7, h8, h9, h10⟩ := h
        obtain ⟨q1, q2, q3, q4⟩ := g.var h3
        rw [eq_of_beq h2]
        split at h4
        · rename_i hl
          simp only [Bool.and_eq_true] at h4
          obtain ⟨a1, a2, a3⟩ := h4
          rw [← eq_of_beq a1, eq_of_beq a3]
          rw [eq_of_beq a2] at hl
          exact xe_methK (g.tab h1) (gx.meths _ _ _ _ hl) g.room q1 q2 q3 q4 tk (okEs es X.nox C _ g h9) (okE b X.nox C _ g h10) (fun S ρ => neEs (gx.ne S) es ρ h7) (fun S ρ => neE (gx.ne S) b ρ h8) (of_decide_eq_true h5) h6
        · cases h4
      · cases h
  | .callL fs i es, X, C, e, g, gx, tk, h => by
    unfold ckXE at h
    split at h
    · simp only [Bool.and_eq_true] at h
      obtain ⟨h1, h2, h3, h4, h5, h6⟩ := h
      obtain ⟨as, hF⟩ := okFs g gx _ _ h2
      exact xe_callL hF (of_decide_eq_true h1) g.room tk (okE i X.nox C _ g h4) (fun S ρ => neE (gx.ne S) i ρ h3) (okEs es X.nox C _ g h6) fun S ρ => neEs (gx.ne S) es ρ h5
    · cases h
  | .callLK fs i es kw b, X, C, e, g, gx, tk, h => by
    unfold ckXE at h
    split at h
    · simp only [Bool.and_eq_true] at h
      obtain ⟨h0, h1, h2, h3, h4, h5, h6, h7, h8⟩ := h
      obtain ⟨as, hF⟩ := okFs g gx _ _ h2
      rw [← eq_of_beq h0]
      exact xe_callLK hF (of_decide_eq_true h1) g.room tk (okE i X.nox C _ g h4) (fun S ρ => neE (gx.ne S) i ρ h3) (okEs es X.nox C _ g h6) (fun S ρ => neEs (gx.ne S) es ρ h5) (okE b X.nox C _ g h8) fun S ρ => neE (gx.ne S) b ρ h7
    · cases h
  | .non, X, C, e, g, gx, tk, h => okXEp _ X C e g gx h
  | .bl b, X, C, e, g, gx, tk, h => okXEp _ X C e g gx h
  | .int i, X, C, e, g, gx, tk, h => okXEp _ X C e g gx h
  | .str s, X, C, e, g, gx, tk, h => okXEp _ X C e g gx h
  | .var i, X, C, e, g, gx, tk, h => okXEp _ X C e g gx h
  | .glob x d, X, C, e, g, gx, tk, h => okXEp _ X C e g gx h
  | .bin o a b, X, C, e, g, gx, tk, h => okXEp _ X C e g gx h
  | .neg a, X, C, e, g, gx, tk, h => okXEp _ X C e g gx h
  | .not a, X, C, e, g, gx, tk, h => okXEp _ X C e g gx h
  | .cmp o a b, X, C, e, g, gx, tk, h => okXEp _ X C e g gx h
  | .chain o o' a b c, X, C, e, g, gx, tk, h => okXEp _ X C e g gx h
  | .isC n c a, X, C, e, g, gx, tk, h => okXEp _ X C e g gx h
  | .andL es, X, C, e, g, gx, tk, h => okXEp _ X C e g gx h
  | .orL es, X, C, e, g, gx, tk, h => okXEp _ X C e g gx h
  | .tup es, X, C, e, g, gx, tk, h => okXEp _ X C e g gx h
  | .lst es, X, C, e, g, gx, tk, h => okXEp _ X C e g gx h
  | .idx a i, X, C, e, g, gx, tk, h => okXEp _ X C e g gx h
  | .slice a l u, X, C, e, g, gx, tk, h => okXEp _ X C e g gx h
  | .rev a, X, C, e, g, gx, tk, h => okXEp _ X C e g gx h
  | .callF f a es, X, C, e, g, gx, tk, h => okXEp _ X C e g gx h
  | .nin a b, X, C, e, g, gx, tk, h => okXEp _ X C e g gx h
  | .b1 o a, X, C, e, g, gx, tk, h => okXEp _ X C e g gx h
  | .mm m a b, X, C, e, g, gx, tk, h => okXEp _ X C e g gx h
  | .isi t a, X, C, e, g, gx, tk, h => okXEp _ X C e g gx h
  | .lrange a, X, C, e, g, gx, tk, h => okXEp _ X C e g gx h
  | .gidx x kk i, X, C, e, g, gx, tk, h => okXEp _ X C e g gx h
  | .lcount x b, X, C, e, g, gx, tk, h => okXEp _ X C e g gx h
  | .lindex x b, X, C, e, g, gx, tk, h => okXEp _ X C e g gx h
  | .dget kk d b, X, C, e, g, gx, tk, h => okXEp _ X C e g gx h
  | .didx kk b, X, C, e, g, gx, tk, h => okXEp _ X C e g gx h
  | .fld a b, X, C, e, g, gx, tk, h => okXEp _ X C e g gx h
  | .methD a b d f k, X, C, e, g, gx, tk, h => okXEp _ X C e g gx h
  | .popF a b, X, C, e, g, gx, tk, h => okXEp _ X C e g gx h
  | .nilF a b, X, C, e, g, gx, tk, h => okXEp _ X C e g gx h
  | .isiT a, X, C, e, g, gx, tk, h => okXEp _ X C e g gx h
  | .eqM a b d, X, C, e, g, gx, tk, h => okXEp _ X C e g gx h
  | .comp v t i b d, X, C, e, g, gx, tk, h => okXEp _ X C e g gx h
  | .comp2 v v1 t i t1 i1 d, X, C, e, g, gx, tk, h => okXEp _ X C e g gx h
theorem okTwo {a : IS} {as : ISs} {X : Cx} {C : Ctx} {ss : List Stmt} (g : Good P cl k X.nox C) (gx : GoodX Y cl ca k X) (tk : Takes X W) (h : ckTwo P Y a as C ss = true) : PSs X ss (tSsX X.K cl ca W (.cons a as)) := by
  unfold ckTwo at h
  split at h
  · simp only [Bool.and_eq_true] at h
    obtain ⟨h1, h2, h3, h4, h5, h6, h7, h8⟩ := h
    obtain ⟨t1, t2, t3⟩ := g.tgt h1
    obtain ⟨v1, v2, v3, v4⟩ := g.var h2
    rw [t1] at v1
    cases v1
    obtain ⟨as, hF⟩ := okFs g gx _ _ h4
    exact xss_two hF (of_decide_eq_true h3) g.room tk (okE _ X.nox C _ g h6) (fun S ρ => neE (gx.ne S) _ ρ h5) (okEs _ X.nox C _ g h8) (fun S ρ => neEs (gx.ne S) _ ρ h7) g.nd t1 t2 t3 v2 v3 v4
  · cases h
theorem okXp : ∀ (is : IS) (X : Cx) (C : Ctx) (s : Stmt), Good P cl k X.nox C → GoodX Y cl ca k X → Takes X W → (pS Y.n is && ckS P is C s) = true → PS X s (tSX X.K cl ca W is) := fun is X C s g gx tk h => by
  obtain ⟨h1, h2⟩ := and2 h
  exact xs_pure (okS is X.nox C s g PassesOwn.never h2) fun S ρ => neS (gx.ne S) is ρ h1
mutual
theorem okX : ∀ (is : IS) (X : Cx) (C : Ctx) (s : Stmt), Good P cl k X.nox C → GoodX Y cl ca k X → Takes X W → ckX P Y is C s = true → PS X s (tSX X.K cl ca W is)
  | .raise c, X, C, s, g, gx, tk, h => by
    unfold ckX at h
    split at h
    · simp only [Bool.and_eq_true] at h
      obtain ⟨h1, h2, h3⟩ := h
      exact xs_raise g.calm tk (gx.exc _ _ (eq_of_beq h3)) (g.gl h1) (dbg_ok h2).1
    · cases h
  | .expr e, X, C, s, g, gx, tk, h => by
    unfold ckX at h
    split at h
    · simp only [Bool.and_eq_true] at h
      obtain ⟨h1, h2, h3⟩ := h
      exact xs_expr (okXE e X C _ g gx tk h3) h2 (not_true h1)
    · cases h
  | .ret e, X, C, s, g, gx, tk, h => by
    unfold ckX at h
    split at h
    · exact xs_ret (okXE e X C _ g gx tk h)
    · cases h
  | .ite c a b, X, C, s, g, gx, tk, h => by
    unfold ckX at h
    split at h
    · simp only [Bool.and_eq_true] at h
      obtain ⟨h1, h2, h3, h4, h5⟩ := h
      exact xs_ite (okE c X.nox C _ g h3) h1 (fun S ρ => neE (gx.ne S) c ρ h2) (okXs a X C _ g gx tk h4) (okXs b X C _ g gx tk h5)
    · cases h
  | .assign i e, X, C, s, g, gx, tk, h => okXp _ X C s g gx tk h
  | .newRef i, X, C, s, g, gx, tk, h => okXp _ X C s g gx tk h
  | .unpack i e, X, C, s, g, gx, tk, h => okXp _ X C s g gx tk h
  | .par i j a b, X, C, s, g, gx, tk, h => okXp _ X C s g gx tk h
  | .setIdx x a b, X, C, s, g, gx, tk, h => okXp _ X C s g gx tk h
  | .swap2 x a b d e, X, C, s, g, gx, tk, h => okXp _ X C s g gx tk h
  | .aug i e, X, C, s, g, gx, tk, h => okXp _ X C s g gx tk h
  | .augIdx i e f, X, C, s, g, gx, tk, h => okXp _ X C s g gx tk h
  | .append i e, X, C, s, g, gx, tk, h => okXp _ X C s g gx tk h
  | .extend i e, X, C, s, g, gx, tk, h => okXp _ X C s g gx tk h
  | .appPop i j e, X, C, s, g, gx, tk, h => okXp _ X C s g gx tk h
  | .for_ t i b, X, C, s, g, gx, tk, h => okXp _ X C s g gx tk h
  | .while_ n c b, X, C, s, g, gx, tk, h => okXp _ X C s g gx tk h
  | .cont, X, C, s, g, gx, tk, h => okXp _ X C s g gx tk h
  | .stuck, X, C, s, g, gx, tk, h => okXp _ X C s g gx tk h
  | .opq i, X, C, s, g, gx, tk, h => okXp _ X C s g gx tk h
  | .setF i a b, X, C, s, g, gx, tk, h => okXp _ X C s g gx tk h
  | .newF i a, X, C, s, g, gx, tk, h => okXp _ X C s g gx tk h
  | .appF i a b, X, C, s, g, gx, tk, h => okXp _ X C s g gx tk h
  | .tryW i b, X, C, s, g, gx, tk, h => okXp _ X C s g gx tk h
theorem okXs : ∀ (iss : ISs) (X : Cx) (C : Ctx) (ss : List Stmt), Good P cl k X.nox C → GoodX Y cl ca k X → Takes X W → ckXs P Y iss C ss = true → PSs X ss (tSsX X.K cl ca W iss)
  | .nil, X, C, ss, g, gx, tk, h => by
    unfold ckXs at h
    cases ss with
    | nil => exact xss_nil
    | cons _ _ => cases h
  | .cons a as, X, C, ss, g, gx, tk, h => by
    unfold ckXs at h
    rcases Bool.or_eq_true_iff.mp h with h | h
    · have : a = .stuck := by
        cases a <;> first | rfl | cases h
      rw [this]
      exact xss_stuck
    · rcases Bool.or_eq_true_iff.mp h with h | h
      · exact okTwo g gx tk h
      split at h
      · simp only [Bool.and_eq_true] at h
        exact xss_cons (okX a X C _ g gx tk h.1) (okXs as X C _ g gx tk h.2)
      · cases h
end
theorem Good.tr {X : Cx} {C : Ctx} (g : Good P cl k X C) (pn : List (Addr × Obj)) (xe : Value → Shared → Prop) : Good P cl k (X.tr pn xe).nox C :=
  ⟨g.N, g.nd, g.sc, g.fn, g.calm, g.room, fun x f np dk h => ⟨(g.fns x f np dk h).ex, (g.fns x f np dk h).len⟩, g.blt, g.gls, g.dcts, g.tab, fun m f np dk h => ⟨(g.meths m f np dk h).ex, (g.meths m f np dk h).len⟩, fun f np h => ⟨⟨(g.ini f np h).1.ex, (g.ini f np h).1.len⟩, (g.ini f np h).2⟩⟩
theorem GoodX.tr {X : Cx} (g : GoodX Y cl ca k X) (pn : List (Addr × Obj)) (xe : Value → Shared → Prop) : GoodX Y cl ca k (X.tr pn xe) :=
  ⟨fun x f np dk h => ⟨(g.fns x f np dk h).ex, (g.fns x f np dk h).len⟩, fun x c h => g.exc x c h, g.ne, fun m f np dk h => ⟨(g.meths m f np dk h).ex, (g.meths m f np dk h).len⟩, fun f np h => ⟨⟨(g.ini f np h).1.ex, (g.ini f np h).1.len⟩, (g.ini f np h).2⟩⟩
theorem okBody {X : Cx} {C : Ctx} {b : ISs} {ss : List Stmt} (g : Good P cl (k + 1) X C) (hp : PassesOwn (model X.prog X.w) X.A X.env X.xe) (hst : X.stack = X.env :: X.outer) (hfr : X.env.frame = some X.env.locals) (gx : GoodX Y cl ca (k + 1) X) (hw : Y.wh = true → WhOk X.K X.mg ca) (h : ckBody P Y b C ss = true) : PSs X ss (tSs X.K cl b) := by
  unfold ckBody at h
  split at h
  · rename_i i body
    unfold ckTry at h
    split at h
    · simp only [Bool.and_eq_true] at h
      obtain ⟨h0, h1, h2, h3, h4, h5, h6, h7, h8, h9⟩ := h
      have e1 := eq_of_beq h1
      have e2 := eq_of_beq h2
      have e3 := eq_of_beq h3
      subst e1 e2 e3
      refine ss_cons (ss_tryW hst hfr (hw h0) g.room g.nd (by rw [g.N]; exact eq_of_beq h4) (g.kd h5) (dbg_ok h6).1 (dbg_ok h6).2 (g.gl h7) (g.gl h8) fun W pn xe tk => ?_) ss_nil
      exact okXs body (X.tr pn xe) C _ (g.tr pn xe) (gx.tr pn xe) tk h9
    · cases h
  · exact okSs _ X C ss g hp h
end
end Ev

set_option Elab.async false
set_option linter.all false
set_option maxRecDepth 100000
set_option maxHeartbeats 4000000
namespace Ev
open PySem L2 PyProof.Rows
/-! ### a program's defs -/
def startE (n : Nat) (ds : List D) : Env := ds.map (fun d => some (false, d)) ++ List.replicate (n - ds.length) none
def fin (p : Fl × Env) : M D := match p.1 with
  | .ret d => pure d
  | .next => pure .non
  | .cont => M.no
def runFn (S : List Int) (call : Nat → List D → M D) (fn : Fn) (ds : List D) : M D := if ds.length = fn.params then evSs S call fn.body (startE fn.slots ds) >>= fin else M.no
def callN (tbl : Nat → Option Fn) (S : List Int) : Nat → Nat → List D → M D
  | 0, _, _ => M.no
  | n + 1, f, ds => match tbl f with
    | none => M.no
    | some fn => runFn S (callN tbl S n) fn ds
def scB (N ps : List Str) (sc : Scope) : Bool := sc.kind == .function && (!sc.isCoroutine && (!sc.isGenerator && (decide N.Nodup && (N.take ps.length == ps && (ps.all (fun x => sc.names.lookup x == some .local || sc.names.lookup x == some .cell) && sc.names.all (fun y => !(y.2 == .free)))))))
theorem scB_ok {N ps : List Str} {sc : Scope} (h : scB N ps sc = true) : FnScope N ps sc := by
  unfold scB at h
  simp only [Bool.and_eq_true] at h
  obtain ⟨h1, h2, h3, h4, h5, h6, h7⟩ := h
  refine ⟨eq_of_beq h1, not_true h2, not_true h3, of_decide_eq_true h4, eq_of_beq h5, fun x hx => ?_, fun y hy e => ?_⟩
  · have := List.all_eq_true.mp h6 x hx
    rw [Bool.or_eq_true] at this
    exact this.imp eq_of_beq eq_of_beq
  · have := List.all_eq_true.mp h7 y hy
    rw [e] at this
    cases this
def ckFn (P : PCtx) (Y : XCtx) (tbl : Nat → Option Fn) (d : FDef) : Bool := match tbl d.id with
  | none => false
  | some fn => scB d.N d.ps (defScope d.st) && (fn.params == d.ps.length && (fn.slots == d.N.length && (if d.kx then ckXs P Y fn.body ⟨d.N, defScope d.st, fun _ => true⟩ (defBody d.st) else ckBody P Y fn.body ⟨d.N, defScope d.st, fun _ => true⟩ (defBody d.st))))
/-- what never raises -/
def ckNe (Y : XCtx) (tbl : Nat → Option Fn) : Bool := Y.nf.all fun f => match tbl f with
  | none => true
  | some fn => pSs Y.n fn.body
theorem NE.fin {p : Fl × Env} : NE (fin p) := by
  unfold Ev.fin
  split
  · exact .pure
  · exact .pure
  · exact .no
theorem ne_callN {Y : XCtx} {tbl : Nat → Option Fn} {S : List Int} (h : ckNe Y tbl = true) : ∀ (n f : Nat) (ds : List D), Y.n f = true → NE (callN tbl S n f ds)
  | 0, f, ds, _ => NE.no
  | n + 1, f, ds, hf => by
    have hm : f ∈ Y.nf := by
      unfold XCtx.n at hf
      simpa using hf
    have hq := List.all_eq_true.mp h f hm
    unfold callN
    cases e : tbl f with
    | none => exact NE.no
    | some fn =>
      rw [e] at hq
      simp only
      unfold runFn
      exact .ite (.bind (neSs (ne_callN h n) fn.body _ hq) fun _ => .fin) .no
/-- how its arguments bind, by the text alone -/
def BindEq (d : FDef) : Prop := match d.dk with
  | none => ∀ (kV doc pm : Value) (an : Option Addr) (cdv ct : Value) (us : List Value), us.length = d.ps.length → bindArgs (PySem.W.fnOf d.nm d.qual (defArgs d.st) (defBody d.st) (defScope d.st) .none kV doc pm an cdv ct) ⟨us, []⟩ = pure (d.ps.zip us)
  | some (kw, _) => d.ps ≠ [] ∧ (∀ (D : Addr) (doc pm : Value) (an : Option Addr) (cdv ct : Value) (us ks : List Value), us.length = d.ps.length - 1 → ks.length = 1 →
      KwChain D ([kw].zip ks) (bindArgs (PySem.W.fnOf d.nm d.qual (defArgs d.st) (defBody d.st) (defScope d.st) .none (.ref D) doc pm an cdv ct) ⟨us, []⟩) (d.ps.zip (us ++ ks))) ∧
      ∀ (D : Addr) (doc pm : Value) (an : Option Addr) (cdv ct : Value) (us ws : List Value), us.length = d.ps.length - 1 → ws.length = 1 →
        bindArgs (PySem.W.fnOf d.nm d.qual (defArgs d.st) (defBody d.st) (defScope d.st) .none (.ref D) doc pm an cdv ct) ⟨us, [kw].zip ws⟩ = pure (d.ps.zip (us ++ ws))
section
variable {Pg : Program} {w : World} {K : PySem.W.Frag} {mg : Str → Option Value} {base : Heap} {tbl : Nat → Option Fn} {P : PCtx}
abbrev FnP (K : PySem.W.Frag) (d : FDef) (f : Addr) (fd : FuncData) : Prop := FunD K d.nm d.qual (defArgs d.st) (defBody d.st) (defScope d.st) [] d.kws f fd
theorem binds_none {d : FDef} {f : Addr} {fd : FuncData} (hd : d.dk = none) (hb : BindEq d) (F : FnP K d f fd) : Binds K fd d.ps [] := by
  unfold BindEq at hb
  rw [hd] at hb
  exact FunD.bindsN F hb
theorem binds_some {d : FDef} {f : Addr} {fd : FuncData} {kw : Str} {v : Int} (hd : d.dk = some (kw, v)) (hb : BindEq d) (F : FnP K d f fd) : (∃ ds, Vals [V.int v] ds ∧ Binds K fd d.ps ds) ∧ ∃ n g, d.ps.length = n + 1 ∧ KBn K fd d.ps n [kw] g (fun vs zs => vs ++ zs) := by
  unfold BindEq at hb
  rw [hd] at hb
  obtain ⟨h0, h1, h2⟩ := hb
  have hl : d.ps.length ≠ 0 := fun z => h0 (List.length_eq_zero_iff.mp z)
  have hk : d.kws = [(kw, .int v)] := by unfold FDef.kws; rw [hd]
  have F' : FunD K d.nm d.qual (defArgs d.st) (defBody d.st) (defScope d.st) [] [(kw, .int v)] f fd := by rw [← hk]; exact F
  refine ⟨F'.binds0 (d.ps.length - 1) (by simp) (by show d.ps.length - 1 + 1 = _; omega) fun D doc pm an cdv ct us ks hu hk => h1 D doc pm an cdv ct us ks hu hk, d.ps.length - 1, fun us ws => us ++ ws, by omega, ?_⟩
  obtain ⟨oc, od, dV, kV, doc, pm, an, cdv, ct, osl, rfl, lk, hcd, hD, hK⟩ := F'.ex
  rcases hD with ⟨_, rfl⟩ | ⟨e, _⟩
  · rcases hK with e | ⟨D, rfl, hq⟩
    · cases e
    · exact ⟨fun s us ws X hu hw => .of_eq (h2 D doc pm an cdv ct us ws hu (by simpa using hw)), fun a b => a.append b⟩
  · exact absurd rfl e
theorem lookup_mem {α β : Type} [BEq α] [LawfulBEq α] {x : α} {y : β} : ∀ {l : List (α × β)}, l.lookup x = some y → (x, y) ∈ l
  | [], h => by cases h
  | (a, b) :: l, h => by
    rw [List.lookup_cons] at h
    split at h
    · rename_i e
      cases h
      rw [eq_of_beq e]
      exact List.mem_cons_self
    · exact List.mem_cons_of_mem _ (lookup_mem h)
theorem callN_ok {S : List Int} {n f : Nat} {ds : List D} {d : D} {μ μ' : Mu} (ev : callN tbl S (n + 1) f ds μ = .ok d μ') : ∃ fn, tbl f = some fn ∧ ds.length = fn.params ∧ (evSs S (callN tbl S n) fn.body (startE fn.slots ds) >>= fin) μ = .ok d μ' := by
  have ev : (match tbl f with | none => M.no | some fn => runFn S (callN tbl S n) fn ds : M D) μ = .ok d μ' := ev
  cases h : tbl f with
  | none => rw [h] at ev; cases ev
  | some fn =>
    rw [h] at ev
    have ev : runFn S (callN tbl S n) fn ds μ = .ok d μ' := ev
    unfold runFn at ev
    obtain ⟨h1, h2⟩ := iteM_ok ev
    exact ⟨fn, rfl, h1, h2⟩
theorem start_stt {S : List Int} {sa : Sa} {B : Addr → Prop} {ph : List Addr} {μ : Mu} {N : List Str} {vs : List V} {ds : List D} {H : Hp} (r : Reps sa ph B H vs ds) (M0 : MuOk sa ph H μ) (hs : ScrR K S sa H) (hb1 : ∀ a, B a → H a ≠ none) (hb2 : ∀ a, B a → a ∉ ph) :
    Stt ⟨K, S, sa, B, H, ph, []⟩ (fun _ => none) ph (startE N.length ds) μ (start N vs) H := by
  refine ⟨fun i b d h => ?_, ?_, M0, fun _ _ h _ => h, fun a o h => (fun (z : H a = none) => by rw [show H a = some o from h] at z; cases z), ⟨[], by simp, by simp⟩, fun i p h => (by cases h), fun i p h => (by cases h), fun i j p h => (by cases h), fun i p h => (by cases h), hb1, hb2, fun i p h => (by cases h), hs, fun p hp => (by cases hp)⟩
  · unfold startE at h
    by_cases hi : i < ds.length
    · rw [List.getElem?_append_left (by rw [List.length_map]; exact hi), List.getElem?_map] at h
      obtain ⟨d', e1, e2⟩ := Option.map_eq_some_iff.mp h
      cases e2
      obtain ⟨v, q1, q2⟩ := r.get e1
      refine ⟨v, ?_, q2.weaken fun a z => ?_⟩
      · unfold L2.start
        rw [List.getElem?_append_left (by rw [List.length_map, r.length]; exact hi), List.getElem?_map, q1]
        rfl
      · rcases z with z | ⟨j, z, _⟩
        · exact z
        · cases z
    · rw [List.getElem?_append_right (by rw [List.length_map]; omega)] at h
      rw [List.getElem?_replicate] at h
      split at h <;> cases h
  · unfold startE L2.start
    rw [List.length_append, List.length_append, List.length_map, List.length_map, List.length_replicate, List.length_replicate, r.length]
theorem spF_X {ca : Nat → Value} {cl : Calls} {f np : Nat} {vs : List V} {H : Hp} {Q : VK} {E : XK} (h : spF K cl f np vs H Q E) : spX K cl ca f np vs H Q E := by
  obtain ⟨hl, S, sa, ph, μ, B, ds, d, μ', h1, h2, h3, h4, h5, ev, k⟩ := h
  exact ⟨hl, S, sa, ph, μ, B, ds, h1, h2, h3, h4, h5, .inl ⟨d, μ', ev, k⟩⟩
def spD (K : PySem.W.Frag) (cl : Calls) (ca : Nat → Value) (d : FDef) : Sp := if d.kx = true then spX K cl ca d.id d.ps.length else spF K cl d.id d.ps.length
/-- where a def stands: a global, a method -/
def Stands (K : PySem.W.Frag) (mg : Str → Option Value) (d : FDef) (fa : Addr) : Prop := if d.mt = true then Meth K (tabC K) d.x fa else mg d.x = some (.ref fa)
theorem stands_m {K : PySem.W.Frag} {mg : Str → Option Value} {d : FDef} {fa : Addr} (h : d.mt = true) (m : Meth K (tabC K) d.x fa) : Stands K mg d fa := by unfold Stands; rw [if_pos h]; exact m
theorem stands_f {K : PySem.W.Frag} {mg : Str → Option Value} {d : FDef} {fa : Addr} (h : d.mt = false) (m : mg d.x = some (.ref fa)) : Stands K mg d fa := by unfold Stands; rw [if_neg (by rw [h]; exact Bool.false_ne_true)]; exact m
def inf (d : FDef) : Str × (Nat × Nat × Option (Str × Int)) := (d.x, (d.id, d.ps.length, d.dk))
def nmt (d : FDef) : Bool := !d.mt
def kxF (d : FDef) : Bool := d.kx && !d.mt
def kxM (d : FDef) : Bool := d.kx && d.mt
theorem prog_ok {Y : XCtx} {ca : Nat → Value} (fds : List FDef) (hP : P.fns = (fds.filter nmt).map inf) (hPm : P.meths = (fds.filter FDef.mt).map inf) (hY : Y.xfns = (fds.filter kxF).map inf) (hYm : Y.xmeths = (fds.filter kxM).map inf) (hck : ∀ d ∈ fds, ckFn P Y tbl d = true) (hne : ckNe Y tbl = true) (hb : ∀ d ∈ fds, BindEq d)
    (hF : ∀ d ∈ fds, ∃ fa fd, FnP K d fa fd ∧ Stands K mg d fa) (hblt : ∀ x ∈ P.blt, mg x = none) (hgls : ∀ x d, P.gls.lookup x = some d → d.sc = true ∧ ∃ u v, mg x = some u ∧ RelV v u ∧ ∀ sa ph A H, Rep sa ph A H v d) (hdct : ∀ x kvs, P.dcts.lookup x = some kvs → ∃ a, mg x = some (.ref a) ∧ KDI K a kvs)
    (hexc : ∀ x c, Y.excs.lookup x = some c → ∃ C, ca c = .ref C ∧ mg x = some (.ref C) ∧ PySem.W.excIn K C He.veBase "ValueError.__new__" = true ∧ PySem.W.keepIn K (.ref C) = true ∧ PySem.W.subIn K (.ref C) (.type "BaseException") = some true ∧ PySem.W.typeIn K (.ref C) = some (.type "type"))
    (hwh : Y.wh = true → WhOk K mg ca) (htab : P.tab = true → TabK0 K mg)
    (hini : ∀ f np, P.ini = some (f, np) → ∃ d ∈ fds, d.id = f ∧ d.ps.length = np ∧ d.dk = none ∧ ∃ fa fd, FnP K d fa fd ∧ Mk K (tabC K) fa)
    (hxini : ∀ f np, Y.xini = some (f, np) → ∃ d ∈ fds, d.kx = true ∧ d.id = f ∧ d.ps.length = np ∧ d.dk = none ∧ ∃ fa fd, FnP K d fa fd ∧ Mk K (tabC K) fa) :
    ∀ (n : Nat), ∀ d ∈ fds, ∀ fa fd, FnP K d fa fd → FnOk Pg w K mg base (L2.CX Pg w) (3 * n + 5) fa fd d.ps (spD K (fun S => callN tbl S n) ca d) := by
  have hlen : ∀ {cl : Calls} {d : FDef} {vs : List V} {H : Hp} {Q : VK} {E : XK}, spD K cl ca d vs H Q E → vs.length = d.ps.length := fun {cl d vs H Q E} h => by
    unfold spD at h
    split at h <;> exact h.1
  intro n
  induction n with
  | zero =>
    intro d hd fa fd F
    refine ⟨fun vs H Q E h => hlen h, fun A outer s H args us vs Q E _ _ _ _ h => ?_⟩
    unfold spD at h
    split at h
    · obtain ⟨_, S, sa, ph, μ, B, ds, _, _, _, _, _, ⟨dd, μ', ev, _⟩ | ⟨c, μ', ev, _⟩⟩ := h
      · cases ev
      · cases ev
    · obtain ⟨_, S, sa, ph, μ, B, ds, dd, μ', _, _, _, _, _, ev, _⟩ := h
      cases ev
  | succ n ih =>
    intro d hd fa fd F
    have hc := hck d hd
    unfold ckFn at hc
    split at hc
    · cases hc
    · rename_i fn hfn
      simp only [Bool.and_eq_true] at hc
      obtain ⟨c1, c2, c3, c4⟩ := hc
      have hbl : ∀ d' ∈ fds, ∀ S ds μ, callN tbl S n d'.id ds μ ≠ .bad → ds.length = d'.ps.length := fun d' hd' S ds μ ev => by
        cases n with
        | zero => exact absurd rfl ev
        | succ n =>
          have hc' := hck d' hd'
          unfold ckFn at hc'
          split at hc'
          · cases hc'
          · rename_i fn' hfn'
            simp only [Bool.and_eq_true] at hc'
            have ev : runFn S (callN tbl S n) fn' ds μ ≠ .bad := fun z => ev (by
              show (match tbl d'.id with | none => M.no | some fn => runFn S (callN tbl S n) fn ds : M D) μ = .bad
              rw [hfn']
              exact z)
            unfold runFn at ev
            by_cases hl : ds.length = fn'.params
            · rw [hl]; exact eq_of_beq hc'.2.1
            · rw [if_neg hl] at ev
              exact absurd rfl ev
      have goodP : ∀ (cdv : Value) (A : Around) (outer : List PySem.Env) (s : Shared) (H : Hp) (E : XK), Room (3 * n + 7) (A.deeper (envOfC d.qual (defScope d.st) s.heap.objs.size fa cdv)) →
          Good P (fun S => callN tbl S n) (3 * n + 5) (cxOf (L2.CX Pg w) Pg w K mg base d.N d.qual (defScope d.st) fa cdv A outer s H E).nox ⟨d.N, defScope d.st, fun _ => true⟩ := fun cdv A outer s H E hr => by
        have pick : ∀ d' ∈ fds, ∀ fa' fd', FnP K d' fa' fd' → FnOk Pg w K mg base (L2.CX Pg w) (3 * n + 5) fa' fd' d'.ps (spF K (fun S => callN tbl S n) d'.id d'.ps.length) := fun d' hd' fa' fd' F' => (ih d' hd' fa' fd' F').imp fun vs H Q E z => by
          unfold spD
          split
          · exact spF_X z
          · exact z
        refine ⟨rfl, (scB_ok c1).nd, rfl, fun _ _ => rfl, rfl, hr.mono (by omega), fun x f np dk hl => ?_, hblt, hgls, hdct, htab, fun x f np dk hl => ?_, fun f np hl => ⟨?_, hr.mono (by omega)⟩⟩
        · rw [hP] at hl
          obtain ⟨d', hd', e⟩ := List.mem_map.mp (lookup_mem hl)
          cases e
          obtain ⟨hd', hq⟩ := List.mem_filter.mp hd'
          obtain ⟨fa', fd', F', hm⟩ := hF d' hd'
          have hq : d'.mt = false := by unfold nmt at hq; simpa using hq
          unfold Stands at hm
          rw [if_neg (by rw [hq]; exact Bool.false_ne_true)] at hm
          exact ⟨⟨fa', fd', d'.ps, pick d' hd' fa' fd' F', hm, F'.kp, fun e => binds_none e (hb d' hd') F', fun kw v e => binds_some e (hb d' hd') F'⟩, fun S ds μ dd μ' ev => hbl d' hd' S ds μ (by rw [ev]; exact fun z => by cases z)⟩
        · rw [hPm] at hl
          obtain ⟨d', hd', e⟩ := List.mem_map.mp (lookup_mem hl)
          cases e
          obtain ⟨hd', hq⟩ := List.mem_filter.mp hd'
          obtain ⟨fa', fd', F', hm⟩ := hF d' hd'
          unfold Stands at hm
          rw [if_pos hq] at hm
          exact ⟨⟨fa', fd', d'.ps, pick d' hd' fa' fd' F', hm, fun e => binds_none e (hb d' hd') F', fun kw v e => binds_some e (hb d' hd') F'⟩, fun S ds μ dd μ' ev => hbl d' hd' S ds μ (by rw [ev]; exact fun z => by cases z)⟩
        · obtain ⟨d', hd', rfl, rfl, hk, fa', fd', F', hm⟩ := hini f np hl
          exact ⟨⟨fa', fd', d'.ps, hm, pick d' hd' fa' fd' F', binds_none hk (hb d' hd') F'⟩, fun S ds μ dd μ' ev => hbl d' hd' S ds μ (by rw [ev]; exact fun z => by cases z)⟩
      have goodX : ∀ (cdv : Value) (A : Around) (outer : List PySem.Env) (s : Shared) (H : Hp) (E : XK), Room (3 * n + 7) (A.deeper (envOfC d.qual (defScope d.st) s.heap.objs.size fa cdv)) → GoodX Y (fun S => callN tbl S n) ca (3 * n + 5) (cxOf (L2.CX Pg w) Pg w K mg base d.N d.qual (defScope d.st) fa cdv A outer s H E) := fun cdv A outer s H E hr => by
        have pick : ∀ d' ∈ fds, d'.kx = true → ∀ fa' fd', FnP K d' fa' fd' → FnOk Pg w K mg base (L2.CX Pg w) (3 * n + 5) fa' fd' d'.ps (spX K (fun S => callN tbl S n) ca d'.id d'.ps.length) := fun d' hd' hk fa' fd' F' => (ih d' hd' fa' fd' F').imp fun vs H Q E z => by
          unfold spD
          rw [if_pos hk]
          exact z
        refine ⟨fun x f np dk hl => ?_, fun x c h => hexc x c h, fun S f ds hf => ne_callN hne n f ds hf, fun x f np dk hl => ?_, fun f np hl => ⟨?_, hr.mono (by omega)⟩⟩
        · rw [hY] at hl
          obtain ⟨d', hd', e⟩ := List.mem_map.mp (lookup_mem hl)
          cases e
          obtain ⟨hd', hk⟩ := List.mem_filter.mp hd'
          unfold kxF at hk
          rw [Bool.and_eq_true] at hk
          obtain ⟨fa', fd', F', hm⟩ := hF d' hd'
          unfold Stands at hm
          rw [if_neg (by intro z; rw [z] at hk; cases hk.2)] at hm
          exact ⟨⟨fa', fd', d'.ps, pick d' hd' hk.1 fa' fd' F', hm, F'.kp, fun e => binds_none e (hb d' hd') F', fun kw v e => binds_some e (hb d' hd') F'⟩, fun S ds μ ev => hbl d' hd' S ds μ ev⟩
        · rw [hYm] at hl
          obtain ⟨d', hd', e⟩ := List.mem_map.mp (lookup_mem hl)
          cases e
          obtain ⟨hd', hk⟩ := List.mem_filter.mp hd'
          unfold kxM at hk
          rw [Bool.and_eq_true] at hk
          obtain ⟨fa', fd', F', hm⟩ := hF d' hd'
          unfold Stands at hm
          rw [if_pos hk.2] at hm
          exact ⟨⟨fa', fd', d'.ps, pick d' hd' hk.1 fa' fd' F', hm, fun e => binds_none e (hb d' hd') F', fun kw v e => binds_some e (hb d' hd') F'⟩, fun S ds μ ev => hbl d' hd' S ds μ ev⟩
        · obtain ⟨d', hd', hx, rfl, rfl, hk, fa', fd', F', hm⟩ := hxini f np hl
          exact ⟨⟨fa', fd', d'.ps, hm, pick d' hd' hx fa' fd' F', binds_none hk (hb d' hd') F'⟩, fun S ds μ ev => hbl d' hd' S ds μ ev⟩
      have gr : ∀ {S : List Int} {sa : Sa} {B : Addr → Prop} {H : Hp} {ph : List Addr} {own : Nat → Option Addr} {ph' : List Addr} {ρ' : Env} {μ1 : Mu} {σ' : L2.St} {H' : Hp}, Stt ⟨K, S, sa, B, H, ph, []⟩ own ph' ρ' μ1 σ' H' → Grow ph H ph' H' := fun I => ⟨I.fr, I.phx, fun a o h => by
        rename_i H'
        cases q : H' a with
        | none => exact absurd q (I.old a o h)
        | some o' => exact ⟨o', rfl⟩⟩
      refine FunD.ok (N := d.N) F (scB_ok c1) (fun vs H Q E h => hlen h) fun cdv A outer s H vs Q E hr h => ?_
      by_cases hk : d.kx = true
      · rw [if_pos hk] at c4
        refine ⟨tSsX K (fun S => callN tbl S n) ca (fun cls d _ H => E cls d H) fn.body, okXs fn.body _ _ _ (goodP cdv A outer s H E (hr.mono (by omega))) (goodX cdv A outer s H E (hr.mono (by omega))) (takes_of rfl rfl rfl rfl) c4, ?_⟩
        unfold spD at h
        rw [if_pos hk] at h
        obtain ⟨hl, S, sa, ph, μ, B, ds, r, M0, hs, hb1, hb2, q⟩ := h
        refine ⟨⟨K, S, sa, B, H, ph, []⟩, fun _ => none, ph, startE d.N.length ds, μ, rfl, start_stt r M0 hs hb1 hb2, ?_⟩
        have hrun : ∀ {x : R D}, callN tbl S (n + 1) d.id ds μ = x → x ≠ .bad → (evSs S (callN tbl S n) fn.body (startE d.N.length ds) >>= fin) μ = x := fun {x} ev hx => by
          have ev : (match tbl d.id with | none => M.no | some fn => runFn S (callN tbl S n) fn ds : M D) μ = x := ev
          rw [hfn] at ev
          have ev : runFn S (callN tbl S n) fn ds μ = x := ev
          unfold runFn at ev
          by_cases hl : ds.length = fn.params
          · rw [if_pos hl, eq_of_beq c3] at ev
            exact ev
          · rw [if_neg hl] at ev
            exact absurd ev.symm hx
        rcases q with ⟨dd, μ', ev, kk⟩ | ⟨c, μ', ev, kk⟩
        · obtain ⟨⟨fl, ρ'⟩, μ1, e1, ev⟩ := bind_ok (hrun ev fun z => by cases z)
          refine .inl ⟨fl, ρ', μ1, e1, ?_⟩
          cases fl with
          | next =>
            obtain ⟨h1, h2⟩ := pure_ok (show (pure D.non : M D) μ1 = .ok dd μ' from ev)
            subst h1 h2
            exact fun own ph' σ' H' I => kk ph' .non H' (gr I) I.mu .non
          | ret d0 =>
            obtain ⟨h1, h2⟩ := pure_ok (show (pure d0 : M D) μ1 = .ok dd μ' from ev)
            subst h1 h2
            exact fun own ph' σ' H' v I rv => kk ph' v H' (gr I) I.mu rv
          | cont => cases ev
        · rcases bind_ex (hrun ev fun z => by cases z) with e1 | ⟨p, μ1, e1, e2⟩
          · exact .inr ⟨c, μ', e1, fun own ph' ρ' σ' H' I => kk ph' H' (gr I) I.mu⟩
          · exact absurd e2 (NE.fin _ _ _)
      · rw [if_neg hk] at c4
        refine ⟨tSs K (fun S => callN tbl S n) fn.body, PSs.nox (okBody (goodP cdv A outer s H E (hr.mono (by omega))) PassesOwn.never rfl rfl ((goodX cdv A outer s H E (hr.mono (by omega))).tr _ _) hwh c4), ?_⟩
        unfold spD at h
        rw [if_neg hk] at h
        obtain ⟨hl, S, sa, ph, μ, B, ds, dd, μ', r, M0, hs, hb1, hb2, ev, kk⟩ := h
        obtain ⟨fn', hfn', _, ev⟩ := callN_ok ev
        rw [hfn] at hfn'
        cases hfn'
        obtain ⟨⟨fl, ρ'⟩, μ1, e1, ev⟩ := bind_ok ev
        rw [eq_of_beq c3] at e1
        refine ⟨⟨K, S, sa, B, H, ph, []⟩, fun _ => none, ph, startE d.N.length ds, μ, fl, ρ', μ1, rfl, start_stt r M0 hs hb1 hb2, e1, ?_⟩
        cases fl with
        | next =>
          obtain ⟨h1, h2⟩ := pure_ok (show (pure D.non : M D) μ1 = .ok dd μ' from ev)
          subst h1 h2
          exact fun own ph' σ' H' I => kk ph' .non H' (gr I) I.mu .non
        | ret d0 =>
          obtain ⟨h1, h2⟩ := pure_ok (show (pure d0 : M D) μ1 = .ok dd μ' from ev)
          subst h1 h2
          exact fun own ph' σ' H' v I rv => kk ph' v H' (gr I) I.mu rv
        | cont => cases ev
theorem lookup_one {x c : Str} {a b f np : Nat} (h : [(c, (a, b))].lookup x = some (f, np)) : x = c ∧ f = a ∧ np = b := by
  unfold List.lookup at h
  split at h
  · rename_i e
    cases h
    exact ⟨eq_of_beq e, rfl, rfl⟩
  · cases h
theorem fnCalm {k : Nat} {f : Addr} {fd : FuncData} {ps : List Str} {cl : Calls} {i np : Nat} (F : FnOk Pg w K mg base (L2.CX Pg w) k f fd ps (spF K cl i np)) : FnOk Pg w K mg base CX0 k f fd ps (spF K cl i np) := by
  refine ⟨F.len, fun A outer s H args us vs Q E hr e0 hb hv hs => codeAny_mono (F.run A outer s H args us vs Q (fun _ _ _ => False) hr e0 hb hv hs) fun r s' hq => ?_⟩
  cases r with
  | error e =>
    obtain ⟨_, _, _, _, _, _, _, _, _, _, _, _, z⟩ := hq
    exact z.elim
  | ok fl => cases fl <;> exact hq
/-- the law's promise -/
theorem law_sp {S : List Int} {a : Addr} {H : Hp} {n f : Nat} {μ' : Mu} (ho : Only H) (hS : SqL K H a (S.map V.int)) (ev : callN tbl S n f [.scr] [] = .ok (.bl true) μ') : spF K (fun S => callN tbl S n) f 1 [.ref a] H (fun v _ => v = .bl true) fun _ _ _ => False := by
  refine ⟨rfl, S, ⟨a, tabC K⟩, [], [], fun _ => False, [.scr], .bl true, μ', .cons .scr .nil, ⟨rfl, List.nodup_nil, fun n a mo h => by simp at h⟩, ?_, fun _ h => h.elim, fun _ h => h.elim, ev, fun ph' v H' _ _ r => ?_⟩
  · refine ⟨rfl, ?_⟩
    rcases hS with (h | ⟨o, h⟩) | h
    · rcases ho a with z | ⟨o, xs, z⟩
      · rw [h] at z; cases z
      · rw [h] at z; cases z
    · exact .inl ⟨o, h⟩
    · exact .inr fun H' => .inr h
  · cases r
    rfl
end

theorem dctB_ok {K : PySem.W.Frag} {q : Str × List (Int × Int)} (h : dctB K q = true) : KDI K (He.ga K q.1) q.2 := by
  unfold dctB at h
  split at h
  · rename_i c es n sl hl
    rw [Bool.and_eq_true, Bool.and_eq_true] at h
    obtain ⟨h1, h2, h3⟩ := h
    have e1 : c = "dict" := of_decide_eq_true h1
    have e2 : sl = #[] := Array.isEmpty_iff.mp h2
    subst e1 e2
    exact ⟨es, n, hl, of_decide_eq_true h3⟩
  · cases h
theorem dcts_ok {K : PySem.W.Frag} {h : Heap} {mg : Str → Option Value} {ds : List (Str × List (Int × Int))} (X : K.In h) (G : h.Ns mainGlobals mg) (hb : ds.all (dctB K) = true) (hg : ∀ q ∈ ds, (He.Fa.glo q.1).ok K = true) : ∀ x kvs, ds.lookup x = some kvs → ∃ a, mg x = some (.ref a) ∧ KDI K a kvs := fun x kvs e =>
  ⟨He.ga K x, He.glo_ok X G (hg (x, kvs) (lookup_mem e)), dctB_ok (q := (x, kvs)) (List.all_eq_true.mp hb (x, kvs) (lookup_mem e))⟩
/-! ### the classes of refusals -/
def clsNm : List Str := ["TurnError", "NoHands", "NoRow", "NoHand", "NoWorths", "NoOrder", "NoBound", "NotEven", "TooLong", "NoDegree", "NoPlaces", "NoText", "Done", "Nothing"]
def caK (K : PySem.W.Frag) (c : Nat) : Value := .ref (He.ga K (clsNm.getD c "TurnError"))
theorem excCB_ok {K : PySem.W.Frag} {D : Addr} (h : excCB K D = true) : ExcC K D := by
  simp only [excCB, ovB, Bool.and_eq_true, decide_eq_true_eq] at h
  obtain ⟨h1, h2, h3, h4, h5, h6, h7, h8⟩ := h
  exact ⟨h1, h2, h3, h4, h5, h6, h7, h8⟩
theorem whNms_nd : whNms.Nodup := by decide +kernel
theorem whOk_of {K : PySem.W.Frag} {h : Heap} {mg : Str → Option Value} {d : FDef} {f : Addr} {fd : FuncData} (X : K.In h) (G : h.Ns mainGlobals mg) (hB : whB K = true) (hx : d.x = "_law_which") (hnm : d.nm = "_law_which") (hq : d.qual = "_law_which") (hps : d.ps = [("e" : Str)]) (hN : d.N = [("e" : Str), "own"]) (hdk : d.dk = none) (F : FnP K d f fd) (hm : mg d.x = some (.ref f)) (hb : BindEq d)
    (hck : (scB d.N d.ps (defScope d.st) && (whichB (defBody d.st) && whScB (defScope d.st))) = true) (hi : mg ("isinstance" : Str) = none) (hv : mg ("ValueError" : Str) = none) (hc : ∀ x ∈ ("TurnError" : Str) :: whNms, (He.Fa.glo x).ok K = true) : WhOk K mg (caK K) := by
  simp only [Bool.and_eq_true] at hck
  obtain ⟨k1, k2, k3⟩ := hck
  have hget : ∀ {j : Nat} {nm : Str}, whNms[j]? = some nm → caK K (j + 1) = .ref (He.ga K nm) := fun {j nm} hj => by
    unfold caK
    have : clsNm[j + 1]? = some nm := hj
    rw [List.getD_eq_getElem?_getD, this]
    rfl
  have hall := List.all_eq_true.mp hB
  refine ⟨⟨defArgs d.st, defBody d.st, defScope d.st, f, fd, ?_, ?_, ?_, ?_, k2, k3⟩, hi, hv, fun j nm hj => ?_, ?_⟩
  · have F' := F
    unfold FnP at F'
    rw [hnm, hq] at F'
    have hk : d.kws = [] := by unfold FDef.kws; rw [hdk]
    rw [hk] at F'
    exact F'
  · rw [← hN, ← hps]; exact scB_ok k1
  · have := binds_none hdk hb F
    rw [hps] at this
    exact this
  · rw [← hx]; exact hm
  · have hmem := List.mem_of_getElem? hj
    have hq := hall nm hmem
    simp only [Bool.and_eq_true, decide_eq_true_eq] at hq
    obtain ⟨q1, q2, q3, q4⟩ := hq
    refine ⟨He.ga K nm, He.glo_ok X G (hc nm (List.mem_cons_of_mem _ hmem)), hget hj, excCB_ok q1, q2, fun j' nm' hj' => ⟨He.ga K nm', He.glo_ok X G (hc nm' (List.mem_cons_of_mem _ (List.mem_of_getElem? hj'))), ?_⟩⟩
    have := of_decide_eq_true (List.all_eq_true.mp q4 nm' (List.mem_of_getElem? hj'))
    rw [this]
    congr 1
    obtain ⟨l1, e1⟩ := List.getElem?_eq_some_iff.mp hj
    obtain ⟨l2, e2⟩ := List.getElem?_eq_some_iff.mp hj'
    by_cases e : j' = j
    · subst e
      rw [e1] at e2
      rw [e2, decide_eq_true rfl, beq_self_eq_true]
    · rw [decide_eq_false e]
      refine beq_eq_false_iff_ne.mpr fun z => e ?_
      exact (List.getElem_inj whNms_nd).mp (e2.trans (z.trans e1.symm))
  · refine ⟨He.ga K "TurnError", He.glo_ok X G (hc _ (by simp)), fun j hj => ?_⟩
    have hl : j < whNms.length := hj
    have hj' : whNms[j]? = some whNms[j] := List.getElem?_eq_getElem hl
    have hq := hall whNms[j] (List.getElem_mem hl)
    simp only [Bool.and_eq_true, decide_eq_true_eq] at hq
    rw [hget hj']
    exact hq.2.2.1
theorem excs_ok {K : PySem.W.Frag} {h : Heap} {mg : Str → Option Value} {ds : List (Str × Nat)} (X : K.In h) (G : h.Ns mainGlobals mg) (hc : ∀ q ∈ ds, clsNm[q.2]? = some q.1 ∧ (He.Fa.glo q.1).ok K = true ∧ (He.Fa.exc q.1).ok K = true) :
    ∀ x c, ds.lookup x = some c → ∃ C, caK K c = .ref C ∧ mg x = some (.ref C) ∧ PySem.W.excIn K C He.veBase "ValueError.__new__" = true ∧ PySem.W.keepIn K (.ref C) = true ∧ PySem.W.subIn K (.ref C) (.type "BaseException") = some true ∧ PySem.W.typeIn K (.ref C) = some (.type "type") := fun x c e => by
  obtain ⟨h1, h2, h3⟩ := hc (x, c) (lookup_mem e)
  refine ⟨He.ga K x, ?_, He.glo_ok X G h2, He.exc_ok h3⟩
  unfold caK
  rw [List.getD_eq_getElem?_getD, h1]
  rfl
theorem tab_ok {K : PySem.W.Frag} {h : Heap} {mg : Str → Option Value} (X : K.In h) (G : h.Ns mainGlobals mg) (hB : tabB K = true) (hg : (He.Fa.glo "Table").ok K = true) (hc : (He.Fa.cls "Table").ok K = true) (hn : ∀ f ∈ tabF, (He.Fa.noat "Table" f).ok K = true) : TabK0 K mg := by
  simp only [tabB, ovB, Bool.and_eq_true, decide_eq_true_eq] at hB
  obtain ⟨h1, h2, h3, h4, h5, h6, h7⟩ := hB
  exact ⟨He.glo_ok X G hg, He.cls_ok hc, fun f hf => He.noat_ok (hn f hf), h1, h2, h3, h4, h5, h6, h7⟩
end Ev

set_option Elab.async false
set_option linter.all false
set_option maxRecDepth 100000
set_option maxHeartbeats 0
namespace Ev
open PySem
/-- is_whole: 0 thing 1 low 2 high -/
def fn_is_whole : Fn := ⟨3, 3, (.cons (.ret (.andL (.cons (.isi .int (.var 0)) (.cons (.not (.isi .bool (.var 0))) (.cons (.chain .le .le (.var 1) (.var 0) (.var 2)) .nil))))) .nil)⟩
/-- is_any_whole: 0 thing -/
def fn_is_any_whole : Fn := ⟨1, 1, (.cons (.ret (.andL (.cons (.isi .int (.var 0)) (.cons (.not (.isi .bool (.var 0))) .nil)))) .nil)⟩
/-- need_hands: 0 hands -/
def fn_need_hands : Fn := ⟨1, 1, (.cons (.ite (.not (.call 0 (.cons (.var 0) (.cons (.int 2) (.cons (.int 4) .nil))))) (.cons (.raise 1) .nil) .nil) .nil)⟩
/-- good_row: 0 hands 1 thing 2 one -/
def fn_good_row : Fn := ⟨2, 3, (.cons (.ret (.andL (.cons (.isi .tuple (.var 1)) (.cons (.chain .le .le (.int 1) (.b1 .len (.var 1)) (.glob (Str.ofString "LONG") (.int 64))) (.cons (.b1 .all (.comp [2] (.one 2) (.seq (.var 1)) .none (.call 0 (.cons (.var 2) (.cons (.int 0) (.cons (.bin .sub (.var 0) (.int 1)) .nil)))))) .nil))))) .nil)⟩
/-- need_row: 0 hands 1 row -/
def fn_need_row : Fn := ⟨2, 2, (.cons (.expr (.call 2 (.cons (.var 0) .nil))) (.cons (.ite (.not (.call 1 (.cons (.var 0) (.cons (.var 1) .nil)))) (.cons (.raise 2) .nil) .nil) .nil))⟩
/-- need_two: 0 hands 1 row 2 one 3 other -/
def fn_need_two : Fn := ⟨4, 4, (.cons (.expr (.call 3 (.cons (.var 0) (.cons (.var 1) .nil)))) (.cons (.ite (.orL (.cons (.not (.call 0 (.cons (.var 2) (.cons (.int 0) (.cons (.bin .sub (.var 0) (.int 1)) .nil))))) (.cons (.not (.call 0 (.cons (.var 3) (.cons (.int 0) (.cons (.bin .sub (.var 0) (.int 1)) .nil))))) (.cons (.cmp .eq (.var 2) (.var 3)) .nil)))) (.cons (.raise 3) .nil) .nil) .nil))⟩
/-- signs_of: 0 row 1 one 2 other 3 hand -/
def fn_signs_of : Fn := ⟨3, 4, (.cons (.ret (.comp [3] (.one 3) (.seq (.var 0)) .none (.bin .sub (.b1 .int (.cmp .eq (.var 3) (.var 1))) (.b1 .int (.cmp .eq (.var 3) (.var 2)))))) .nil)⟩
/-- are_places: 0 row 1 one 2 other -/
def fn_are_places : Fn := ⟨3, 3, (.cons (.ret (.andL (.cons (.call 0 (.cons (.var 1) (.cons (.int 0) (.cons (.bin .sub (.b1 .len (.var 0)) (.int 1)) .nil)))) (.cons (.call 0 (.cons (.var 2) (.cons (.int 0) (.cons (.bin .sub (.b1 .len (.var 0)) (.int 1)) .nil)))) (.cons (.cmp .ne (.var 1) (.var 2)) .nil))))) .nil)⟩
/-- exchange_of: 0 row 1 one 2 other 3 made -/
def fn_exchange_of : Fn := ⟨3, 4, (.cons (.assign 3 (.b1 .list (.var 0))) (.cons (.swap2 3 (.var 1) (.var 2) (.idx (.var 0) (.var 2)) (.idx (.var 0) (.var 1))) (.cons (.ret (.b1 .tuple (.var 3))) .nil)))⟩
/-- differences_of: 0 worths 1 order 2 made 3 turn 4 one 5 later -/
def fn_differences_of : Fn := ⟨2, 6, (.cons (.assign 2 (.b1 .list (.var 0))) (.cons (.for_ (.one 3) (.rng1 (.var 1)) (.cons (.assign 2 (.comp [4, 5] (.many [4, 5]) (.zip (.var 2) (.slice (.var 2) (.some (.int 1)) .none)) .none (.bin .sub (.var 5) (.var 4)))) .nil)) (.cons (.ret (.var 2)) .nil)))⟩
/-- go_on: 0 worths 1 places 2 order 3 made 4 place 5 later 6 step -/
def fn_go_on : Fn := ⟨3, 7, (.cons (.assign 3 (.b1 .list (.var 0))) (.cons (.for_ (.one 4) (.rng2 (.b1 .len (.var 0)) (.var 1)) (.cons (.assign 5 (.callF 20 (.slice (.var 3) (.some (.bin .sub (.b1 .len (.var 3)) (.var 2))) .none) (.cons (.int 0) .nil))) (.cons (.assign 6 (.int 0)) (.cons (.while_ 1000 (.cmp .ne (.var 5) (.lst .nil)) (.cons (.aug 6 (.idx (.var 5) (.neg (.int 1)))) (.cons (.assign 5 (.call 20 (.cons (.var 5) (.cons (.int 1) .nil)))) .nil))) (.cons (.append 3 (.var 6)) .nil))))) (.cons (.ret (.b1 .tuple (.var 3))) .nil)))⟩
/-- need_count: 0 worths 1 order -/
def fn_need_count : Fn := ⟨2, 2, (.cons (.ite (.not (.call 0 (.cons (.var 1) (.cons (.int 1) (.cons (.mm false (.glob (Str.ofString "ORDERS") (.int 4)) (.b1 .len (.var 0))) .nil))))) (.cons (.raise 5) .nil) .nil) .nil)⟩
/-- need_reach: 0 worths 1 order 2 bound -/
def fn_need_reach : Fn := ⟨3, 3, (.cons (.expr (.call 79 (.cons (.var 0) (.cons (.var 1) .nil)))) (.cons (.ite (.not (.call 0 (.cons (.var 2) (.cons (.int 0) (.cons (.glob (Str.ofString "BOUND") (.int 99)) .nil))))) (.cons (.raise 6) .nil) .nil) .nil))⟩
/-- tails_of: 0 numbers 1 order 2 made 3 turn 4 total 5 later 6 one -/
def fn_tails_of : Fn := ⟨2, 7, (.cons (.assign 2 (.b1 .list (.var 0))) (.cons (.for_ (.one 3) (.rng1 (.var 1)) (.cons (.par 4 5 (.int 0) (.lst .nil)) (.cons (.for_ (.one 6) (.seq (.rev (.var 2))) (.cons (.aug 4 (.var 6)) (.cons (.append 5 (.var 4)) .nil))) (.cons (.assign 2 (.rev (.var 5))) .nil)))) (.cons (.ret (.var 2)) .nil)))⟩
/-- foreseen_of: 0 row 1 told 2 one 3 other 4 order 5 bound 6 signs 7 worths 8 lead 9 sign 10 worth 11 far 12 tail -/
def fn_foreseen_of : Fn := ⟨6, 13, (.cons (.assign 6 (.call 4 (.cons (.var 0) (.cons (.var 2) (.cons (.var 3) .nil))))) (.cons (.assign 7 (.call 80 (.cons (.var 1) (.cons (.b1 .len (.var 0)) (.cons (.var 4) .nil))))) (.cons (.assign 8 (.b1 .sum (.comp [9, 10] (.many [9, 10]) (.zip (.var 6) (.var 7)) .none (.bin .mul (.var 9) (.var 10))))) (.cons (.assign 11 (.bin .mul (.var 5) (.b1 .sum (.comp [12] (.one 12) (.seq (.slice (.call 82 (.cons (.var 6) (.cons (.var 4) .nil))) (.some (.b1 .len (.var 1))) .none)) .none (.b1 .abs (.var 12)))))) (.cons (.ret (.tup (.cons (.bin .sub (.var 8) (.var 11)) (.cons (.bin .add (.var 8) (.var 11)) .nil)))) .nil)))))⟩
/-- _law_same_truth: 0 got 1 due -/
def fn_law_same_truth : Fn := ⟨2, 2, (.cons (.ret (.andL (.cons (.isi .bool (.var 0)) (.cons (.cmp .eq (.var 0) (.var 1)) .nil)))) .nil)⟩
/-- _law_ask: 0 what 1 table 2 one 3 two 4 three 5 four 6 e -/
def fn_law_ask__4 : Fn := ⟨6, 7, (.cons (.tryW 6 (.cons (.ite (.cmp .lt (.var 0) (.int 2)) (.cons (.ret (.ite (.cmp .eq (.var 0) (.int 0)) (.meth 126 (Str.ofString "tell") 1 (.cons (.var 2) .nil)) (.meth 127 (Str.ofString "exchange") 1 (.cons (.var 2) (.cons (.var 3) .nil))))) .nil) .nil) (.cons (.ret (.ite (.cmp .eq (.var 0) (.int 2)) (.meth 124 (Str.ofString "back") 1 .nil) (.methK 125 (Str.ofString "foresee") 1 (.cons (.var 2) (.cons (.var 3) (.cons (.var 4) .nil))) (Str.ofString "bound") (.var 5)))) .nil))) .nil)⟩
/-- _law_through: 0 table 1 one 2 other 3 worth 4 again -/
def fn_law_through : Fn := ⟨1, 5, (.cons (.ite (.cmp .ne (.comp [1, 2] (.many [1, 2]) (.seq (.tup (.cons (.tup (.cons (.int 0) (.cons (.int 1) .nil))) (.cons (.tup (.cons (.int 2) (.cons (.int 0) .nil))) .nil)))) .none (.call 105 (.cons (.int 1) (.cons (.var 0) (.cons (.var 1) (.cons (.var 2) (.cons .non (.cons .non .nil)))))))) (.bin .mul (.lst (.cons (.tup (.cons (.str (Str.ofString "refused")) (.cons (.int 11) .nil))) .nil)) (.int 2))) (.cons (.ret (.bl false)) .nil) .nil) (.cons (.ite (.orL (.cons (.isC true .non (.meth 127 (Str.ofString "exchange") 0 (.cons (.int 2) (.cons (.int 1) .nil)))) (.cons (.cmp .ne (.lst (.cons (.meth 126 (Str.ofString "tell") 0 (.cons (.int 8) .nil)) (.cons (.meth 126 (Str.ofString "tell") 0 (.cons (.neg (.int 9)) .nil)) .nil))) (.lst (.cons (.int 1) (.cons (.int 1) .nil)))) (.cons (.cmp .ne (.meth 132 (Str.ofString "worths") 0 .nil) (.lst (.cons (.int 7) (.cons (.int 8) (.cons (.neg (.int 9)) .nil))))) .nil)))) (.cons (.ret (.bl false)) .nil) .nil) (.cons (.ite (.cmp .ne (.comp [1] (.one 1) (.seq (.tup (.cons (.int 1) (.cons .non .nil)))) .none (.call 105 (.cons (.int 0) (.cons (.var 0) (.cons (.var 1) (.cons .non (.cons .non (.cons .non .nil)))))))) (.bin .mul (.lst (.cons (.tup (.cons (.str (Str.ofString "refused")) (.cons (.int 11) .nil))) .nil)) (.int 2))) (.cons (.ret (.bl false)) .nil) .nil) (.cons (.ite (.isC true .non (.meth 131 (Str.ofString "next") 0 .nil)) (.cons (.ret (.bl false)) .nil) .nil) (.cons (.assign 2 (.make 130 (.cons (.int 2) (.cons (.tup (.cons (.int 0) (.cons (.int 1) (.cons (.int 1) .nil)))) .nil)))) (.cons (.ite (.orL (.cons (.not (.call 25 (.cons (.eqM 129 (.var 0) (.var 2)) (.cons (.bl false) .nil)))) (.cons (.not (.call 25 (.cons (.eqM 129 (.var 0) (.str (Str.ofString "abb"))) (.cons (.bl false) .nil)))) .nil))) (.cons (.ret (.bl false)) .nil) .nil) (.cons (.for_ (.one 3) (.seq (.tup (.cons (.int 7) (.cons (.int 8) (.cons (.neg (.int 9)) .nil))))) (.cons (.expr (.meth 126 (Str.ofString "tell") 2 (.cons (.var 3) .nil))) .nil)) (.cons (.ite (.orL (.cons (.not (.call 25 (.cons (.eqM 129 (.var 0) (.var 2)) (.cons (.bl true) .nil)))) (.cons (.not (.call 25 (.cons (.eqM 129 (.make 130 (.cons (.int 3) (.cons (.tup (.cons (.int 0) (.cons (.int 1) .nil))) .nil))) (.make 130 (.cons (.int 2) (.cons (.tup (.cons (.int 0) (.cons (.int 1) .nil))) .nil)))) (.cons (.bl false) .nil)))) .nil))) (.cons (.ret (.bl false)) .nil) .nil) (.cons (.ret (.andL (.cons (.cmp .eq (.comp [4] (.one 4) (.rng1 (.int 4)) .none (.meth 124 (Str.ofString "back") 0 .nil)) (.lst (.cons (.str (Str.ofString "tell")) (.cons (.str (Str.ofString "tell")) (.cons (.str (Str.ofString "exchange")) (.cons (.str (Str.ofString "tell")) .nil)))))) (.cons (.cmp .eq (.meth 128 (Str.ofString "row") 0 .nil) (.tup (.cons (.int 0) (.cons (.int 1) (.cons (.int 1) .nil))))) .nil)))) .nil)))))))))⟩
/-- law: 0 script 1 town 2 table 3 off 4 one 5 other -/
def fn_law25 : Fn := ⟨1, 6, (.cons (.newRef 1) (.cons (.assign 2 (.make 130 (.cons (.int 2) (.cons (.tup (.cons (.int 0) (.cons (.int 1) (.cons (.int 1) .nil)))) .nil)))) (.cons (.ite (.cmp .ne (.call 105 (.cons (.int 2) (.cons (.var 2) (.cons .non (.cons .non (.cons .non (.cons .non .nil))))))) (.tup (.cons (.str (Str.ofString "refused")) (.cons (.int 12) .nil)))) (.cons (.ret (.bl false)) .nil) .nil) (.cons (.for_ (.one 3) (.seq (.lst (.cons .non (.cons (.str (Str.ofString "1")) (.cons (.bl true) (.cons (.lst (.cons (.int 1) .nil)) (.cons (.tup (.cons (.int 1) .nil)) .nil))))))) (.cons (.ite (.cmp .ne (.call 105 (.cons (.int 0) (.cons (.var 2) (.cons (.var 3) (.cons .non (.cons .non (.cons .non .nil))))))) (.tup (.cons (.str (Str.ofString "refused")) (.cons (.int 3) .nil)))) (.cons (.ret (.bl false)) .nil) .nil) .nil)) (.cons (.for_ (.many [4, 5]) (.seq (.lst (.cons (.tup (.cons .non (.cons (.int 0) .nil))) (.cons (.tup (.cons (.int 0) (.cons (.int 0) .nil))) (.cons (.tup (.cons (.int 0) (.cons (.int 3) .nil))) (.cons (.tup (.cons (.neg (.int 1)) (.cons (.int 0) .nil))) (.cons (.tup (.cons (.bl true) (.cons (.int 2) .nil))) (.cons (.tup (.cons (.str (Str.ofString "0")) (.cons (.int 1) .nil))) .nil)))))))) (.cons (.ite (.cmp .ne (.call 105 (.cons (.int 1) (.cons (.var 2) (.cons (.var 4) (.cons (.var 5) (.cons .non (.cons .non .nil))))))) (.tup (.cons (.str (Str.ofString "refused")) (.cons (.int 9) .nil)))) (.cons (.ret (.bl false)) .nil) .nil) .nil)) (.cons (.ite (.orL (.cons (.cmp .ne (.call 105 (.cons (.int 3) (.cons (.var 2) (.cons (.int 0) (.cons (.int 1) (.cons (.int 1) (.cons (.int 1) .nil))))))) (.tup (.cons (.str (Str.ofString "refused")) (.cons (.int 4) .nil)))) (.cons (.cmp .ne (.meth 126 (Str.ofString "tell") 2 (.cons (.int 7) .nil)) (.int 0)) .nil))) (.cons (.ret (.bl false)) .nil) .nil) (.cons (.for_ (.many [4, 5]) (.seq (.lst (.cons (.tup (.cons .non (.cons (.int 0) .nil))) (.cons (.tup (.cons (.int 0) (.cons (.int 0) .nil))) (.cons (.tup (.cons (.int 0) (.cons (.int 2) .nil))) (.cons (.tup (.cons (.bl true) (.cons (.int 0) .nil))) .nil)))))) (.cons (.ite (.cmp .ne (.call 105 (.cons (.int 3) (.cons (.var 2) (.cons (.var 4) (.cons (.var 5) (.cons .non (.cons .non .nil))))))) (.tup (.cons (.str (Str.ofString "refused")) (.cons (.int 2) .nil)))) (.cons (.ret (.bl false)) .nil) .nil) .nil)) (.cons (.for_ (.one 3) (.seq (.lst (.cons .non (.cons (.int 0) (.cons (.int 2) (.cons (.int 5) (.cons (.bl true) .nil))))))) (.cons (.ite (.cmp .ne (.call 105 (.cons (.int 3) (.cons (.var 2) (.cons (.int 0) (.cons (.int 1) (.cons (.var 3) (.cons .non .nil))))))) (.tup (.cons (.str (Str.ofString "refused")) (.cons (.int 4) .nil)))) (.cons (.ret (.bl false)) .nil) .nil) .nil)) (.cons (.for_ (.one 3) (.seq (.lst (.cons .non (.cons (.neg (.int 1)) (.cons (.int 100) (.cons (.bl true) .nil)))))) (.cons (.ite (.cmp .ne (.call 105 (.cons (.int 3) (.cons (.var 2) (.cons (.int 0) (.cons (.int 1) (.cons (.int 1) (.cons (.var 3) .nil))))))) (.tup (.cons (.str (Str.ofString "refused")) (.cons (.int 5) .nil)))) (.cons (.ret (.bl false)) .nil) .nil) .nil)) (.cons (.ret (.call 104 (.cons (.var 2) .nil))) .nil))))))))))⟩
/-- Table.__init__: 0 self 1 hands 2 row -/
def fn_Table___init__ : Fn := ⟨3, 3, (.cons (.expr (.call 3 (.cons (.var 1) (.cons (.var 2) .nil)))) (.cons (.setF 0 (Str.ofString "hands") (.var 1)) (.cons (.setF 0 (Str.ofString "how") (.tup (.cons (.var 2) (.cons (.tup .nil) .nil)))) (.cons (.newF 0 (Str.ofString "past")) (.cons (.newF 0 (Str.ofString "calls")) .nil)))))⟩
/-- Table.call: 0 self 1 name 2 how -/
def fn_Table_call : Fn := ⟨3, 3, (.cons (.appF 0 (Str.ofString "past") (.fld 0 (Str.ofString "how"))) (.cons (.appF 0 (Str.ofString "calls") (.var 1)) (.cons (.setF 0 (Str.ofString "how") (.var 2)) .nil)))⟩
/-- Table.tell: 0 self 1 worth 2 row 3 told -/
def fn_Table_tell : Fn := ⟨2, 4, (.cons (.unpack [2, 3] (.fld 0 (Str.ofString "how"))) (.cons (.ite (.cmp .eq (.b1 .len (.var 3)) (.b1 .len (.var 2))) (.cons (.raise 12) .nil) .nil) (.cons (.ite (.not (.call 6 (.cons (.var 1) .nil))) (.cons (.raise 4) .nil) .nil) (.cons (.expr (.meth 133 (Str.ofString "call") 0 (.cons (.str (Str.ofString "tell")) (.cons (.tup (.cons (.var 2) (.cons (.bin .add (.var 3) (.tup (.cons (.var 1) .nil))) .nil))) .nil)))) (.cons (.ret (.idx (.var 2) (.b1 .len (.var 3)))) .nil)))))⟩
/-- Table.exchange: 0 self 1 one 2 other 3 row 4 told -/
def fn_Table_exchange__1 : Fn := ⟨3, 5, (.cons (.unpack [3, 4] (.fld 0 (Str.ofString "how"))) (.cons (.ite (.not (.call 68 (.cons (.var 3) (.cons (.var 1) (.cons (.var 2) .nil))))) (.cons (.raise 10) .nil) .nil) (.cons (.ite (.cmp .lt (.mm false (.var 1) (.var 2)) (.b1 .len (.var 4))) (.cons (.raise 12) .nil) .nil) (.cons (.expr (.meth 133 (Str.ofString "call") 0 (.cons (.str (Str.ofString "exchange")) (.cons (.tup (.cons (.call 67 (.cons (.var 3) (.cons (.var 1) (.cons (.var 2) .nil)))) (.cons (.var 4) .nil))) .nil)))) .nil))))⟩
/-- Table.totals: 0 self -/
def fn_Table_totals__2 : Fn := ⟨1, 1, (.cons (.expr (.call 134 (.cons (.int 0) .nil))) .nil)⟩
/-- Table.worths: 0 self -/
def fn_Table_worths : Fn := ⟨1, 1, (.cons (.ret (.b1 .list (.idx (.fld 0 (Str.ofString "how")) (.int 1)))) .nil)⟩
/-- Table.row: 0 self -/
def fn_Table_row : Fn := ⟨1, 1, (.cons (.ret (.idx (.fld 0 (Str.ofString "how")) (.int 0))) .nil)⟩
/-- Table.next: 0 self 1 row 2 told -/
def fn_Table_next__2 : Fn := ⟨1, 3, (.cons (.unpack [1, 2] (.fld 0 (Str.ofString "how"))) (.cons (.ret (.ite (.cmp .lt (.b1 .len (.var 2)) (.b1 .len (.var 1))) (.idx (.var 1) (.b1 .len (.var 2))) .non)) .nil))⟩
/-- Table.most: 0 self -/
def fn_Table_most__2 : Fn := ⟨1, 1, (.cons (.expr (.call 134 (.cons (.int 1) .nil))) .nil)⟩
/-- Table.foresee: 0 self 1 one 2 other 3 order 4 bound 5 row 6 told -/
def fn_Table_foresee : Fn := ⟨5, 7, (.cons (.unpack [5, 6] (.fld 0 (Str.ofString "how"))) (.cons (.expr (.call 5 (.cons (.fld 0 (Str.ofString "hands")) (.cons (.var 5) (.cons (.var 1) (.cons (.var 2) .nil)))))) (.cons (.expr (.call 81 (.cons (.var 6) (.cons (.var 3) (.cons (.var 4) .nil))))) (.cons (.ret (.call 83 (.cons (.var 5) (.cons (.var 6) (.cons (.var 1) (.cons (.var 2) (.cons (.var 3) (.cons (.var 4) .nil)))))))) .nil))))⟩
/-- Table.back: 0 self -/
def fn_Table_back__1 : Fn := ⟨1, 1, (.cons (.ite (.nilF 0 (Str.ofString "past")) (.cons (.raise 13) .nil) .nil) (.cons (.setF 0 (Str.ofString "how") (.popF 0 (Str.ofString "past"))) (.cons (.ret (.popF 0 (Str.ofString "calls"))) .nil)))⟩
/-- Table.twin: 0 self -/
def fn_Table_twin__1 : Fn := ⟨1, 1, (.cons (.expr (.call 134 (.cons (.int 2) .nil))) .nil)⟩
/-- Table.__eq__: 0 self 1 other -/
def fn_Table___eq__ : Fn := ⟨2, 2, (.cons (.ret (.andL (.cons (.isiT (.var 1)) (.cons (.cmp .eq (.fld 0 (Str.ofString "hands")) (.fld 1 (Str.ofString "hands"))) (.cons (.cmp .eq (.fld 0 (Str.ofString "how")) (.fld 1 (Str.ofString "how"))) .nil))))) .nil)⟩
/-- Table.__len__: 0 self -/
def fn_Table___len__ : Fn := ⟨1, 1, (.cons (.ret (.b1 .len (.idx (.fld 0 (Str.ofString "how")) (.int 1)))) .nil)⟩
def tbl : Nat → Option Fn
  | 0 => some fn_is_whole
  | 1 => some fn_good_row
  | 2 => some fn_need_hands
  | 3 => some fn_need_row
  | 4 => some fn_signs_of
  | 5 => some fn_need_two
  | 6 => some fn_is_any_whole
  | 20 => some fn_differences_of
  | 25 => some fn_law_same_truth
  | 67 => some fn_exchange_of
  | 68 => some fn_are_places
  | 79 => some fn_need_count
  | 80 => some fn_go_on
  | 81 => some fn_need_reach
  | 82 => some fn_tails_of
  | 83 => some fn_foreseen_of
  | 104 => some fn_law_through
  | 105 => some fn_law_ask__4
  | 124 => some fn_Table_back__1
  | 125 => some fn_Table_foresee
  | 126 => some fn_Table_tell
  | 127 => some fn_Table_exchange__1
  | 128 => some fn_Table_row
  | 129 => some fn_Table___eq__
  | 130 => some fn_Table___init__
  | 131 => some fn_Table_next__2
  | 132 => some fn_Table_worths
  | 133 => some fn_Table_call
  | 135 => some fn_Table_totals__2
  | 136 => some fn_Table_most__2
  | 137 => some fn_Table_twin__1
  | 138 => some fn_Table___len__
  | 925 => some fn_law25
  | _ => none
theorem c_is_whole {S : List Int} {n : Nat} {ds : List D} : callN tbl S (n + 1) 0 ds = runFn S (callN tbl S n) fn_is_whole ds := rfl
theorem c_good_row {S : List Int} {n : Nat} {ds : List D} : callN tbl S (n + 1) 1 ds = runFn S (callN tbl S n) fn_good_row ds := rfl
theorem c_need_hands {S : List Int} {n : Nat} {ds : List D} : callN tbl S (n + 1) 2 ds = runFn S (callN tbl S n) fn_need_hands ds := rfl
theorem c_need_row {S : List Int} {n : Nat} {ds : List D} : callN tbl S (n + 1) 3 ds = runFn S (callN tbl S n) fn_need_row ds := rfl
theorem c_signs_of {S : List Int} {n : Nat} {ds : List D} : callN tbl S (n + 1) 4 ds = runFn S (callN tbl S n) fn_signs_of ds := rfl
theorem c_need_two {S : List Int} {n : Nat} {ds : List D} : callN tbl S (n + 1) 5 ds = runFn S (callN tbl S n) fn_need_two ds := rfl
theorem c_is_any_whole {S : List Int} {n : Nat} {ds : List D} : callN tbl S (n + 1) 6 ds = runFn S (callN tbl S n) fn_is_any_whole ds := rfl
theorem c_differences_of {S : List Int} {n : Nat} {ds : List D} : callN tbl S (n + 1) 20 ds = runFn S (callN tbl S n) fn_differences_of ds := rfl
theorem c_law_same_truth {S : List Int} {n : Nat} {ds : List D} : callN tbl S (n + 1) 25 ds = runFn S (callN tbl S n) fn_law_same_truth ds := rfl
theorem c_exchange_of {S : List Int} {n : Nat} {ds : List D} : callN tbl S (n + 1) 67 ds = runFn S (callN tbl S n) fn_exchange_of ds := rfl
theorem c_are_places {S : List Int} {n : Nat} {ds : List D} : callN tbl S (n + 1) 68 ds = runFn S (callN tbl S n) fn_are_places ds := rfl
theorem c_need_count {S : List Int} {n : Nat} {ds : List D} : callN tbl S (n + 1) 79 ds = runFn S (callN tbl S n) fn_need_count ds := rfl
theorem c_go_on {S : List Int} {n : Nat} {ds : List D} : callN tbl S (n + 1) 80 ds = runFn S (callN tbl S n) fn_go_on ds := rfl
theorem c_need_reach {S : List Int} {n : Nat} {ds : List D} : callN tbl S (n + 1) 81 ds = runFn S (callN tbl S n) fn_need_reach ds := rfl
theorem c_tails_of {S : List Int} {n : Nat} {ds : List D} : callN tbl S (n + 1) 82 ds = runFn S (callN tbl S n) fn_tails_of ds := rfl
theorem c_foreseen_of {S : List Int} {n : Nat} {ds : List D} : callN tbl S (n + 1) 83 ds = runFn S (callN tbl S n) fn_foreseen_of ds := rfl
theorem c_law_through {S : List Int} {n : Nat} {ds : List D} : callN tbl S (n + 1) 104 ds = runFn S (callN tbl S n) fn_law_through ds := rfl
theorem c_law_ask__4 {S : List Int} {n : Nat} {ds : List D} : callN tbl S (n + 1) 105 ds = runFn S (callN tbl S n) fn_law_ask__4 ds := rfl
theorem c_Table_back__1 {S : List Int} {n : Nat} {ds : List D} : callN tbl S (n + 1) 124 ds = runFn S (callN tbl S n) fn_Table_back__1 ds := rfl
theorem c_Table_foresee {S : List Int} {n : Nat} {ds : List D} : callN tbl S (n + 1) 125 ds = runFn S (callN tbl S n) fn_Table_foresee ds := rfl
theorem c_Table_tell {S : List Int} {n : Nat} {ds : List D} : callN tbl S (n + 1) 126 ds = runFn S (callN tbl S n) fn_Table_tell ds := rfl
theorem c_Table_exchange__1 {S : List Int} {n : Nat} {ds : List D} : callN tbl S (n + 1) 127 ds = runFn S (callN tbl S n) fn_Table_exchange__1 ds := rfl
theorem c_Table_row {S : List Int} {n : Nat} {ds : List D} : callN tbl S (n + 1) 128 ds = runFn S (callN tbl S n) fn_Table_row ds := rfl
theorem c_Table___eq__ {S : List Int} {n : Nat} {ds : List D} : callN tbl S (n + 1) 129 ds = runFn S (callN tbl S n) fn_Table___eq__ ds := rfl
theorem c_Table___init__ {S : List Int} {n : Nat} {ds : List D} : callN tbl S (n + 1) 130 ds = runFn S (callN tbl S n) fn_Table___init__ ds := rfl
theorem c_Table_next__2 {S : List Int} {n : Nat} {ds : List D} : callN tbl S (n + 1) 131 ds = runFn S (callN tbl S n) fn_Table_next__2 ds := rfl
theorem c_Table_worths {S : List Int} {n : Nat} {ds : List D} : callN tbl S (n + 1) 132 ds = runFn S (callN tbl S n) fn_Table_worths ds := rfl
theorem c_Table_call {S : List Int} {n : Nat} {ds : List D} : callN tbl S (n + 1) 133 ds = runFn S (callN tbl S n) fn_Table_call ds := rfl
theorem c_Table_totals__2 {S : List Int} {n : Nat} {ds : List D} : callN tbl S (n + 1) 135 ds = runFn S (callN tbl S n) fn_Table_totals__2 ds := rfl
theorem c_Table_most__2 {S : List Int} {n : Nat} {ds : List D} : callN tbl S (n + 1) 136 ds = runFn S (callN tbl S n) fn_Table_most__2 ds := rfl
theorem c_Table_twin__1 {S : List Int} {n : Nat} {ds : List D} : callN tbl S (n + 1) 137 ds = runFn S (callN tbl S n) fn_Table_twin__1 ds := rfl
theorem c_Table___len__ {S : List Int} {n : Nat} {ds : List D} : callN tbl S (n + 1) 138 ds = runFn S (callN tbl S n) fn_Table___len__ ds := rfl
theorem c_law25 {S : List Int} {n : Nat} {ds : List D} : callN tbl S (n + 1) 925 ds = runFn S (callN tbl S n) fn_law25 ds := rfl
end Ev

set_option Elab.async false
set_option linter.all false
set_option maxRecDepth 100000
set_option maxHeartbeats 0
namespace Ev.K25
open PySem PySem.Spec L2 PyProof.Rows
def P : PCtx := { fns := (fds.filter nmt).map inf, gls := [("LONG", .int 64), ("ORDERS", .int 4), ("BOUND", .int 99)], blt := ["isinstance", "int", "bool", "tuple", "all", "len", "list", "range", "zip", "min", "sum", "abs", "ValueError"], dcts := dcts, tab := true, meths := (fds.filter FDef.mt).map inf, ini := some (130, 3) }
def Y : XCtx := { nf := [0, 6, 1, 4, 68, 67, 20, 80, 82, 83, 25, 105, 133, 132, 128, 131, 129], xfns := (fds.filter kxF).map inf, excs := [("NoHands", 1), ("NoRow", 2), ("NoHand", 3), ("NoOrder", 5), ("NoBound", 6), ("Done", 12), ("NoWorths", 4), ("NoPlaces", 10), ("Nothing", 13)], wh := true, xmeths := (fds.filter kxM).map inf, xini := none }
theorem ck : fds.all (ckFn P Y tbl) = true := by decide +kernel
theorem cn : ckNe Y tbl = true := by decide +kernel
theorem b_which : BindEq d_which := fun _ _ _ _ _ _ us hl => match us, hl with | [_], _ => rfl
theorem b_is_whole : BindEq d_is_whole := fun _ _ _ _ _ _ us hl => match us, hl with | [_, _, _], _ => rfl
theorem b_is_any_whole : BindEq d_is_any_whole := fun _ _ _ _ _ _ us hl => match us, hl with | [_], _ => rfl
theorem b_need_hands : BindEq d_need_hands := fun _ _ _ _ _ _ us hl => match us, hl with | [_], _ => rfl
theorem b_good_row : BindEq d_good_row := fun _ _ _ _ _ _ us hl => match us, hl with | [_, _], _ => rfl
theorem b_need_row : BindEq d_need_row := fun _ _ _ _ _ _ us hl => match us, hl with | [_, _], _ => rfl
theorem b_need_two : BindEq d_need_two := fun _ _ _ _ _ _ us hl => match us, hl with | [_, _, _, _], _ => rfl
theorem b_signs_of : BindEq d_signs_of := fun _ _ _ _ _ _ us hl => match us, hl with | [_, _, _], _ => rfl
theorem b_are_places : BindEq d_are_places := fun _ _ _ _ _ _ us hl => match us, hl with | [_, _, _], _ => rfl
theorem b_exchange_of : BindEq d_exchange_of := fun _ _ _ _ _ _ us hl => match us, hl with | [_, _, _], _ => rfl
theorem b_differences_of : BindEq d_differences_of := fun _ _ _ _ _ _ us hl => match us, hl with | [_, _], _ => rfl
theorem b_go_on : BindEq d_go_on := fun _ _ _ _ _ _ us hl => match us, hl with | [_, _, _], _ => rfl
theorem b_need_count : BindEq d_need_count := fun _ _ _ _ _ _ us hl => match us, hl with | [_, _], _ => rfl
theorem b_need_reach : BindEq d_need_reach := fun _ _ _ _ _ _ us hl => match us, hl with | [_, _, _], _ => rfl
theorem b_tails_of : BindEq d_tails_of := fun _ _ _ _ _ _ us hl => match us, hl with | [_, _], _ => rfl
theorem b_foreseen_of : BindEq d_foreseen_of := fun _ _ _ _ _ _ us hl => match us, hl with | [_, _, _, _, _, _], _ => rfl
theorem b_law_same_truth : BindEq d_law_same_truth := fun _ _ _ _ _ _ us hl => match us, hl with | [_, _], _ => rfl
theorem b_law_ask : BindEq d_law_ask := fun _ _ _ _ _ _ us hl => match us, hl with | [_, _, _, _, _, _], _ => rfl
theorem b_law_through : BindEq d_law_through := fun _ _ _ _ _ _ us hl => match us, hl with | [_], _ => rfl
theorem b_law : BindEq d_law := fun _ _ _ _ _ _ us hl => match us, hl with | [_], _ => rfl
theorem b_Table___init__ : BindEq d_Table___init__ := fun _ _ _ _ _ _ us hl => match us, hl with | [_, _, _], _ => rfl
theorem b_Table_call : BindEq d_Table_call := fun _ _ _ _ _ _ us hl => match us, hl with | [_, _, _], _ => rfl
theorem b_Table_tell : BindEq d_Table_tell := fun _ _ _ _ _ _ us hl => match us, hl with | [_, _], _ => rfl
theorem b_Table_exchange : BindEq d_Table_exchange := fun _ _ _ _ _ _ us hl => match us, hl with | [_, _, _], _ => rfl
theorem b_Table_worths : BindEq d_Table_worths := fun _ _ _ _ _ _ us hl => match us, hl with | [_], _ => rfl
theorem b_Table_row : BindEq d_Table_row := fun _ _ _ _ _ _ us hl => match us, hl with | [_], _ => rfl
theorem b_Table_next : BindEq d_Table_next := fun _ _ _ _ _ _ us hl => match us, hl with | [_], _ => rfl
theorem b_Table_foresee : BindEq d_Table_foresee := ⟨by simp [d_Table_foresee], fun D _ _ _ _ _ us ks h1 h2 => match us, ks, h1, h2 with | [_, _, _, _], [_], _, _ => ⟨_, _, _, _, _, _, rfl, rfl, rfl⟩, fun D _ _ _ _ _ us ws h1 h2 => match us, ws, h1, h2 with | [_, _, _, _], [_], _, _ => rfl⟩
theorem b_Table_back : BindEq d_Table_back := fun _ _ _ _ _ _ us hl => match us, hl with | [_], _ => rfl
theorem b_Table___eq__ : BindEq d_Table___eq__ := fun _ _ _ _ _ _ us hl => match us, hl with | [_, _], _ => rfl
theorem binds : ∀ d ∈ fds, BindEq d := List.forall_mem_cons.mpr ⟨b_is_whole, List.forall_mem_cons.mpr ⟨b_is_any_whole, List.forall_mem_cons.mpr ⟨b_need_hands, List.forall_mem_cons.mpr ⟨b_good_row, List.forall_mem_cons.mpr ⟨b_need_row, List.forall_mem_cons.mpr ⟨b_need_two, List.forall_mem_cons.mpr ⟨b_signs_of, List.forall_mem_cons.mpr ⟨b_are_places, List.forall_mem_cons.mpr ⟨b_exchange_of, List.forall_mem_cons.mpr ⟨b_differences_of, List.forall_mem_cons.mpr ⟨b_go_on, List.forall_mem_cons.mpr ⟨b_need_count, List.forall_mem_cons.mpr ⟨b_need_reach, List.forall_mem_cons.mpr ⟨b_tails_of, List.forall_mem_cons.mpr ⟨b_foreseen_of, List.forall_mem_cons.mpr ⟨b_law_same_truth, List.forall_mem_cons.mpr ⟨b_law_ask, List.forall_mem_cons.mpr ⟨b_law_through, List.forall_mem_cons.mpr ⟨b_law, List.forall_mem_cons.mpr ⟨b_Table___init__, List.forall_mem_cons.mpr ⟨b_Table_call, List.forall_mem_cons.mpr ⟨b_Table_tell, List.forall_mem_cons.mpr ⟨b_Table_exchange, List.forall_mem_cons.mpr ⟨b_Table_worths, List.forall_mem_cons.mpr ⟨b_Table_row, List.forall_mem_cons.mpr ⟨b_Table_next, List.forall_mem_cons.mpr ⟨b_Table_foresee, List.forall_mem_cons.mpr ⟨b_Table_back, List.forall_mem_cons.mpr ⟨b_Table___eq__, fun _ h => nomatch h⟩⟩⟩⟩⟩⟩⟩⟩⟩⟩⟩⟩⟩⟩⟩⟩⟩⟩⟩⟩⟩⟩⟩⟩⟩⟩⟩⟩⟩
end Ev.K25
set_option Elab.async false
set_option linter.all false
set_option maxRecDepth 100000
set_option maxHeartbeats 0
namespace Ev
open PySem PySem.Spec L2 PyProof.Rows
def okTrue : R D → Bool
  | .ok (.bl true) _ => true
  | _ => false
theorem okTrue_ok {r : R D} (h : okTrue r = true) : ∃ μ, r = .ok (.bl true) μ := by
  unfold okTrue at h
  split at h
  · exact ⟨_, rfl⟩
  · cases h
theorem res25 (S : List Int) : okTrue (callN tbl S 14 925 [.scr] []) = true := by kernel_rfl
theorem main25 {S : List Int} (_h : S.length ≤ 63) : ∃ μ, callN tbl S 14 925 [.scr] [] = .ok (.bl true) μ := okTrue_ok (res25 S)
end Ev

set_option Elab.async false
set_option linter.all false
set_option maxRecDepth 100000
set_option maxHeartbeats 0
namespace Ev.K25
open PySem PySem.Spec L2 PyProof.Rows
theorem main : ∀ S : List Int, S.length ≤ 63 → ∃ μ, callN tbl S 14 925 [.scr] [] = .ok (.bl true) μ := fun _ h => main25 h
theorem facts {Pg : Program} {w : World} {K : PySem.W.Frag} {h : Heap} {mg : Str → Option Value} {f : Addr} (X : K.In h) (G : h.Ns mainGlobals mg) (hfa : mg ("law" : Str) = some (.ref f)) (c : He.SaysD fa fn K) (cb : lookB K = true) :
    ∃ fd : FuncData, (∀ (s : Shared) (v : Value), BindsTo s fd ⟨[v], []⟩ [("script", v)]) ∧ ∀ base : Heap, K.In base → base.Ns mainGlobals mg → FnOk Pg w K mg base CX0 47 f fd ["script"] (spF K (fun S => callN tbl S 14) 925 1) := by
  have hF : ∀ d ∈ fds, ∃ fa fd, FnP K d fa fd ∧ Stands K mg d fa := by
    exact List.forall_mem_cons.mpr ⟨(c.def_ 0 (d := d_is_whole.dd) rfl).elim fun fd F => ⟨_, fd, F, stands_f rfl (He.glo_ok X G (c.fact 0 (f := .glo "is_whole") rfl))⟩, List.forall_mem_cons.mpr ⟨(c.def_ 1 (d := d_is_any_whole.dd) rfl).elim fun fd F => ⟨_, fd, F, stands_f rfl (He.glo_ok X G (c.fact 1 (f := .glo "is_any_whole") rfl))⟩, List.forall_mem_cons.mpr ⟨(c.def_ 2 (d := d_need_hands.dd) rfl).elim fun fd F => ⟨_, fd, F, stands_f rfl (He.glo_ok X G (c.fact 2 (f := .glo "need_hands") rfl))⟩, List.forall_mem_cons.mpr ⟨(c.def_ 3 (d := d_good_row.dd) rfl).elim fun fd F => ⟨_, fd, F, stands_f rfl (He.glo_ok X G (c.fact 3 (f := .glo "good_row") rfl))⟩, List.forall_mem_cons.mpr ⟨(c.def_ 4 (d := d_need_row.dd) rfl).elim fun fd F => ⟨_, fd, F, stands_f rfl (He.glo_ok X G (c.fact 4 (f := .glo "need_row") rfl))⟩, List.forall_mem_cons.mpr ⟨(c.def_ 5 (d := d_need_two.dd) rfl).elim fun fd F => ⟨_, fd, F, stands_f rfl (He.glo_ok X G (c.fact 5 (f := .glo "need_two") rfl))⟩, List.forall_mem_cons.mpr ⟨(c.def_ 6 (d := d_signs_of.dd) rfl).elim fun fd F => ⟨_, fd, F, stands_f rfl (He.glo_ok X G (c.fact 6 (f := .glo "signs_of") rfl))⟩, List.forall_mem_cons.mpr ⟨(c.def_ 7 (d := d_are_places.dd) rfl).elim fun fd F => ⟨_, fd, F, stands_f rfl (He.glo_ok X G (c.fact 7 (f := .glo "are_places") rfl))⟩, List.forall_mem_cons.mpr ⟨(c.def_ 8 (d := d_exchange_of.dd) rfl).elim fun fd F => ⟨_, fd, F, stands_f rfl (He.glo_ok X G (c.fact 8 (f := .glo "exchange_of") rfl))⟩, List.forall_mem_cons.mpr ⟨(c.def_ 9 (d := d_differences_of.dd) rfl).elim fun fd F => ⟨_, fd, F, stands_f rfl (He.glo_ok X G (c.fact 9 (f := .glo "differences_of") rfl))⟩, List.forall_mem_cons.mpr ⟨(c.def_ 10 (d := d_go_on.dd) rfl).elim fun fd F => ⟨_, fd, F, stands_f rfl (He.glo_ok X G (c.fact 10 (f := .glo "go_on") rfl))⟩, List.forall_mem_cons.mpr ⟨(c.def_ 11 (d := d_need_count.dd) rfl).elim fun fd F => ⟨_, fd, F, stands_f rfl (He.glo_ok X G (c.fact 11 (f := .glo "need_count") rfl))⟩, List.forall_mem_cons.mpr ⟨(c.def_ 12 (d := d_need_reach.dd) rfl).elim fun fd F => ⟨_, fd, F, stands_f rfl (He.glo_ok X G (c.fact 12 (f := .glo "need_reach") rfl))⟩, List.forall_mem_cons.mpr ⟨(c.def_ 13 (d := d_tails_of.dd) rfl).elim fun fd F => ⟨_, fd, F, stands_f rfl (He.glo_ok X G (c.fact 13 (f := .glo "tails_of") rfl))⟩, List.forall_mem_cons.mpr ⟨(c.def_ 14 (d := d_foreseen_of.dd) rfl).elim fun fd F => ⟨_, fd, F, stands_f rfl (He.glo_ok X G (c.fact 14 (f := .glo "foreseen_of") rfl))⟩, List.forall_mem_cons.mpr ⟨(c.def_ 15 (d := d_law_same_truth.dd) rfl).elim fun fd F => ⟨_, fd, F, stands_f rfl (He.glo_ok X G (c.fact 15 (f := .glo "_law_same_truth") rfl))⟩, List.forall_mem_cons.mpr ⟨(c.def_ 16 (d := d_law_ask.dd) rfl).elim fun fd F => ⟨_, fd, F, stands_f rfl (He.glo_ok X G (c.fact 16 (f := .glo "_law_ask") rfl))⟩, List.forall_mem_cons.mpr ⟨(c.def_ 17 (d := d_law_through.dd) rfl).elim fun fd F => ⟨_, fd, F, stands_f rfl (He.glo_ok X G (c.fact 17 (f := .glo "_law_through") rfl))⟩, List.forall_mem_cons.mpr ⟨(c.def_ 18 (d := d_law.dd) rfl).elim fun fd F => ⟨_, fd, F, stands_f rfl (He.glo_ok X G (c.fact 18 (f := .glo "law") rfl))⟩, List.forall_mem_cons.mpr ⟨(c.def_ 19 (d := d_Table___init__.dd) rfl).elim fun fd F => ⟨_, fd, F, stands_m rfl (He.meth_ok (c.fact 19 (f := .meth "Table" "__init__") rfl))⟩, List.forall_mem_cons.mpr ⟨(c.def_ 20 (d := d_Table_call.dd) rfl).elim fun fd F => ⟨_, fd, F, stands_m rfl (He.meth_ok (c.fact 20 (f := .meth "Table" "call") rfl))⟩, List.forall_mem_cons.mpr ⟨(c.def_ 21 (d := d_Table_tell.dd) rfl).elim fun fd F => ⟨_, fd, F, stands_m rfl (He.meth_ok (c.fact 21 (f := .meth "Table" "tell") rfl))⟩, List.forall_mem_cons.mpr ⟨(c.def_ 22 (d := d_Table_exchange.dd) rfl).elim fun fd F => ⟨_, fd, F, stands_m rfl (He.meth_ok (c.fact 22 (f := .meth "Table" "exchange") rfl))⟩, List.forall_mem_cons.mpr ⟨(c.def_ 23 (d := d_Table_worths.dd) rfl).elim fun fd F => ⟨_, fd, F, stands_m rfl (He.meth_ok (c.fact 23 (f := .meth "Table" "worths") rfl))⟩, List.forall_mem_cons.mpr ⟨(c.def_ 24 (d := d_Table_row.dd) rfl).elim fun fd F => ⟨_, fd, F, stands_m rfl (He.meth_ok (c.fact 24 (f := .meth "Table" "row") rfl))⟩, List.forall_mem_cons.mpr ⟨(c.def_ 25 (d := d_Table_next.dd) rfl).elim fun fd F => ⟨_, fd, F, stands_m rfl (He.meth_ok (c.fact 25 (f := .meth "Table" "next") rfl))⟩, List.forall_mem_cons.mpr ⟨(c.def_ 26 (d := d_Table_foresee.dd) rfl).elim fun fd F => ⟨_, fd, F, stands_m rfl (He.meth_ok (c.fact 26 (f := .meth "Table" "foresee") rfl))⟩, List.forall_mem_cons.mpr ⟨(c.def_ 27 (d := d_Table_back.dd) rfl).elim fun fd F => ⟨_, fd, F, stands_m rfl (He.meth_ok (c.fact 27 (f := .meth "Table" "back") rfl))⟩, List.forall_mem_cons.mpr ⟨(c.def_ 28 (d := d_Table___eq__.dd) rfl).elim fun fd F => ⟨_, fd, F, stands_m rfl (He.meth_ok (c.fact 28 (f := .meth "Table" "__eq__") rfl))⟩, fun _ h => nomatch h⟩⟩⟩⟩⟩⟩⟩⟩⟩⟩⟩⟩⟩⟩⟩⟩⟩⟩⟩⟩⟩⟩⟩⟩⟩⟩⟩⟩⟩
  have hblt : ∀ x ∈ P.blt, mg x = none := by
    exact List.forall_mem_cons.mpr ⟨He.free_ok X G (c.fact 29 (f := .free "isinstance") rfl), List.forall_mem_cons.mpr ⟨He.free_ok X G (c.fact 30 (f := .free "int") rfl), List.forall_mem_cons.mpr ⟨He.free_ok X G (c.fact 31 (f := .free "bool") rfl), List.forall_mem_cons.mpr ⟨He.free_ok X G (c.fact 32 (f := .free "tuple") rfl), List.forall_mem_cons.mpr ⟨He.free_ok X G (c.fact 33 (f := .free "all") rfl), List.forall_mem_cons.mpr ⟨He.free_ok X G (c.fact 34 (f := .free "len") rfl), List.forall_mem_cons.mpr ⟨He.free_ok X G (c.fact 35 (f := .free "list") rfl), List.forall_mem_cons.mpr ⟨He.free_ok X G (c.fact 36 (f := .free "range") rfl), List.forall_mem_cons.mpr ⟨He.free_ok X G (c.fact 37 (f := .free "zip") rfl), List.forall_mem_cons.mpr ⟨He.free_ok X G (c.fact 38 (f := .free "min") rfl), List.forall_mem_cons.mpr ⟨He.free_ok X G (c.fact 39 (f := .free "sum") rfl), List.forall_mem_cons.mpr ⟨He.free_ok X G (c.fact 40 (f := .free "abs") rfl), List.forall_mem_cons.mpr ⟨He.free_ok X G (c.fact 41 (f := .free "ValueError") rfl), fun _ h => nomatch h⟩⟩⟩⟩⟩⟩⟩⟩⟩⟩⟩⟩⟩
  have hgls : ∀ q ∈ P.gls, q.2.sc = true ∧ ∃ u v, mg q.1 = some u ∧ RelV v u ∧ ∀ sa ph A H, Rep sa ph A H v q.2 := by
    exact List.forall_mem_cons.mpr ⟨⟨rfl, (He.int_ok X G (c.fact 42 (f := .int "LONG" 64) rfl)).elim fun t e => ⟨_, .int 64, e, ⟨t, rfl⟩, fun _ _ _ _ => .int _⟩⟩, List.forall_mem_cons.mpr ⟨⟨rfl, (He.int_ok X G (c.fact 43 (f := .int "ORDERS" 4) rfl)).elim fun t e => ⟨_, .int 4, e, ⟨t, rfl⟩, fun _ _ _ _ => .int _⟩⟩, List.forall_mem_cons.mpr ⟨⟨rfl, (He.int_ok X G (c.fact 44 (f := .int "BOUND" 99) rfl)).elim fun t e => ⟨_, .int 99, e, ⟨t, rfl⟩, fun _ _ _ _ => .int _⟩⟩, fun _ h => nomatch h⟩⟩⟩
  have hdct : ∀ x kvs, P.dcts.lookup x = some kvs → ∃ a, mg x = some (.ref a) ∧ KDI K a kvs := by
    exact dcts_ok X G (and2 cb).1 (fun _ h => nomatch h)
  have hexc := excs_ok (ds := Y.excs) X G (List.forall_mem_cons.mpr ⟨⟨rfl, c.fact 45 (f := .glo "NoHands") rfl, c.fact 46 (f := .exc "NoHands") rfl⟩, List.forall_mem_cons.mpr ⟨⟨rfl, c.fact 47 (f := .glo "NoRow") rfl, c.fact 48 (f := .exc "NoRow") rfl⟩, List.forall_mem_cons.mpr ⟨⟨rfl, c.fact 49 (f := .glo "NoHand") rfl, c.fact 50 (f := .exc "NoHand") rfl⟩, List.forall_mem_cons.mpr ⟨⟨rfl, c.fact 51 (f := .glo "NoOrder") rfl, c.fact 52 (f := .exc "NoOrder") rfl⟩, List.forall_mem_cons.mpr ⟨⟨rfl, c.fact 53 (f := .glo "NoBound") rfl, c.fact 54 (f := .exc "NoBound") rfl⟩, List.forall_mem_cons.mpr ⟨⟨rfl, c.fact 55 (f := .glo "Done") rfl, c.fact 56 (f := .exc "Done") rfl⟩, List.forall_mem_cons.mpr ⟨⟨rfl, c.fact 57 (f := .glo "NoWorths") rfl, c.fact 58 (f := .exc "NoWorths") rfl⟩, List.forall_mem_cons.mpr ⟨⟨rfl, c.fact 59 (f := .glo "NoPlaces") rfl, c.fact 60 (f := .exc "NoPlaces") rfl⟩, List.forall_mem_cons.mpr ⟨⟨rfl, c.fact 61 (f := .glo "Nothing") rfl, c.fact 62 (f := .exc "Nothing") rfl⟩, fun _ h => nomatch h⟩⟩⟩⟩⟩⟩⟩⟩⟩)
  have hwh : Y.wh = true → WhOk K mg (caK K) := fun _ => (c.def_ 29 (d := d_which.dd) rfl).elim fun fd F => whOk_of (d := d_which) X G (and2 (and2 cb).2).1 rfl rfl rfl rfl rfl rfl F (He.glo_ok X G (c.fact 77 (f := .glo "_law_which") rfl)) b_which (by decide +kernel) (hblt "isinstance" (by decide)) (hblt "ValueError" (by decide)) (List.forall_mem_cons.mpr ⟨c.fact 63 (f := .glo "TurnError") rfl, List.forall_mem_cons.mpr ⟨c.fact 64 (f := .glo "NoHands") rfl, List.forall_mem_cons.mpr ⟨c.fact 65 (f := .glo "NoRow") rfl, List.forall_mem_cons.mpr ⟨c.fact 66 (f := .glo "NoHand") rfl, List.forall_mem_cons.mpr ⟨c.fact 67 (f := .glo "NoWorths") rfl, List.forall_mem_cons.mpr ⟨c.fact 68 (f := .glo "NoOrder") rfl, List.forall_mem_cons.mpr ⟨c.fact 69 (f := .glo "NoBound") rfl, List.forall_mem_cons.mpr ⟨c.fact 70 (f := .glo "NotEven") rfl, List.forall_mem_cons.mpr ⟨c.fact 71 (f := .glo "TooLong") rfl, List.forall_mem_cons.mpr ⟨c.fact 72 (f := .glo "NoDegree") rfl, List.forall_mem_cons.mpr ⟨c.fact 73 (f := .glo "NoPlaces") rfl, List.forall_mem_cons.mpr ⟨c.fact 74 (f := .glo "NoText") rfl, List.forall_mem_cons.mpr ⟨c.fact 75 (f := .glo "Done") rfl, List.forall_mem_cons.mpr ⟨c.fact 76 (f := .glo "Nothing") rfl, fun _ h => nomatch h⟩⟩⟩⟩⟩⟩⟩⟩⟩⟩⟩⟩⟩⟩)
  have htab : P.tab = true → TabK0 K mg := fun _ => tab_ok X G (and2 (and2 cb).2).2 (c.fact 78 (f := .glo "Table") rfl) (c.fact 79 (f := .cls "Table") rfl) (List.forall_mem_cons.mpr ⟨c.fact 80 (f := .noat "Table" "hands") rfl, List.forall_mem_cons.mpr ⟨c.fact 81 (f := .noat "Table" "how") rfl, List.forall_mem_cons.mpr ⟨c.fact 82 (f := .noat "Table" "past") rfl, List.forall_mem_cons.mpr ⟨c.fact 83 (f := .noat "Table" "calls") rfl, fun _ h => nomatch h⟩⟩⟩⟩)
  have hini : ∀ f np, P.ini = some (f, np) → ∃ d ∈ fds, d.id = f ∧ d.ps.length = np ∧ d.dk = none ∧ ∃ fa fd, FnP K d fa fd ∧ Mk K (tabC K) fa := fun f np h => by
    cases h
    obtain ⟨fd, F⟩ := c.def_ 19 (d := d_Table___init__.dd) rfl
    exact ⟨d_Table___init__, List.mem_of_getElem? (i := 19) rfl, rfl, rfl, rfl, _, fd, F, He.mkr_ok (c.fact 84 (f := .mkr "Table") rfl)⟩
  have hxini : ∀ f np, Y.xini = some (f, np) → ∃ d ∈ fds, d.kx = true ∧ d.id = f ∧ d.ps.length = np ∧ d.dk = none ∧ ∃ fa fd, FnP K d fa fd ∧ Mk K (tabC K) fa := fun f np h => nomatch h
  obtain ⟨fd, F⟩ := c.def_ 18 (d := d_law.dd) rfl
  have e := hfa.symm.trans (He.glo_ok X G (c.fact 18 (f := .glo "law") rfl))
  cases e
  have b := FunD.bindsA (ps := ["script"]) F b_law
  exact ⟨fd, fun s v => b s [v] rfl, fun base _ _ => fnCalm (prog_ok (Y := Y) (ca := caK K) fds rfl rfl rfl rfl (List.all_eq_true.mp ck) cn binds hF hblt (fun x d h => hgls (x, d) (lookup_mem h)) hdct hexc hwh htab hini hxini 14 d_law (List.mem_of_getElem? (i := 18) rfl) _ fd F)⟩
end Ev.K25
open PySem PySem.W PySem.Calls PyProof.Rows in
theorem PySem.Challenge.cw_evenrows_k25_tables_refused_holds : PySem.Challenge.rw_evenrows_k25_tables_refused.Holds := by
  w_on; o_law
  refine HandSHeadRun.head_any (r := OpenLaw.row PySem.Challenge.rw_evenrows_k25_tables_refused) (q := view (OpenLaw.row PySem.Challenge.rw_evenrows_k25_tables_refused).prog [46]) (H := Ev.K25.hk) (ob := Ev.K25.ob) (M := 8000) (loose := Ev.K25.loose) (d := HandSHeadRun.topDef (OpenLaw.row PySem.Challenge.rw_evenrows_k25_tables_refused).prog 46) (kwd := []) Ev.K25.ob_eq
    (by kernel_rfl) (fun s => by kernel_rfl) Ev.K25.run (by kernel_rfl) (by kernel_rfl) (by kernel_rfl) (by rfl) (by first | assumption | decide +kernel) (by decide +kernel) ⟨rfl, rfl, rfl, rfl, rfl, by decide +kernel⟩ ?hw ?hc
  case hw => w_witness2
  case hc =>
    refine L2.walk_ofE (l := PySem.Challenge.rw_evenrows_k25_tables_refused) (n := 63) (k := 47) (x := "script") (CX := L2.CX0) rfl (by decide) (by kernel_rfl) ⟨rfl, by decide, by decide⟩ ?F (fun _ _ _ _ z => z)
    intro w mg fa h Y G hmg0
    obtain ⟨K, KX, c, cb⟩ := Y
    have hmg : mg ("law" : PySem.Str) = some (.ref fa) := by
      have e : (HandSHeadRun.topDef (OpenLaw.row PySem.Challenge.rw_evenrows_k25_tables_refused).prog 46).name = ("law" : PySem.Str) := by kernel_rfl
      rw [← e]
      exact hmg0
    obtain ⟨fd, hb, hF⟩ := Ev.K25.facts (Pg := (PySem.Challenge.rw_evenrows_k25_tables_refused).prog) (w := w) KX G hmg c cb
    refine ⟨K, fd, _, KX, hb, fun H a ns hl ho hS => ?_, hF⟩
    obtain ⟨μ, ev⟩ := Ev.K25.main ns hl
    exact Ev.law_sp ho hS ev
