import PyProof.Rows.All
import Wide.All
import OpenK.AllK
import Wide.FinOn
import KE.KStateDown
import HandS.Base
import HandS.Call
import HandS.Ends
import HandS.Defaults
import HandS.More
import HandS.Words
import HandS.WordsExc
import HandS.IsInst
import HandS.Head0
import HandS.Head1
import HandS.Head2
import HandS.HeadEnd
import HandS.HeadHook1
import HandS.HeadHook2
import HandS.ForMost
import HandS.ForExc
import HandS.Wide
import HandS.TupAny
import HandS.TupLe
import HandS.Style
import HandS.ExcOwn
import HandS.TryMany
import HandS.Zip
import HandS.Rev
import HandS.RevRange
import HandS.Conv
import HandS.OwnEq
import HandS.Flow
import KE.GoesNew
import HandS.TryOnly
import KE.KDictZip
import KE.GoesMore
import PyProof.ListNew
import HandS.ExcValue
import PySem.Challenge.RW_takentickets_k79_whole_changes_and_walks
set_option Elab.async false
set_option linter.all false
set_option maxRecDepth 100000
set_option maxHeartbeats 4000000
/-! PyT0: what the head tells of classes. -/
namespace Py
open PySem PySem.Spec PyProof.Rows L2
/-! ### what the head tells besides -/
def clsX (fl cn : List Str) (n : Str) (K : PySem.W.Frag) : Bool :=
  (fl.all fun f => He.eqO (PySem.W.findIn K (.ref (He.ga K n)) f) (some none)) &&
  (He.eqO (PySem.W.findIn K (.ref (He.ga K n)) "__class__") (some (some (.builtin "object.__class__"))) &&
  (He.eqO (PySem.W.specialIn K (.builtin "object.__class__") "__get__") (some (some (.builtin "getset_descriptor.__get__"))) &&
  (decide (PySem.W.takesIn K (.builtin "object.__class__") = some true) &&
  (decide (PySem.W.mroIn K (He.ga K n) (.type "object") = some true) &&
  ((cn.all fun n' => decide (PySem.W.kitOne K (.ref (He.ga K n)) (.ref (He.ga K n')) = some (decide (n = n')))) &&
  ((["int", "bool", "str", "list", "tuple"].all fun T => decide (PySem.W.kitOne K (.ref (He.ga K n)) (.type T) = some false)) &&
  (["NoneType", "int", "bool", "str", "list", "tuple"].all fun T => decide (PySem.W.kitOne K (.type T) (.ref (He.ga K n)) = some false))))))))
def eqX (n : Str) (K : PySem.W.Frag) : Bool := He.eqO (PySem.W.findIn K (.ref (He.ga K n)) "__ne__") (some (some (.builtin "object.__ne__")))
def extraX (fl cn eq : List Str) (K : PySem.W.Frag) : Bool := (cn.all fun n => clsX fl cn n K) && eq.all fun n => eqX n K
abbrev AlX : Type := He.AlD × Bool
def obsX (n : Nat) (fa : List He.Fa) (fn : List He.DefD) (xb : PySem.W.Frag → Bool) (g : Addr → Option Obj) : AlX := (He.obsDG n fa fn g, xb (He.frG g (He.asD g n)))
def hookX (n : Nat) (fa : List He.Fa) (fn : List He.DefD) (xb : PySem.W.Frag → Bool) : PySem.W.Hook where
  α := AlX
  obs := fun s => obsX n fa fn xb s.heap.get?
  val := fun _ => (He.valD fn, true)
  says := fun _ h => ∃ K : PySem.W.Frag, K.In h ∧ He.SaysD fa fn K ∧ xb K = true
  of := fun _ _ e => ⟨_, He.frG_in, congrArg Prod.fst e, congrArg Prod.snd e⟩
  keeps := fun _ _ _ ⟨K, hK, c⟩ k => ⟨K, PySem.W.Frag.In.keeps hK k, c⟩
theorem obsX_eq {n : Nat} {fa : List He.Fa} {fn : List He.DefD} {xb : PySem.W.Frag → Bool} {g : Addr → Option Obj} {s : Shared} (h : ∀ a, g a = s.heap.get? a) : obsX n fa fn xb g = (hookX n fa fn xb).obs s := by
  have e : g = s.heap.get? := funext h
  rw [e] <;> rfl
end Py

set_option Elab.async false
set_option linter.all false
set_option maxRecDepth 100000
set_option maxHeartbeats 0
namespace Hd
open PySem PySem.Spec PyProof.Rows L2 Py
def top (i : Nat) : Stmt := PySem.Challenge.pw_takentickets_k79_whole_changes_and_walks.main.body.getD i (.Pass ⟨0, 0, 0, 0⟩)
def fl : List Str := (["kinds", "rows", "purse", "visits", "old", "new", "rates", "extra"] : List Str)
def cn : List Str := (["Book", "Doors", "Change"] : List Str)
def eqc : List Str := (["Change", "Doors"] : List Str)
def xb : PySem.W.Frag → Bool := extraX fl cn eqc
def d_law_take : He.DefD := ⟨("_law_take", none), "_law_take", "_law_take", defArgs (top 44), defBody (top 44), defScope (top 44), [], []⟩
def d_law_loose : He.DefD := ⟨("_law_loose", none), "_law_loose", "_law_loose", defArgs (top 46), defBody (top 46), defScope (top 46), [], []⟩
def d_is_integer : He.DefD := ⟨("is_integer", none), "is_integer", "is_integer", defArgs (top 11), defBody (top 11), defScope (top 11), [], []⟩
def d_is_below : He.DefD := ⟨("is_below", none), "is_below", "is_below", defArgs (top 12), defBody (top 12), defScope (top 12), [], []⟩
def d_is_sequence : He.DefD := ⟨("is_sequence", none), "is_sequence", "is_sequence", defArgs (top 14), defBody (top 14), defScope (top 14), [], []⟩
def d_is_row : He.DefD := ⟨("is_row", none), "is_row", "is_row", defArgs (top 15), defBody (top 15), defScope (top 15), [], []⟩
def d_is_between : He.DefD := ⟨("is_between", none), "is_between", "is_between", defArgs (top 13), defBody (top 13), defScope (top 13), [], []⟩
def d_Book_init : He.DefD := ⟨("Book", some "__init__"), "__init__", "Book.__init__", defArgs (inClass (top 20) 0), defBody (inClass (top 20) 0), defScope (inClass (top 20) 0), [], []⟩
def d_law_book : He.DefD := ⟨("_law_book", none), "_law_book", "_law_book", defArgs (top 56), defBody (top 56), defScope (top 56), [], []⟩
def d_law_is_int : He.DefD := ⟨("_law_is_int", none), "_law_is_int", "_law_is_int", defArgs (top 47), defBody (top 47), defScope (top 47), [], []⟩
def d_law_same : He.DefD := ⟨("_law_same", none), "_law_same", "_law_same", defArgs (top 48), defBody (top 48), defScope (top 48), [], []⟩
def d_is_tickets : He.DefD := ⟨("is_tickets", none), "is_tickets", "is_tickets", defArgs (top 27), defBody (top 27), defScope (top 27), [], []⟩
def d_is_visit : He.DefD := ⟨("is_visit", none), "is_visit", "is_visit", defArgs (top 28), defBody (top 28), defScope (top 28), [], []⟩
def d_Doors_init : He.DefD := ⟨("Doors", some "__init__"), "__init__", "Doors.__init__", defArgs (inClass (top 26) 0), defBody (inClass (top 26) 0), defScope (inClass (top 26) 0), [], []⟩
def d_law_are_doors : He.DefD := ⟨("_law_are_doors", none), "_law_are_doors", "_law_are_doors", defArgs (top 58), defBody (top 58), defScope (top 58), [], []⟩
def d_need_rates : He.DefD := ⟨("need_rates", none), "need_rates", "need_rates", defArgs (top 36), defBody (top 36), defScope (top 36), [], []⟩
def d_Change_init : He.DefD := ⟨("Change", some "__init__"), "__init__", "Change.__init__", defArgs (inClass (top 35) 0), defBody (inClass (top 35) 0), defScope (inClass (top 35) 0), [], []⟩
def d_law_is_change : He.DefD := ⟨("_law_is_change", none), "_law_is_change", "_law_is_change", defArgs (top 64), defBody (top 64), defScope (top 64), [], []⟩
def d_law_paid : He.DefD := ⟨("_law_paid", none), "_law_paid", "_law_paid", defArgs (top 50), defBody (top 50), defScope (top 50), [], []⟩
def d_law_lacks : He.DefD := ⟨("_law_lacks", none), "_law_lacks", "_law_lacks", defArgs (top 65), defBody (top 65), defScope (top 65), [], []⟩
def d_law_walk : He.DefD := ⟨("_law_walk", none), "_law_walk", "_law_walk", defArgs (top 66), defBody (top 66), defScope (top 66), [], []⟩
def d_law_worth : He.DefD := ⟨("_law_worth", none), "_law_worth", "_law_worth", defArgs (top 59), defBody (top 59), defScope (top 59), [], []⟩
def d_law_exchange : He.DefD := ⟨("_law_exchange", none), "_law_exchange", "_law_exchange", defArgs (top 60), defBody (top 60), defScope (top 60), [], []⟩
def d_law_walk_over : He.DefD := ⟨("_law_walk_over", none), "_law_walk_over", "_law_walk_over", defArgs (top 67), defBody (top 67), defScope (top 67), [], []⟩
def d_paid : He.DefD := ⟨("paid", none), "paid", "paid", defArgs (top 31), defBody (top 31), defScope (top 31), [], []⟩
def d_lacks_in : He.DefD := ⟨("lacks_in", none), "lacks_in", "lacks_in", defArgs (top 30), defBody (top 30), defScope (top 30), [], []⟩
def d_walk_from : He.DefD := ⟨("walk_from", none), "walk_from", "walk_from", defArgs (top 32), defBody (top 32), defScope (top 32), [], []⟩
def d_worth : He.DefD := ⟨("worth", none), "worth", "worth", defArgs (top 38), defBody (top 38), defScope (top 38), [], []⟩
def d_exchange_of : He.DefD := ⟨("exchange_of", none), "exchange_of", "exchange_of", defArgs (top 39), defBody (top 39), defScope (top 39), [], []⟩
def d_row_wrong : He.DefD := ⟨("row_wrong", none), "row_wrong", "row_wrong", defArgs (top 21), defBody (top 21), defScope (top 21), [], []⟩
def d_need_change : He.DefD := ⟨("need_change", none), "need_change", "need_change", defArgs (top 37), defBody (top 37), defScope (top 37), [He.Dv.int (-1), He.Dv.non], []⟩
def d_gone_over : He.DefD := ⟨("gone_over", none), "gone_over", "gone_over", defArgs (top 41), defBody (top 41), defScope (top 41), [], []⟩
def d_law_pick : He.DefD := ⟨("_law_pick", none), "_law_pick", "_law_pick", defArgs (top 45), defBody (top 45), defScope (top 45), [], []⟩
def d_law_fits : He.DefD := ⟨("_law_fits", none), "_law_fits", "_law_fits", defArgs (top 49), defBody (top 49), defScope (top 49), [], []⟩
def d_law_drawn_row : He.DefD := ⟨("_law_drawn_row", none), "_law_drawn_row", "_law_drawn_row", defArgs (top 68), defBody (top 68), defScope (top 68), [], []⟩
def d_need_purse : He.DefD := ⟨("need_purse", none), "need_purse", "need_purse", defArgs (top 29), defBody (top 29), defScope (top 29), [], []⟩
def d_exchanged : He.DefD := ⟨("exchanged", none), "exchanged", "exchanged", defArgs (top 40), defBody (top 40), defScope (top 40), [], []⟩
def d_law_doors : He.DefD := ⟨("_law_doors", none), "_law_doors", "_law_doors", defArgs (top 57), defBody (top 57), defScope (top 57), [], []⟩
def d_law_change : He.DefD := ⟨("_law_change", none), "_law_change", "_law_change", defArgs (top 63), defBody (top 63), defScope (top 63), [], []⟩
def d_law_turned : He.DefD := ⟨("_law_turned", none), "_law_turned", "_law_turned", defArgs (top 70), defBody (top 70), defScope (top 70), [], []⟩
def d_law_greater : He.DefD := ⟨("_law_greater", none), "_law_greater", "_law_greater", defArgs (top 69), defBody (top 69), defScope (top 69), [], []⟩
def d_law_number : He.DefD := ⟨("_law_number", none), "_law_number", "_law_number", defArgs (top 52), defBody (top 52), defScope (top 52), [], []⟩
def d_law_visits : He.DefD := ⟨("_law_visits", none), "_law_visits", "_law_visits", defArgs (top 53), defBody (top 53), defScope (top 53), [], []⟩
def d_law_rows : He.DefD := ⟨("_law_rows", none), "_law_rows", "_law_rows", defArgs (top 51), defBody (top 51), defScope (top 51), [], []⟩
def d_law_hall : He.DefD := ⟨("_law_hall", none), "_law_hall", "_law_hall", defArgs (top 54), defBody (top 54), defScope (top 54), [], []⟩
def d_law_case : He.DefD := ⟨("_law_case", none), "_law_case", "_law_case", defArgs (top 55), defBody (top 55), defScope (top 55), [], []⟩
def d_law_hall_change : He.DefD := ⟨("_law_hall_change", none), "_law_hall_change", "_law_hall_change", defArgs (top 61), defBody (top 61), defScope (top 61), [], []⟩
def d_law_change_case : He.DefD := ⟨("_law_change_case", none), "_law_change_case", "_law_change_case", defArgs (top 62), defBody (top 62), defScope (top 62), [], []⟩
def d_law_box : He.DefD := ⟨("_law_box", none), "_law_box", "_law_box", defArgs (top 43), defBody (top 43), defScope (top 43), [], []⟩
def d_Doors_eq : He.DefD := ⟨("Doors", some "__eq__"), "__eq__", "Doors.__eq__", defArgs (inClass (top 26) 1), defBody (inClass (top 26) 1), defScope (inClass (top 26) 1), [], []⟩
def d_Change_eq : He.DefD := ⟨("Change", some "__eq__"), "__eq__", "Change.__eq__", defArgs (inClass (top 35) 1), defBody (inClass (top 35) 1), defScope (inClass (top 35) 1), [], []⟩
def d_law : He.DefD := ⟨("law", none), "law", "law", defArgs (top 71), defBody (top 71), defScope (top 71), [], []⟩
def fn : List He.DefD := [d_law_take, d_law_loose, d_is_integer, d_is_below, d_is_sequence, d_is_row, d_is_between, d_Book_init, d_law_book, d_law_is_int, d_law_same, d_is_tickets, d_is_visit, d_Doors_init, d_law_are_doors, d_need_rates, d_Change_init, d_law_is_change, d_law_paid, d_law_lacks, d_law_walk, d_law_worth, d_law_exchange, d_law_walk_over, d_paid, d_lacks_in, d_walk_from, d_worth, d_exchange_of, d_row_wrong, d_need_change, d_gone_over, d_law_pick, d_law_fits, d_law_drawn_row, d_need_purse, d_exchanged, d_law_doors, d_law_change, d_law_turned, d_law_greater, d_law_number, d_law_visits, d_law_rows, d_law_hall, d_law_case, d_law_hall_change, d_law_change_case, d_law_box, d_Doors_eq, d_Change_eq, d_law]
def fa : List He.Fa := [.glo "_law_take", .glo "_law_loose", .glo "is_integer", .glo "is_below", .glo "is_sequence", .glo "is_row", .glo "is_between", .glo "Book", .glo "_law_book", .glo "_law_is_int", .glo "_law_same", .glo "is_tickets", .glo "is_visit", .glo "Doors", .glo "_law_are_doors", .glo "need_rates", .glo "Change", .glo "_law_is_change", .glo "_law_paid", .glo "_law_lacks", .glo "_law_walk", .glo "_law_worth", .glo "_law_exchange", .glo "_law_walk_over", .glo "paid", .glo "lacks_in", .glo "walk_from", .glo "worth", .glo "exchange_of", .glo "row_wrong", .glo "need_change", .glo "gone_over", .glo "_law_pick", .glo "_law_fits", .glo "_law_drawn_row", .glo "need_purse", .glo "exchanged", .glo "_law_doors", .glo "_law_change", .glo "_law_turned", .glo "_law_greater", .glo "_law_number", .glo "_law_visits", .glo "_law_rows", .glo "_law_hall", .glo "_law_case", .glo "_law_hall_change", .glo "_law_change_case", .glo "_law_box", .glo "law", .cls "Book", .mkr "Book", .cls "Doors", .mkr "Doors", .cls "Change", .mkr "Change", .meth "Change" "__eq__", .meth "Doors" "__eq__", .free "len", .free "tuple", .free "list", .free "sum", .free "all", .free "any", .free "abs", .free "int", .free "max", .free "min", .free "str", .free "isinstance", .free "bool", .free "zip", .free "range", .free "enumerate", .free "reversed", .int "MOST_STATES" (40), .int "MOST_KINDS" (6), .int "MOST_TICKETS" (1000000000000000000), .int "MOST_COLOURS" (60), .int "MOST_RATE" (1000000000), .int "MOST_VISITS" (400), .int "MOST_PURSE" (999999999999999999999999999999)]
def loose : List Str := (["TicketError", "InvalidKinds", "InvalidRows", "InvalidHistory", "InvalidPurse", "InvalidVisits", "InvalidDoors", "InvalidChange", "InvalidRates", "is_integer", "is_below", "is_between", "is_sequence", "is_row", "MOST_KINDS", "MOST_STATES", "MOST_VISITS", "Book", "row_wrong", "MOST_COLOURS", "MOST_TICKETS", "MOST_PURSE", "Doors", "is_tickets", "is_visit", "need_purse", "lacks_in", "paid", "walk_from", "MOST_RATE"] : List Str) ++ (["Change", "need_rates", "need_change", "worth", "exchange_of", "exchanged", "gone_over", "_law_box", "_law_take", "_law_pick", "_law_loose", "_law_is_int", "_law_same", "_law_fits", "_law_paid", "_law_rows", "_law_number", "_law_visits", "_law_hall", "_law_case", "_law_book", "_law_doors", "_law_are_doors", "_law_worth", "_law_exchange", "_law_hall_change", "_law_change_case", "_law_change", "_law_is_change", "_law_lacks"] : List Str) ++ (["_law_walk", "_law_walk_over", "_law_drawn_row", "_law_greater", "_law_turned"] : List Str)
abbrev R : PySem.W.OpenRow := PySem.W.OpenLaw.row PySem.Challenge.rw_takentickets_k79_whole_changes_and_walks
abbrev hk : PySem.W.Hook := hookX 5 fa fn xb
def ob (s : PySem.W.SharedT) : AlX := obsX 5 fa fn xb (HandSHeadRun.getT s)
theorem ob_eq (s : PySem.W.SharedT) : ob s = hk.obs s.abs := obsX_eq (HandSHeadRun.getT_eq s)
theorem run (w : World) : HandSHeadRun.RunEq R (PySem.W.view R.prog [71]) hk ob 30000 loose w := by
  intro os
  kernel_rfl
end Hd
set_option Elab.async false
set_option linter.all false
set_option maxRecDepth 100000
set_option maxHeartbeats 4000000
/-! PyA: plain data, the small tree language, its weakest preconditions (no heap in sight). -/
namespace Py
open PySem PySem.Spec PyProof.Rows L2

/-- plain data -/
inductive D where
  | non | bl (b : Bool) | int (i : Int) | str (s : Str)
  | tup (xs : List D) | lst (xs : List D)
  | obj (c : Str) (fs : List (Str × D))
  | h (n : Nat)
  | scr (ns : List Int)

/-- what stands in a mutable place -/
inductive Cell where
  | lst (xs : List D)
  | obj (c : Str) (fs : List (Str × D))
def Cell.toD : Cell → D
  | .lst xs => .lst xs
  | .obj c fs => .obj c fs
abbrev W := List Cell
inductive Slot where
  | none | val (d : D) | own (c : Cell)
abbrev Fm := List Slot
structure Exn where
  c : Str
  fs : List (Str × D)
abbrev Spec := List D → W → (D → W → Prop) → (Exn → W → Prop) → Prop

/-! ### the small trees -/
inductive Op2 | add | sub | mul | fdiv | mod | pow
  deriving DecidableEq
inductive Cmp | eq | ne | lt | le | gt | ge | is_ | isNot | in_ | notIn
  deriving DecidableEq
inductive B1 | len | tuple | list | sum | all | any | abs | int | max | min | str
  deriving DecidableEq
inductive B2 | max | min
  deriving DecidableEq
inductive Ty | int | bool | str | list | tuple
  deriving DecidableEq
/-- a target: a name, or names in brackets -/
inductive T | n (i : Nat) | t (l : List Nat)
mutual
inductive E where
  | v (i : Nat)
  | ci (i : Int) | cb (b : Bool) | cn | cs (s : Str)
  | gi (k : Nat)
  | bin (o : Op2) (a b : E)
  | neg (a : E)
  | cmp (o : Cmp) (a b : E)
  | cmp2 (o p : Cmp) (a b c : E)
  | and_ (es : Es) | or_ (es : Es)
  | not_ (a : E)
  | ife (c a b : E)
  | tup (es : Es) | lst (es : Es)
  | attr (a : E) (f : Str)
  | ix (a k : E)
  | sl (a : E) (lo hi : Eo)
  | call (k : Nat) (es : Es) (dd : List V)
  | make (k : Nat) (es : Es)
  | b1 (f : B1) (a : E)
  | b2 (f : B2) (a b : E)
  | isT (a : E) (ts : List Ty)
  | isC (a : E) (k : Nat)
  | zipL (es : Es)
  | rangeL (a : E)
  | comp (elt : E) (tg : T) (it : I) (ifs : Es) (own : List (Str × Nat))
  | pop (a : E) (k : Eo)
inductive Es where
  | nil | cons (a : E) (r : Es)
inductive Eo where
  | none | some (a : E)
inductive I where
  | e (a : E) | range1 (a : E) | range2 (a b : E) | enum (a : E) | rev (a : E) | revR (a : E)
end
mutual
inductive S where
  | set (i : Nat) (e : E)
  | setT (l : List Nat) (e : E)
  | par (l : List Nat) (es : Es)
  | app (a e : E)
  | ins (a k e : E)
  | setIx (a k e : E)
  | fld (a : E) (f : Str) (e : E)
  | ex (e : E)
  | ret (e : E) | retN
  | retH (e : E)
  | if_ (c : E) (a b : Ss)
  | for_ (t : T) (it : I) (body : Ss)
  | while_ (c : E) (body : Ss)
  | never
  | pass | cont | brk
inductive Ss where
  | nil | cons (s : S) (r : Ss)
end

/-- what a def sees: its names, the defs, classes and numbers of the module -/
structure Fe where
  nm : Str
  ar : Nat
  sp : Spec
  dfl : List (List V) := [[]]
def Es.len : Es → Nat
  | .nil => 0
  | .cons _ r => r.len + 1
/-- a plain value -/
def scV : V → Bool
  | .non => true
  | .bl _ => true
  | .int _ => true
  | .str _ => true
  | _ => false
structure Gam where
  N : List Str
  fns : List Fe
  cls : List Fe
  gis : List (Str × Int)
  eqs : List Fe
  self : Bool
  fl : List Str := []

/-! ### operations -/
mutual
def toP : D → PyData
  | .non => .none
  | .bl b => .bool b
  | .int i => .int i
  | .str s => .str s
  | .tup xs => .tuple (toPs xs)
  | .lst xs => .list (toPs xs)
  | .obj _ _ => .none
  | .h _ => .none
  | .scr _ => .none
def toPs : List D → List PyData
  | [] => []
  | x :: xs => toP x :: toPs xs
end
mutual
def isP : D → Bool
  | .non => true
  | .bl _ => true
  | .int _ => true
  | .str _ => true
  | .tup xs => isPs xs
  | .lst xs => isPs xs
  | .obj _ _ => false
  | .h _ => false
  | .scr _ => false
def isPs : List D → Bool
  | [] => true
  | x :: xs => isP x && isPs xs
end
/-- a handle's content -/
def res (w : W) : D → D
  | .h n => match w[n]? with
    | some c => c.toD
    | none => .h n
  | d => d
def binD (o : Op2) (x y : D) (k : D → Prop) : Prop := match o, x, y with
  | .add, .int i, .int j => k (.int (i + j))
  | .add, .str s, .str t => s.length + t.length ≤ sizeLine ∧ k (.str (s ++ t))
  | .add, .tup xs, .tup ys => xs.length + ys.length ≤ sizeLine ∧ k (.tup (xs ++ ys))
  | .add, .lst xs, .lst ys => xs.length + ys.length ≤ sizeLine ∧ k (.lst (xs ++ ys))
  | .sub, .int i, .int j => k (.int (i - j))
  | .mul, .int i, .int j => (CMul i j ∨ CMulW i j) ∧ k (.int (i * j))
  | .mul, .lst xs, .int j => (-(2 ^ 63) ≤ j ∧ j < 2 ^ 63 ∧ xs.length * j.toNat ≤ sizeLine) ∧ k (.lst (List.replicate j.toNat xs).flatten)
  | .fdiv, .int i, .int j => CDivW i j ∧ k (.int (i / j))
  | .mod, .int i, .int j => 0 < j ∧ k (.int (i % j))
  | .pow, .int i, .int j => CPow i j ∧ k (.int (i ^ j.toNat))
  | _, _, _ => False
def negD (x : D) (k : D → Prop) : Prop := match x with
  | .int i => k (.int (-i))
  | _ => False
def intsOf : List D → Option (List Int)
  | [] => some []
  | .int i :: r => (intsOf r).map (i :: ·)
  | _ :: _ => none
def blsOf : List D → Option (List Bool)
  | [] => some []
  | .bl b :: r => (blsOf r).map (b :: ·)
  | _ :: _ => none
def isNone : D → Bool
  | .non => true
  | _ => false
/-- comparisons that ask no def of the program's own -/
def cmpD (o : Cmp) (x y : D) (k : Bool → Prop) : Prop := match o with
  | .eq => isP x = true ∧ isP y = true ∧ SeqAt.shaped (toP x) = true ∧ SeqAt.shaped (toP y) = true ∧ k (PyData.eqv (toP x) (toP y))
  | .ne => isP x = true ∧ isP y = true ∧ SeqAt.shaped (toP x) = true ∧ SeqAt.shaped (toP y) = true ∧ k (!PyData.eqv (toP x) (toP y))
  | .lt => match x, y with
    | .int i, .int j => k (decide (i < j))
    | .tup xs, .tup ys => match intsOf xs, intsOf ys with
      | some ns, some ms => k (HT.lexLt ns ms)
      | _, _ => False
    | _, _ => False
  | .le => match x, y with
    | .int i, .int j => k (decide (i ≤ j))
    | _, _ => False
  | .gt => match x, y with
    | .int i, .int j => k (decide (j < i))
    | _, _ => False
  | .ge => match x, y with
    | .int i, .int j => k (decide (j ≤ i))
    | _, _ => False
  | .is_ => match x, y with
    | x, .non => k (isNone x)
    | .bl a, .bl b => k (decide (a = b))
    | _, _ => False
  | .isNot => match x, y with
    | x, .non => k (!isNone x)
    | .bl a, .bl b => k (!decide (a = b))
    | _, _ => False
  | .in_ => match x, y with
    | .int i, .tup ys => match intsOf ys with
      | some ns => k (decide (i ∈ ns))
      | none => False
    | .int i, .lst ys => match intsOf ys with
      | some ns => k (decide (i ∈ ns))
      | none => False
    | _, _ => False
  | .notIn => match x, y with
    | .int i, .tup ys => match intsOf ys with
      | some ns => k (!decide (i ∈ ns))
      | none => False
    | .int i, .lst ys => match intsOf ys with
      | some ns => k (!decide (i ∈ ns))
      | none => False
    | _, _ => False
/-- is it an instance with an own ==? -/
def eqSpec (G : Gam) : D → Option Spec
  | .obj c _ => (G.eqs.find? fun e => e.nm == c).map Fe.sp
  | _ => none
def sameC : D → D → Bool
  | .obj c _, .obj c' _ => decide (c = c')
  | _, _ => false
def ixD (d k : D) (Q : D → Prop) : Prop := match d, k with
  | .lst xs, .int i => match atI xs i with
    | some v => Q v
    | none => False
  | .tup xs, .int i => match atI xs i with
    | some v => Q v
    | none => False
  | .str z, .int i => z.length ≤ sizeLine ∧ match atI z.cps.toList i with
    | some c => Q (.str ⟨#[c]⟩)
    | none => False
  | _, _ => False
def cutD (xs : List D) (lo hi : Option Int) : List D := (xs.drop (HT.sIx xs.length 0 lo)).take (HT.sIx xs.length xs.length hi - HT.sIx xs.length 0 lo)
def slD (d : D) (lo hi : Option Int) (Q : D → Prop) : Prop := match d with
  | .lst xs => Q (.lst (cutD xs lo hi))
  | .tup xs => Q (.tup (cutD xs lo hi))
  | .scr ns => Q (.lst (cutD (ns.map D.int) lo hi))
  | _ => False
def b1D (f : B1) (d : D) (Q : D → Prop) : Prop := match f, d with
  | .len, .lst xs => Q (.int xs.length)
  | .len, .tup xs => Q (.int xs.length)
  | .len, .str z => z.length ≤ sizeLine ∧ Q (.int z.length)
  | .tuple, .lst xs => Q (.tup xs)
  | .tuple, .tup xs => Q (.tup xs)
  | .list, .lst xs => Q (.lst xs)
  | .list, .tup xs => Q (.lst xs)
  | .sum, .lst xs => match intsOf xs with
    | some ns => Q (.int ns.sum)
    | none => False
  | .all, .lst xs => match blsOf xs with
    | some bs => Q (.bl (bs.all id))
    | none => False
  | .any, .lst xs => match blsOf xs with
    | some bs => Q (.bl (bs.any id))
    | none => False
  | .abs, .int i => Q (.int (if i < 0 then -i else i))
  | .int, .int i => Q (.int i)
  | .int, .bl b => Q (.int (if b then 1 else 0))
  | .max, .lst xs => match intsOf xs with
    | some ns => 0 < ns.length ∧ ∀ m, m ∈ ns → (∀ y, y ∈ ns → y ≤ m) → Q (.int m)
    | none => False
  | .min, .lst xs => match intsOf xs with
    | some ns => 0 < ns.length ∧ ∀ m, m ∈ ns → (∀ y, y ∈ ns → m ≤ y) → Q (.int m)
    | none => False
  | .str, .int i => i.natAbs.log2 < 1920 ∧ Q (.str (toString i))
  | _, _ => False
def b2D (f : B2) (x y : D) (Q : D → Prop) : Prop := match f, x, y with
  | .max, .int i, .int j => Q (.int (if j > i then j else i))
  | .min, .int i, .int j => Q (.int (if j < i then j else i))
  | _, _, _ => False
def isTD1 : D → Ty → Bool
  | .int _, .int => true
  | .bl _, .int => true
  | .bl _, .bool => true
  | .str _, .str => true
  | .lst _, .list => true
  | .scr _, .list => true
  | .tup _, .tuple => true
  | _, _ => false
def isTD (d : D) (ts : List Ty) : Bool := ts.any (isTD1 d)
def isCD (c : Str) : D → Bool
  | .obj c' _ => decide (c' = c)
  | _ => false
/-- truth -/
def truD : D → Option Bool
  | .non => some false
  | .bl b => some b
  | .int i => some (i != 0)
  | .lst xs => some (!xs.isEmpty)
  | .tup xs => some (!xs.isEmpty)
  | _ => none
/-- zip of two or three -/
def zip2 : List D → List D → List D
  | x :: xs, y :: ys => .tup [x, y] :: zip2 xs ys
  | _, _ => []
def zip3 : List D → List D → List D → List D
  | x :: xs, y :: ys, z :: zs => .tup [x, y, z] :: zip3 xs ys zs
  | _, _, _ => []
def seqOf : D → Option (List D)
  | .lst xs => some xs
  | .tup xs => some xs
  | _ => none
def zipD (ds : List D) (Q : D → Prop) : Prop := match ds with
  | [a, b] => match seqOf a, seqOf b with
    | some xs, some ys => Q (.lst (zip2 xs ys))
    | _, _ => False
  | [a, b, c] => match seqOf a, seqOf b, seqOf c with
    | some xs, some ys, some zs => Q (.lst (zip3 xs ys zs))
    | _, _, _ => False
  | _ => False
def rangeD (a b : Int) : List D := (List.range (b - a).toNat).map fun i => D.int (a + (i : Nat))
def enumD (xs : List D) : List D := (List.range xs.length).map fun i => D.tup [.int (i : Nat), xs.getD i .non]
def small62 (i : Int) : Prop := -(2 ^ 62) ≤ i ∧ i < 2 ^ 62
/-- what an iterable yields -/
def itemsD (d : D) (Q : List D → Prop) : Prop := match d with
  | .lst xs => Q xs
  | .tup xs => Q xs
  | .str z => Q (z.cps.toList.map fun c => D.str ⟨#[c]⟩)
  | _ => False

/-! ### slots -/
def getS (env : Fm) (i : Nat) (Q : D → Prop) : Prop := match env[i]? with
  | some (.val d) => Q d
  | some (.own c) => Q c.toD
  | _ => False
/-- the frame as a written-out list (for a walk: nothing is looked at twice) -/
def frc : Fm → (Fm → Prop) → Prop
  | [], k => k []
  | a :: r, k => frc r fun r => k (a :: r)
theorem frc_eq : ∀ {env : Fm} {k : Fm → Prop}, frc env k = k env
  | [], _ => rfl
  | _ :: r, _ => frc_eq (env := r)
/-- the slot is no longer one's own -/
def shareS (env : Fm) (i : Nat) : Fm := match env[i]? with
  | some (.own c) => env.set i (.val c.toD)
  | _ => env
/-- .. read: it is shared where it was one's own (told so that a walk looks once) -/
def getShare (env : Fm) (i : Nat) (Q : D → Fm → Prop) : Prop := match env[i]? with
  | some (.val d) => Q d env
  | some (.own c) => Q c.toD (env.set i (.val c.toD))
  | _ => False
theorem getShare_eq {env : Fm} {i : Nat} {Q : D → Fm → Prop} : getShare env i Q = getS env i fun d => Q d (shareS env i) := by
  unfold getShare getS shareS
  cases env[i]? with
  | none => rfl
  | some s => cases s <;> rfl
def wipeE : Fm → List Nat → Fm
  | env, [] => env
  | env, i :: r => (wipeE env r).set i .none
def shareE : Fm → List Nat → Fm
  | env, [] => env
  | env, i :: r => shareE (shareS env i) r
def shareK : Fm → List Nat → (Fm → Prop) → Prop
  | env, [], k => k env
  | env, i :: r, k => match env[i]? with
    | some (.own c) => shareK (env.set i (.val c.toD)) r k
    | _ => shareK env r k
theorem shareK_eq : ∀ {l : List Nat} {env : Fm} {k : Fm → Prop}, shareK env l k = k (shareE env l)
  | [], _, _ => rfl
  | i :: r, env, k => by
    rw [shareK, shareE]
    unfold shareS
    cases env[i]? with
    | none => exact shareK_eq
    | some s => cases s <;> exact shareK_eq
/-- the slots at l as they were in o -/
def backE (o : Fm) : Fm → List Nat → Fm
  | env, [] => env
  | env, i :: r => (backE o env r).set i (o.getD i .none)
def bindT (G : Gam) (t : T) (d : D) (env : Fm) (Q : Fm → Prop) : Prop := match t with
  | .n i => (G.self = true → i ≠ 0) ∧ Q (env.set i (.val d))
  | .t l => match d with
    | .tup ds => ds.length = l.length ∧ (G.self = true → 0 ∉ l) ∧ Q ((l.zip ds).foldl (fun e p => e.set p.1 (.val p.2)) env)
    | .lst ds => ds.length = l.length ∧ (G.self = true → 0 ∉ l) ∧ Q ((l.zip ds).foldl (fun e p => e.set p.1 (.val p.2)) env)
    | _ => False
/-- a new list: nobody else has it -/
def E.fresh : E → Bool
  | .lst _ => true
  | .comp .. => true
  | .bin .add _ _ => true
  | .bin .mul _ _ => true
  | .b1 .list _ => true
  | .sl .. => true
  | .zipL _ => true
  | .rangeL _ => true
  | _ => false
def mkSlot (fr : Bool) (d : D) : Slot := match fr, d with
  | true, .lst xs => .own (.lst xs)
  | _, d => .val d
/-- the list at a base is changed: f tells what it becomes -/
def chgL (env : Fm) (w : W) (i : Option Nat) (d : D) (f : List D → List D) (ok : List D → Prop) (Q : Fm → W → Prop) : Prop := match d with
  | .h n => match w[n]? with
    | some (.lst xs) => ok xs ∧ Q env (w.set n (.lst (f xs)))
    | _ => False
  | .lst xs => match i with
    | some i => match env[i]? with
      | some (.own (.lst _)) => ok xs ∧ Q (env.set i (.own (.lst (f xs)))) w
      | _ => False
    | none => False
  | _ => False
def baseOf : E → Option Nat
  | .v i => some i
  | _ => none
/-- from item to item -/
def forL (step : D → Fm → W → (Fm → W → Prop) → Prop) : List D → Fm → W → (Fm → W → Prop) → Prop
  | [], env, w, Q => Q env w
  | d :: ds, env, w, Q => step d env w fun env w => forL step ds env w Q
def compL (step : D → Fm → W → (Option D → Fm → W → Prop) → Prop) : List D → List D → Fm → W → (List D → Fm → W → Prop) → Prop
  | [], acc, env, w, Q => Q acc env w
  | d :: ds, acc, env, w, Q => step d env w fun r env w => match r with
    | none => compL step ds acc env w Q
    | some y => acc.length < sizeLine ∧ compL step ds (acc ++ [y]) env w Q
structure En where
  nx : Fm → W → Prop
  rt : D → W → Prop
  bk : Fm → W → Prop := fun _ _ => False
  ct : Fm → W → Prop := fun _ _ => False

/-! ### weakest preconditions -/
def dV : V → D
  | .non => .non
  | .bl b => .bl b
  | .int i => .int i
  | .str s => .str s
  | _ => .non
/-- what an expression does: a value; a test; values; a number or nothing; items -/
abbrev DS := Fm → W → (D → Fm → W → Prop) → Prop
abbrev BS := Fm → W → (Bool → Fm → W → Prop) → Prop
abbrev LS := Fm → W → (List D → Fm → W → Prop) → Prop
abbrev OS := Fm → W → (Option Int → Fm → W → Prop) → Prop
abbrev RS := Exn → Fm → W → Prop
/-- a call's end -/
def wpCall (sp : Option Spec) (ds : List D) (env : Fm) (w : W) (R : RS) (Q : D → Fm → W → Prop) : Prop := match sp with
  | some sp => sp ds w (fun d w => Q d env w) (fun x w => R x env w)
  | none => False
/-- list.pop -/
def popD (env : Fm) (w : W) (i : Option Nat) (d : D) (l : Option Int) (Q : D → Fm → W → Prop) : Prop := match res w d with
    | .lst xs => match l with
      | none => match xs[xs.length - 1]? with
        | some y => chgL env w i d (fun xs => xs.dropLast) (fun _ => True) fun env w => Q y env w
        | none => False
      | some j => match ixN xs.length j with
        | some m => match xs[m]? with
          | some y => (-(2 ^ 63) ≤ j ∧ j < 2 ^ 63) ∧ chgL env w i d (fun xs => xs.eraseIdx m) (fun _ => True) fun env w => Q y env w
          | none => False
        | none => False
    | _ => False
/-- == and != where own classes may ask -/
def wpCmp (G : Gam) (o : Cmp) (x y : D) (env : Fm) (w : W) (Q : Bool → Fm → W → Prop) : Prop := match o, eqSpec G x with
  | .eq, some sp => sameC x y = true ∧ sp [x, y] w (fun d w => match d with
    | .bl b => Q b env w
    | _ => False) (fun _ _ => False)
  | .ne, some sp => sameC x y = true ∧ sp [x, y] w (fun d w => match d with
    | .bl b => Q (!b) env w
    | _ => False) (fun _ _ => False)
  | o, _ => cmpD o x y fun b => Q b env w
/-- a base: a name is only looked at -/
def pkD (i : Option Nat) (s : DS) : DS := fun env w Q => match i with
  | some i => getS env i fun d => Q d env w
  | none => s env w Q
/-- a base, then something, then the base's value as it stands then -/
def pkThen {α : Type} (i : Option Nat) (s : DS) (t : Fm → W → (α → Fm → W → Prop) → Prop) : Fm → W → (D → α → Fm → W → Prop) → Prop := fun env w Q => match i with
  | some i => getS env i fun _ => t env w fun x env w => getS env i fun d => Q d x env w
  | none => s env w fun d env w => t env w fun x env w => Q d x env w
def isL : D → Bool
  | .lst _ => true
  | _ => false
/-- .. a base that is a list -/
def pkThenL {α : Type} (i : Option Nat) (s : DS) (t : Fm → W → (α → Fm → W → Prop) → Prop) : Fm → W → (D → α → Fm → W → Prop) → Prop := fun env w Q => match i with
  | some i => getS env i fun d => isL (res w d) = true ∧ t env w fun x env w => getS env i fun d => Q d x env w
  | none => s env w fun d env w => isL (res w d) = true ∧ t env w fun x env w => Q d x env w
def tst (s : DS) : BS := fun env w Q => s env w fun d env w => match truD (res w d) with
  | some b => Q b env w
  | none => False
def isIn : Cmp → Bool
  | .in_ => true
  | .notIn => true
  | _ => false
def doBin (o : Op2) (a b : DS) : DS := fun env w Q => a env w fun x env w => b env w fun y env w => binD o x y fun z => Q z env w
def doNeg (a : DS) : DS := fun env w Q => a env w fun x env w => negD x fun z => Q z env w
def doCmp (G : Gam) (o : Cmp) (i : Option Nat) (a b : DS) : BS := fun env w Q => a env w fun x env w => match isIn o with
  | true => pkD i b env w fun y env w => wpCmp G o x (res w y) env w Q
  | false => b env w fun y env w => wpCmp G o x y env w Q
def doCmp2 (o p : Cmp) (a b c : DS) : BS := fun env w Q => a env w fun x env w => b env w fun y env w => cmpD o x y fun r =>
  if r = true then c env w fun z env w => cmpD p y z fun r => Q r env w else Q false env w
def blS (s : BS) : DS := fun env w Q => s env w fun b env w => Q (.bl b) env w
def doNot (a : BS) : DS := fun env w Q => a env w fun b env w => Q (.bl (!b)) env w
def doIf (c : BS) (a b : DS) : DS := fun env w Q => c env w fun r env w => if r = true then a env w Q else b env w Q
def doTup (es : LS) : DS := fun env w Q => es env w fun ds env w => ds.length ≤ sizeLine ∧ Q (.tup ds) env w
def doLst (es : LS) : DS := fun env w Q => es env w fun ds env w => ds.length ≤ sizeLine ∧ Q (.lst ds) env w
def doAttr (i : Option Nat) (a : DS) (f : Str) : DS := fun env w Q => pkD i a env w fun d env w => match res w d with
  | .obj _ fs => match fs.lookup f with
    | some x => Q x env w
    | none => False
  | _ => False
def doIx (i : Option Nat) (a k : DS) : DS := fun env w Q => pkThen i a k env w fun d x env w => ixD (res w d) x fun y => Q y env w
def doSl (i : Option Nat) (a : DS) (lo hi : OS) : DS := fun env w Q => pkThen i a (fun env w Q => lo env w fun l env w => hi env w fun u env w => Q (l, u) env w) env w fun d x env w => slD (res w d) x.1 x.2 fun y => Q y env w
def doCall (R : RS) (sp : Option Spec) (es : LS) (dd : List D) : DS := fun env w Q => es env w fun ds env w => wpCall sp (ds ++ dd) env w R Q
def doB1 (f : B1) (i : Option Nat) (a : DS) : DS := fun env w Q => pkD i a env w fun d env w => b1D f (res w d) fun y => Q y env w
def doB2 (f : B2) (a b : DS) : DS := fun env w Q => a env w fun x env w => b env w fun y env w => b2D f x y fun z => Q z env w
def doIsT (i : Option Nat) (a : DS) (ts : List Ty) : DS := fun env w Q => pkD i a env w fun d env w => Q (.bl (isTD (res w d) ts)) env w
def doIsC (i : Option Nat) (a : DS) (e : Option Fe) : DS := fun env w Q => match e with
  | some e => pkD i a env w fun d env w => Q (.bl (isCD e.nm (res w d))) env w
  | none => False
def doZip (es : LS) : DS := fun env w Q => es env w fun ds env w => zipD ds fun y => Q y env w
def doRangeL (a : DS) : DS := fun env w Q => a env w fun x env w => match x with
  | .int n => (n ≤ 16777216 ∧ 0 ≤ n) ∧ Q (.lst (rangeD 0 n)) env w
  | _ => False
def doComp (G : Gam) (tg : T) (it : LS) (ifs : BS) (elt : DS) (own : List Nat) : DS := fun env w Q => it env w fun ds env w => shareK env own fun env => frc (wipeE env own) fun env0 =>
  compL (fun d env w nx => bindT G tg d env fun env => ifs env w fun b env w =>
    if b = true then elt env w fun y env w => nx (some y) (wipeE env own) w else nx none (wipeE env own) w)
    ds [] env0 w
    fun acc env' w => frc (backE env env' own) fun env => Q (.lst acc) env w
def doPop (i : Option Nat) (a : DS) (k : OS) : DS := fun env w Q => pkThenL i a k env w fun d l env w => popD env w i d l Q
/-- nothing may be raised -/
def noR : RS := fun _ _ _ => False
section
variable (G : Gam)
mutual
def wpE : RS → E → DS
  | R, .v i => fun env w Q => getShare env i fun d env => Q d env w
  | R, .ci i => fun env w Q => Q (.int i) env w
  | R, .cb b => fun env w Q => Q (.bl b) env w
  | R, .cn => fun env w Q => Q .non env w
  | R, .cs s => fun env w Q => Q (.str s) env w
  | R, .gi k => fun env w Q => match G.gis[k]? with
    | some p => Q (.int p.2) env w
    | none => False
  | R, .bin o a b => doBin o (wpE R a) (wpE R b)
  | R, .neg a => doNeg (wpE R a)
  | R, .cmp o a b => blS (doCmp G o (baseOf b) (wpE R a) (wpE R b))
  | R, .cmp2 o p a b c => blS (doCmp2 o p (wpE R a) (wpE R b) (wpE R c))
  | R, .and_ es => wpAnd R es
  | R, .or_ es => wpOr R es
  | R, .not_ a => doNot (tst (wpE R a))
  | R, .ife c a b => doIf (wpC R c) (wpE R a) (wpE R b)
  | R, .tup es => doTup (wpEs R es)
  | R, .lst es => doLst (wpEs R es)
  | R, .attr a f => doAttr (baseOf a) (wpE R a) f
  | R, .ix a k => doIx (baseOf a) (wpE R a) (wpE R k)
  | R, .sl a lo hi => doSl (baseOf a) (wpE R a) (wpEo R lo) (wpEo R hi)
  | R, .call k es dd => doCall R ((G.fns[k]?).map Fe.sp) (wpEs R es) (dd.map dV)
  | R, .make k es => doCall R ((G.cls[k]?).map Fe.sp) (wpEs R es) []
  | R, .b1 f a => doB1 f (baseOf a) (wpE R a)
  | R, .b2 f a b => doB2 f (wpE R a) (wpE R b)
  | R, .isT a ts => doIsT (baseOf a) (wpE R a) ts
  | R, .isC a k => doIsC (baseOf a) (wpE R a) (G.cls[k]?)
  | R, .zipL es => doZip (wpEs R es)
  | R, .rangeL a => doRangeL (wpE R a)
  | R, .comp elt tg it ifs own => doComp G tg (wpI R it) (wpIfs noR ifs) (wpE noR elt) (own.map (·.2))
  | R, .pop a k => doPop (baseOf a) (wpE R a) (wpEo R k)
def wpC : RS → E → BS
  | R, .and_ es => wpCAnd R es
  | R, .or_ es => wpCOr R es
  | R, .not_ a => fun env w Q => wpC R a env w fun b env w => Q (!b) env w
  | R, .v i => fun env w Q => getS env i fun d => match truD (res w d) with
    | some b => Q b env w
    | none => False
  | R, .cmp o a b => doCmp G o (baseOf b) (wpE R a) (wpE R b)
  | R, .cmp2 o p a b c => doCmp2 o p (wpE R a) (wpE R b) (wpE R c)
  | R, .attr a f => tst (doAttr (baseOf a) (wpE R a) f)
  | R, .ix a k => tst (doIx (baseOf a) (wpE R a) (wpE R k))
  | R, .call k es dd => tst (doCall R ((G.fns[k]?).map Fe.sp) (wpEs R es) (dd.map dV))
  | R, .b1 f a => tst (doB1 f (baseOf a) (wpE R a))
  | R, .isT a ts => tst (doIsT (baseOf a) (wpE R a) ts)
  | R, .isC a k => tst (doIsC (baseOf a) (wpE R a) (G.cls[k]?))
  | R, _ => fun _ _ _ => False
def wpCAnd : RS → Es → BS
  | R, .nil => fun _ _ _ => False
  | R, .cons a .nil => wpC R a
  | R, .cons a r => fun env w Q => wpC R a env w fun b env w => if b = true then wpCAnd R r env w Q else Q false env w
def wpCOr : RS → Es → BS
  | R, .nil => fun _ _ _ => False
  | R, .cons a .nil => wpC R a
  | R, .cons a r => fun env w Q => wpC R a env w fun b env w => if b = true then Q true env w else wpCOr R r env w Q
def wpAnd : RS → Es → DS
  | R, .nil => fun _ _ _ => False
  | R, .cons a .nil => wpE R a
  | R, .cons a r => fun env w Q => wpE R a env w fun d env w => match d with
    | .bl b => if b = true then wpAnd R r env w Q else Q (.bl false) env w
    | _ => False
def wpOr : RS → Es → DS
  | R, .nil => fun _ _ _ => False
  | R, .cons a .nil => wpE R a
  | R, .cons a r => fun env w Q => wpE R a env w fun d env w => match d with
    | .bl b => if b = true then Q (.bl true) env w else wpOr R r env w Q
    | _ => False
def wpEs : RS → Es → LS
  | R, .nil => fun env w Q => Q [] env w
  | R, .cons a r => fun env w Q => wpE R a env w fun d env w => wpEs R r env w fun ds env w => Q (d :: ds) env w
def wpEo : RS → Eo → OS
  | R, .none => fun env w Q => Q none env w
  | R, .some a => fun env w Q => wpE R a env w fun d env w => match d with
    | .int i => Q (some i) env w
    | _ => False
def wpIfs : RS → Es → BS
  | R, .nil => fun env w Q => Q true env w
  | R, .cons a .nil => wpC R a
  | R, .cons _ _ => fun _ _ _ => False
def wpI : RS → I → LS
  | R, .e a => fun env w Q => wpE R a env w fun d env w => itemsD d fun xs => Q xs env w
  | R, .range1 a => fun env w Q => wpE R a env w fun d env w => match d with
    | .int n => small62 n ∧ Q (rangeD 0 n) env w
    | _ => False
  | R, .range2 a b => fun env w Q => wpE R a env w fun x env w => wpE R b env w fun y env w => match x, y with
    | .int i, .int j => (small62 i ∧ small62 j) ∧ Q (rangeD i j) env w
    | _, _ => False
  | R, .enum a => fun env w Q => wpE R a env w fun d env w => match seqOf d with
    | some xs => Q (enumD xs) env w
    | none => False
  | R, .rev a => fun env w Q => wpE R a env w fun d env w => match seqOf d with
    | some xs => Q xs.reverse env w
    | none => False
  | R, .revR a => fun env w Q => wpE R a env w fun d env w => match d with
    | .int n => small62 n ∧ Q (rangeD 0 n).reverse env w
    | _ => False
end

variable (R : RS)
def putD (f : Str) (v : D) : List (Str × D) → List (Str × D)
  | [] => [(f, v)]
  | (g, x) :: r => if g = f then (g, v) :: r else (g, x) :: putD f v r
/-- a field is stored -/
def chgF (env : Fm) (w : W) (i : Option Nat) (d : D) (f : Str) (x : D) (Q : Fm → W → Prop) : Prop := match d with
  | .h n => match w[n]? with
    | some (.obj c fs) => fs.length < 900 ∧ Q env (w.set n (.obj c (putD f x fs)))
    | _ => False
  | _ => match i with
    | some i => match env[i]? with
      | some (.own (.obj c fs)) => fs.length < 900 ∧ Q (env.set i (.own (.obj c (putD f x fs)))) w
      | _ => False
    | none => False
def setsD (env : Fm) : List Nat → List D → Fm
  | i :: l, d :: ds => setsD (env.set i (.val d)) l ds
  | _, _ => env
mutual
def wpS : S → Fm → W → En → Prop
  | .set i e, env, w, K => (G.self = true → i ≠ 0) ∧ wpE G R e env w fun d env w => K.nx (env.set i (mkSlot e.fresh d)) w
  | .setT l e, env, w, K => wpE G R e env w fun d env w => bindT G (.t l) d env fun env => K.nx env w
  | .par l es, env, w, K => (G.self = true → 0 ∉ l) ∧ wpEs G R es env w fun ds env w => ds.length = l.length ∧ K.nx (setsD env l ds) w
  | .app a e, env, w, K => pkThenL (baseOf a) (wpE G R a) (wpE G R e) env w fun d x env w => chgL env w (baseOf a) d (fun xs => xs ++ [x]) (fun xs => xs.length < sizeLine) K.nx
  | .ins _ _ _, _, _, _ => False
  | .setIx a k e, env, w, K => wpE G R e env w fun x env w => pkThen (baseOf a) (wpE G R a) (wpE G R k) env w fun d kd env w => match res w d, kd with
      | .lst xs, .int j => match ixN xs.length j with
        | some m => chgL env w (baseOf a) d (fun xs => xs.set m x) (fun _ => True) K.nx
        | none => False
      | _, _ => False
  | .fld a f e, env, w, K => wpE G R e env w fun x env w => pkD (baseOf a) (wpE G R a) env w fun d env w => chgF env w (baseOf a) d f x K.nx
  | .ex e, env, w, K => wpE G R e env w fun _ env w => K.nx env w
  | .ret e, env, w, K => G.self = false ∧ wpE G R e env w fun d _ w => K.rt d w
  | .retN, _, w, K => G.self = false ∧ K.rt .non w
  | .retH e, env, w, K => G.self = false ∧ wpE G R e env w fun d _ w => match d with
    | .lst xs => K.rt (.h w.length) (w ++ [.lst xs])
    | _ => False
  | .if_ c a b, env, w, K => wpC G R c env w fun r env w => if r = true then wpSs a env w K else wpSs b env w K
  | .for_ t it body, env, w, K => wpI G R it env w fun ds env w =>
      forL (fun d env w nx => bindT G t d env fun env => wpSs body env w { K with nx := nx, ct := nx, bk := K.nx }) ds env w K.nx
  | .while_ c body, env, w, K => ∃ J : Nat → Fm → W → Prop, (∃ m, J m env w) ∧ ∀ m env w, J m env w → wpC G R c env w fun r env w =>
      if r = true then wpSs body env w { K with nx := fun env w => ∃ m', m' < m ∧ J m' env w, ct := fun env w => ∃ m', m' < m ∧ J m' env w, bk := K.nx } else K.nx env w
  | .never, _, _, _ => False
  | .pass, env, w, K => K.nx env w
  | .cont, env, w, K => K.ct env w
  | .brk, env, w, K => K.bk env w
def wpSs : Ss → Fm → W → En → Prop
  | .nil, env, w, K => K.nx env w
  | .cons s r, env, w, K => frc env fun env => wpS s env w { K with nx := fun env w => wpSs r env w K }
end
end
example {G : Gam} {R : RS} {i : Int} {env : Fm} {w : W} {Q : D → Fm → W → Prop} : wpE G R (.ci i) env w Q = Q (.int i) env w := rfl
end Py

set_option Elab.async false
set_option linter.all false
set_option maxRecDepth 100000
set_option maxHeartbeats 4000000
/-! PyB: what stands for what: plain data and the tracked heap. -/
namespace Py
open PySem PySem.Spec PyProof.Rows L2

/-- the def's entry: the heap, the handles, the instance that is being made -/
structure Base where
  H0 : Hp
  G0 : List Addr
  sf : Option Addr
/-- the module: its names, its written part; the fields and the classes that are spoken of -/
structure Mo where
  mg : Str → Option Value
  K : PySem.W.Frag
  fl : List Str
  cn : List Str
structure Ct where
  m : Mo
  O : Addr → Prop
  B : Base
/-- the class at C, called n -/
structure ClF (c : Mo) (C : Addr) (n : Str) : Prop where
  cls : Cls c.K C
  noat : ∀ f, f ∈ c.fl → NoAttr c.K C f
  ha : PySem.W.findIn c.K (.ref C) "__class__" = some (some (.builtin "object.__class__"))
  hn : PySem.W.specialIn c.K (.builtin "object.__class__") "__get__" = some (some (.builtin "getset_descriptor.__get__"))
  htk : PySem.W.takesIn c.K (.builtin "object.__class__") = some true
  hm : PySem.W.mroIn c.K C (.type "object") = some true
  ins : ∀ n' C', n' ∈ c.cn → c.mg n' = some (.ref C') → PySem.W.kitOne c.K (.ref C) (.ref C') = some (decide (n = n'))
  insT : ∀ T, T ∈ ["int", "bool", "str", "list", "tuple"] → PySem.W.kitOne c.K (.ref C) (.type T) = some false

def SqS (K : PySem.W.Frag) (H : Hp) (a : Addr) (xs : List V) : Prop := (∃ o, H a = some (.frz o (.lst xs))) ∨
    ∃ (o : Obj) (its : Array Value) (n : Nat), K.lookup a = some o ∧ o.cls = .type "list" ∧ o.dict = none ∧ o.data = .seq its n ∧ its.size ≤ sizeLine ∧ Vals xs its.toList
theorem SqS.seq {K : PySem.W.Frag} {H : Hp} {a : Addr} {xs : List V} (h : SqS K H a xs) : SqL K H a xs := by
  rcases h with h | h
  · exact .inl (.inr h)
  · exact .inr h

mutual
inductive Rep (c : Mo) (H : Hp) (ok : Addr → Prop) (G : List Addr) : V → D → Prop
  | non : Rep c H ok G .non .non
  | bl (b : Bool) : Rep c H ok G (.bl b) (.bl b)
  | int (i : Int) : Rep c H ok G (.int i) (.int i)
  | str (s : Str) : Rep c H ok G (.str s) (.str s)
  | tup {a : Addr} {vs : List V} {ds : List D} (h : H a = some (.tup vs)) (r : Reps c H ok G vs ds) : Rep c H ok G (.ref a) (.tup ds)
  | lst {a : Addr} {vs : List V} {ds : List D} (o : ok a) (h : H a = some (.lst vs)) (r : Reps c H ok G vs ds) : Rep c H ok G (.ref a) (.lst ds)
  | obj {a C dx : Addr} {fvs : List (Str × V)} {n : Str} {fs : List (Str × D)} (o : ok a) (h : H a = some (.ins C dx fvs)) (m : c.mg n = some (.ref C)) (f : ClF c C n) (nf : ∀ p, p ∈ fvs → p.1 ∈ c.fl) (r : RepF c H ok G fvs fs) : Rep c H ok G (.ref a) (.obj n fs)
  | h {a : Addr} {n : Nat} (e : G[n]? = some a) : Rep c H ok G (.ref a) (.h n)
  | scr {a : Addr} {ns : List Int} (s : SqS c.K H a (ns.map V.int)) : Rep c H ok G (.ref a) (.scr ns)
inductive Reps (c : Mo) (H : Hp) (ok : Addr → Prop) (G : List Addr) : List V → List D → Prop
  | nil : Reps c H ok G [] []
  | cons {v : V} {d : D} {vs : List V} {ds : List D} (h : Rep c H ok G v d) (r : Reps c H ok G vs ds) : Reps c H ok G (v :: vs) (d :: ds)
inductive RepF (c : Mo) (H : Hp) (ok : Addr → Prop) (G : List Addr) : List (Str × V) → List (Str × D) → Prop
  | nil : RepF c H ok G [] []
  | cons {f : Str} {v : V} {d : D} {vs : List (Str × V)} {ds : List (Str × D)} (h : Rep c H ok G v d) (r : RepF c H ok G vs ds) : RepF c H ok G ((f, v) :: vs) ((f, d) :: ds)
end

/-- a thing that never changes -/
def Imm : HO → Prop
  | .tup _ => True
  | .frz _ _ => True
  | _ => False
section
variable {c : Mo} {H H' : Hp} {ok ok' : Addr → Prop} {G G' : List Addr}
mutual
theorem Rep.go (st : ∀ a o, H a = some o → (ok a ∨ Imm o) → H' a = some o) (hok : ∀ a o, ok a → H a = some o → ok' a) (hG : ∀ (n : Nat) (a : Addr), G[n]? = some a → G'[n]? = some a) :
    ∀ {v : V} {d : D}, Rep c H ok G v d → Rep c H' ok' G' v d
  | _, _, .non => .non
  | _, _, .bl b => .bl b
  | _, _, .int i => .int i
  | _, _, .str s => .str s
  | _, _, .tup h r => .tup (st _ _ h (.inr True.intro)) (Reps.go st hok hG r)
  | _, _, .lst o h r => .lst (hok _ _ o h) (st _ _ h (.inl o)) (Reps.go st hok hG r)
  | _, _, .obj o h m f nf r => .obj (hok _ _ o h) (st _ _ h (.inl o)) m f nf (RepF.go st hok hG r)
  | _, _, .h e => .h (hG _ _ e)
  | _, _, .scr (.inl ⟨o, h⟩) => .scr (.inl ⟨o, st _ _ h (.inr True.intro)⟩)
  | _, _, .scr (.inr h) => .scr (.inr h)
theorem Reps.go (st : ∀ a o, H a = some o → (ok a ∨ Imm o) → H' a = some o) (hok : ∀ a o, ok a → H a = some o → ok' a) (hG : ∀ (n : Nat) (a : Addr), G[n]? = some a → G'[n]? = some a) :
    ∀ {vs : List V} {ds : List D}, Reps c H ok G vs ds → Reps c H' ok' G' vs ds
  | _, _, .nil => .nil
  | _, _, .cons h r => .cons (Rep.go st hok hG h) (Reps.go st hok hG r)
theorem RepF.go (st : ∀ a o, H a = some o → (ok a ∨ Imm o) → H' a = some o) (hok : ∀ a o, ok a → H a = some o → ok' a) (hG : ∀ (n : Nat) (a : Addr), G[n]? = some a → G'[n]? = some a) :
    ∀ {vs : List (Str × V)} {ds : List (Str × D)}, RepF c H ok G vs ds → RepF c H' ok' G' vs ds
  | _, _, .nil => .nil
  | _, _, .cons h r => .cons (Rep.go st hok hG h) (RepF.go st hok hG r)
end
theorem Reps.length : ∀ {vs : List V} {ds : List D}, Reps c H ok G vs ds → vs.length = ds.length
  | _, _, .nil => rfl
  | _, _, .cons _ r => congrArg Nat.succ r.length
theorem Reps.get : ∀ {vs : List V} {ds : List D} {i : Nat} {d : D}, Reps c H ok G vs ds → ds[i]? = some d → ∃ v, vs[i]? = some v ∧ Rep c H ok G v d
  | _, _, 0, _, .cons h _, e => by
    simp at e
    subst e
    exact ⟨_, rfl, h⟩
  | _, _, i + 1, _, .cons _ r, e => by
    obtain ⟨v, e1, e2⟩ := r.get (i := i) (by simpa using e)
    exact ⟨v, by simpa using e1, e2⟩
theorem Reps.getV : ∀ {vs : List V} {ds : List D} {i : Nat} {v : V}, Reps c H ok G vs ds → vs[i]? = some v → ∃ d, ds[i]? = some d ∧ Rep c H ok G v d
  | _, _, 0, _, .cons h _, e => by
    simp at e
    subst e
    exact ⟨_, rfl, h⟩
  | _, _, i + 1, _, .cons _ r, e => by
    obtain ⟨v, e1, e2⟩ := r.getV (i := i) (by simpa using e)
    exact ⟨v, by simpa using e1, e2⟩
theorem Reps.append : ∀ {vs us : List V} {ds es : List D}, Reps c H ok G vs ds → Reps c H ok G us es → Reps c H ok G (vs ++ us) (ds ++ es)
  | _, _, _, _, .nil, s => s
  | _, _, _, _, .cons h r, s => .cons h (r.append s)
theorem Reps.drop : ∀ {vs : List V} {ds : List D} (n : Nat), Reps c H ok G vs ds → Reps c H ok G (vs.drop n) (ds.drop n)
  | _, _, 0, r => r
  | _, _, _ + 1, .nil => .nil
  | _, _, n + 1, .cons _ r => r.drop n
theorem Reps.take : ∀ {vs : List V} {ds : List D} (n : Nat), Reps c H ok G vs ds → Reps c H ok G (vs.take n) (ds.take n)
  | _, _, 0, _ => .nil
  | _, _, _ + 1, .nil => .nil
  | _, _, n + 1, .cons h r => .cons h (r.take n)
theorem Reps.set {v : V} {d : D} (h : Rep c H ok G v d) : ∀ {vs : List V} {ds : List D} (n : Nat), Reps c H ok G vs ds → Reps c H ok G (vs.set n v) (ds.set n d)
  | _, _, _, .nil => .nil
  | _, _, 0, .cons _ r => .cons h r
  | _, _, n + 1, .cons q r => .cons q (r.set h n)
theorem Reps.eraseIdx : ∀ {vs : List V} {ds : List D} (n : Nat), Reps c H ok G vs ds → Reps c H ok G (vs.eraseIdx n) (ds.eraseIdx n)
  | _, _, _, .nil => .nil
  | _, _, 0, .cons _ r => r
  | _, _, n + 1, .cons q r => .cons q (r.eraseIdx n)
theorem Reps.dropLast {vs : List V} {ds : List D} (r : Reps c H ok G vs ds) : Reps c H ok G vs.dropLast ds.dropLast := by
  rw [List.dropLast_eq_take, List.dropLast_eq_take, r.length]
  exact r.take _
theorem Reps.reverse : ∀ {vs : List V} {ds : List D}, Reps c H ok G vs ds → Reps c H ok G vs.reverse ds.reverse
  | _, _, .nil => .nil
  | _, _, .cons h r => by
    rw [List.reverse_cons, List.reverse_cons]
    exact r.reverse.append (.cons h .nil)
theorem Reps.rep {vs : List V} {ds : List D} (r : Reps c H ok G vs ds) : ∀ n : Nat, Reps c H ok G (List.replicate n vs).flatten (List.replicate n ds).flatten
  | 0 => .nil
  | n + 1 => by
    rw [List.replicate_succ, List.replicate_succ, List.flatten_cons, List.flatten_cons]
    exact r.append (r.rep n)
theorem Reps.cut {vs : List V} {ds : List D} (r : Reps c H ok G vs ds) (lo hi : Option Int) : Reps c H ok G (cutV vs lo hi) (cutD ds lo hi) := by
  unfold cutV cutD
  rw [r.length]
  exact (r.drop _).take _
theorem RepF.lookup {f : Str} {d : D} : ∀ {vs : List (Str × V)} {ds : List (Str × D)}, RepF c H ok G vs ds → ds.lookup f = some d → ∃ v, vs.lookup f = some v ∧ Rep c H ok G v d
  | _, _, .nil, e => by simp at e
  | (g, v) :: _, (_, x) :: _, .cons h r, e => by
    unfold List.lookup at e ⊢
    cases q : (f == g) with
    | true =>
      rw [q] at e
      simp only at e ⊢
      cases e
      exact ⟨_, rfl, h⟩
    | false =>
      rw [q] at e
      simp only at e ⊢
      exact r.lookup e
theorem RepF.length : ∀ {vs : List (Str × V)} {ds : List (Str × D)}, RepF c H ok G vs ds → vs.length = ds.length
  | _, _, .nil => rfl
  | _, _, .cons _ r => congrArg Nat.succ r.length
theorem RepF.put {f : Str} {v : V} {d : D} (h : Rep c H ok G v d) : ∀ {vs : List (Str × V)} {ds : List (Str × D)}, RepF c H ok G vs ds → RepF c H ok G (putF f v vs) (putD f d ds)
  | _, _, .nil => .cons h .nil
  | (g, x) :: vs, (_, y) :: ds, .cons q r => by
    unfold putF putD
    by_cases e : g = f
    · rw [if_pos e, if_pos e]
      exact .cons h r
    · rw [if_neg e, if_neg e]
      exact .cons q (r.put h)
theorem reps_ints : ∀ ns : List Int, Reps c H ok G (ns.map V.int) (ns.map D.int)
  | [] => .nil
  | n :: ns => .cons (.int n) (reps_ints ns)
theorem Reps.intsV : ∀ {vs : List V} {ds : List D} {ns : List Int}, Reps c H ok G vs ds → intsOf ds = some ns → vs = ns.map V.int
  | _, _, _, .nil, e => by
    cases e
    rfl
  | _, d :: ds, _, .cons h r, e => by
    cases h with
    | int i =>
      unfold intsOf at e
      cases q : intsOf ds with
      | none => rw [q] at e; cases e
      | some ms =>
        rw [q] at e
        cases e
        rw [List.map_cons, r.intsV q]
    | _ => cases e
theorem Reps.blsV : ∀ {vs : List V} {ds : List D} {ns : List Bool}, Reps c H ok G vs ds → blsOf ds = some ns → vs = ns.map V.bl
  | _, _, _, .nil, e => by
    cases e
    rfl
  | _, d :: ds, _, .cons h r, e => by
    cases h with
    | bl i =>
      unfold blsOf at e
      cases q : blsOf ds with
      | none => rw [q] at e; cases e
      | some ms =>
        rw [q] at e
        cases e
        rw [List.map_cons, r.blsV q]
    | _ => cases e
mutual
theorem Rep.dp : ∀ {v : V} {d : D}, Rep c H ok G v d → isP d = true → Dp c.K H v (toP d)
  | _, _, .non, _ => .non
  | _, _, .bl b, _ => .bl b
  | _, _, .int i, _ => .int i
  | _, _, .str s, _ => .str s
  | _, _, .tup h r, p => .tup (.inl (.inl h)) (Reps.dp r p)
  | _, _, .lst _ h r, p => .lst (.inl (.inl h)) (Reps.dp r p)
  | _, _, .obj .., p => nomatch p
  | _, _, .h _, p => nomatch p
  | _, _, .scr _, p => nomatch p
theorem Reps.dp : ∀ {vs : List V} {ds : List D}, Reps c H ok G vs ds → isPs ds = true → DpAll c.K H vs (toPs ds)
  | _, _, .nil, _ => .nil
  | _, d :: ds, .cons h r, p => by
    have q : (isP d && isPs ds) = true := p
    obtain ⟨p1, p2⟩ := Bool.and_eq_true_iff.mp q
    exact .cons (Rep.dp h p1) (Reps.dp r p2)
end
end

/-! ### a moment -/
def Own (σ : L2.St) (env : Fm) (a : Addr) : Prop := ∃ (i : Nat) (k : Cell), env[i]? = some (.own k) ∧ σ[i]? = some (some (.ref a))
def Okk (O : Addr → Prop) (σ : L2.St) (env : Fm) (G : List Addr) (a : Addr) : Prop := ¬ O a ∧ ¬ Own σ env a ∧ a ∉ G
inductive CellR (c : Mo) (H : Hp) (ok : Addr → Prop) (G : List Addr) (a : Addr) : Cell → Prop
  | lst {vs : List V} {xs : List D} (h : H a = some (.lst vs)) (r : Reps c H ok G vs xs) : CellR c H ok G a (.lst xs)
  | obj {C dx : Addr} {fvs : List (Str × V)} {n : Str} {fs : List (Str × D)} (h : H a = some (.ins C dx fvs)) (m : c.mg n = some (.ref C)) (f : ClF c C n) (nf : ∀ p, p ∈ fvs → p.1 ∈ c.fl) (r : RepF c H ok G fvs fs) : CellR c H ok G a (.obj n fs)
structure Rel (c : Ct) (σ : L2.St) (H : Hp) (env : Fm) (w : W) (G : List Addr) : Prop where
  len : env.length = σ.length
  val : ∀ (i : Nat) (d : D), env[i]? = some (.val d) → ∃ v, σ[i]? = some (some v) ∧ Rep c.m H (Okk c.O σ env G) G v d
  own : ∀ (i : Nat) (k : Cell), env[i]? = some (.own k) → ∃ a, σ[i]? = some (some (.ref a)) ∧ CellR c.m H (Okk c.O σ env G) G a k ∧ a ∉ G ∧ ¬ c.O a
  inj : ∀ (i j : Nat) (k k' : Cell) (a : Addr), env[i]? = some (.own k) → env[j]? = some (.own k') → σ[i]? = some (some (.ref a)) → σ[j]? = some (some (.ref a)) → i = j
  wl : w.length = G.length
  nd : G.Nodup
  st : ∀ (n : Nat) (k : Cell) (a : Addr), w[n]? = some k → G[n]? = some a → CellR c.m H (Okk c.O σ env G) G a k ∧ ¬ c.O a
  fr : ∀ a o, c.B.H0 a = some o → a ∉ c.B.G0 → c.B.sf ≠ some a → H a = some o ∧ ¬ Own σ env a
  gx : ∃ l, G = c.B.G0 ++ l
  gn : ∀ a, a ∈ G → a ∈ c.B.G0 ∨ c.B.H0 a = none
  sf : ∀ x, c.B.sf = some x → σ[0]? = some (some (.ref x))
  ot : ∀ a, c.O a → H a ≠ none
  sx : ∀ x, c.B.sf = some x → H x ≠ none
structure Step (σ : L2.St) (env : Fm) (G : List Addr) (H : Hp) (env' : Fm) (G' : List Addr) (H' : Hp) : Prop where
  fr : ∀ a o, H a = some o → ¬ Own σ env a → a ∉ G → H' a = some o
  own : ∀ a, Own σ env' a → Own σ env a
  gx : ∃ l, G' = G ++ l
  gn : ∀ a, a ∈ G' → a ∈ G ∨ H a = none
  tr : ∀ a, H a ≠ none → H' a ≠ none

section
variable {c : Ct} {σ : L2.St} {H H' H1 H2 : Hp} {env env' env1 env2 : Fm} {w w' : W} {G G' G1 G2 : List Addr}
theorem CellR.at_ {m : Mo} {ok : Addr → Prop} {a : Addr} {k : Cell} (h : CellR m H ok G a k) : ∃ o, H a = some o ∧ ¬ Imm o := by
  cases h with
  | lst h _ => exact ⟨_, h, fun z => z⟩
  | obj h _ _ _ _ => exact ⟨_, h, fun z => z⟩
theorem CellR.go {m : Mo} {ok ok' : Addr → Prop} {a : Addr} {k : Cell} (e : H' a = H a) (st : ∀ a o, H a = some o → (ok a ∨ Imm o) → H' a = some o) (hok : ∀ a o, ok a → H a = some o → ok' a) (hG : ∀ (n : Nat) (a : Addr), G[n]? = some a → G'[n]? = some a)
    (h : CellR m H ok G a k) : CellR m H' ok' G' a k := by
  cases h with
  | lst h r => exact .lst (e.trans h) (Reps.go st hok hG r)
  | obj h m f nf r => exact .obj (e.trans h) m f nf (RepF.go st hok hG r)
theorem Rel.ownAt (r : Rel c σ H env w G) {a : Addr} (h : Own σ env a) : ∃ o, H a = some o ∧ ¬ Imm o := by
  obtain ⟨i, k, e1, e2⟩ := h
  obtain ⟨b, e3, cr, _⟩ := r.own i k e1
  rw [e2] at e3
  cases e3
  exact cr.at_
theorem Rel.gAt (r : Rel c σ H env w G) {a : Addr} (h : a ∈ G) : ∃ o, H a = some o ∧ ¬ Imm o := by
  obtain ⟨n, hn⟩ := List.getElem?_of_mem h
  have hl : n < w.length := by
    rw [r.wl]
    exact (List.getElem?_eq_some_iff.mp hn).1
  obtain ⟨cr, _⟩ := r.st n w[n] a (List.getElem?_eq_getElem hl) hn
  exact cr.at_
/-- what is read stays through a step -/
theorem Step.stay (s : Step σ env G H env' G' H') (r : Rel c σ H env w G) : ∀ a o, H a = some o → (Okk c.O σ env G a ∨ Imm o) → H' a = some o := fun a o e h => by
  rcases h with h | h
  · exact s.fr a o e h.2.1 h.2.2
  · refine s.fr a o e (fun z => ?_) fun z => ?_
    · obtain ⟨o', e', n⟩ := r.ownAt z
      rw [e] at e'
      cases e'
      exact n h
    · obtain ⟨o', e', n⟩ := r.gAt z
      rw [e] at e'
      cases e'
      exact n h
theorem Step.okk (s : Step σ env G H env' G' H') {O : Addr → Prop} : ∀ a o, Okk O σ env G a → H a = some o → Okk O σ env' G' a := fun a o h e =>
  ⟨h.1, fun z => h.2.1 (s.own a z), fun z => (s.gn a z).elim h.2.2 fun n => by rw [e] at n; cases n⟩
theorem Step.gget (s : Step σ env G H env' G' H') : ∀ (n : Nat) (a : Addr), G[n]? = some a → G'[n]? = some a := fun n a e => by
  obtain ⟨l, rfl⟩ := s.gx
  rw [List.getElem?_append_left (List.getElem?_eq_some_iff.mp e).1]
  exact e
theorem Rep.step {v : V} {d : D} (h : Rep c.m H (Okk c.O σ env G) G v d) (s : Step σ env G H env' G' H') (r : Rel c σ H env w G) : Rep c.m H' (Okk c.O σ env' G') G' v d := h.go (s.stay r) s.okk s.gget
theorem Reps.step {v : List V} {d : List D} (h : Reps c.m H (Okk c.O σ env G) G v d) (s : Step σ env G H env' G' H') (r : Rel c σ H env w G) : Reps c.m H' (Okk c.O σ env' G') G' v d := h.go (s.stay r) s.okk s.gget
theorem Step.rfl' : Step σ env G H env G H := ⟨fun _ _ e _ _ => e, fun _ h => h, ⟨[], (List.append_nil G).symm⟩, fun _ h => .inl h, fun _ h => h⟩
theorem Step.trans (s : Step σ env G H env1 G1 H1) (t : Step σ env1 G1 H1 env2 G2 H2) : Step σ env G H env2 G2 H2 where
  fr := fun a o e h1 h2 => t.fr a o (s.fr a o e h1 h2) (fun z => h1 (s.own a z)) fun z => (s.gn a z).elim h2 fun n => by rw [e] at n; cases n
  own := fun a h => s.own a (t.own a h)
  gx := by
    obtain ⟨l, rfl⟩ := s.gx
    obtain ⟨m, rfl⟩ := t.gx
    exact ⟨l ++ m, List.append_assoc ..⟩
  gn := fun a h => (t.gn a h).elim (s.gn a) fun n => by
    by_cases q : H a = none
    · exact .inr q
    · exact absurd n (s.tr a q)
  tr := fun a h => t.tr a (s.tr a h)
/-- a new thing at a free place -/
theorem step_new {p : Addr} {o : HO} (hp : H p = none) : Step σ env G H env G (upd H p o) :=
  ⟨fun a u e _ _ => by rw [upd_ne (ne_of_none e hp)]; exact e, fun _ h => h, ⟨[], (List.append_nil G).symm⟩, fun _ h => .inl h, fun a h => by
    by_cases q : a = p
    · subst q
      rw [upd_same]
      intro z
      cases z
    · rw [upd_ne q]
      exact h⟩
/-- all that a moment says, behind a step that leaves the slots -/
theorem Rel.step (r : Rel c σ H env w G) (s : Step σ env G H env G H') (k1 : ∀ a, Own σ env a → H' a = H a) (k2 : ∀ a, a ∈ G → H' a = H a) : Rel c σ H' env w G where
  len := r.len
  val := fun i d e => by
    obtain ⟨v, e1, h⟩ := r.val i d e
    exact ⟨v, e1, h.step s r⟩
  own := fun i k e => by
    obtain ⟨a, e1, h, n1, n2⟩ := r.own i k e
    exact ⟨a, e1, h.go (k1 a ⟨i, k, e, e1⟩) (s.stay r) s.okk s.gget, n1, n2⟩
  inj := r.inj
  wl := r.wl
  nd := r.nd
  st := fun n k a e1 e2 => by
    obtain ⟨h, n2⟩ := r.st n k a e1 e2
    exact ⟨h.go (k2 a (List.mem_of_getElem? e2)) (s.stay r) s.okk s.gget, n2⟩
  fr := fun a o e h1 h2 => by
    obtain ⟨h3, h4⟩ := r.fr a o e h1 h2
    exact ⟨s.fr a o h3 h4 (fun z => (r.gn a z).elim h1 fun n => by rw [e] at n; cases n), h4⟩
  gx := r.gx
  gn := r.gn
  sf := r.sf
  ot := fun a h => s.tr a (r.ot a h)
  sx := fun x h => s.tr x (r.sx x h)
theorem Rel.notNew (r : Rel c σ H env w G) {p : Addr} (hp : H p = none) : ¬ Own σ env p ∧ p ∉ G := by
  refine ⟨fun z => ?_, fun z => ?_⟩
  · obtain ⟨u, e, _⟩ := r.ownAt z
    rw [hp] at e
    cases e
  · obtain ⟨u, e, _⟩ := r.gAt z
    rw [hp] at e
    cases e
theorem Rel.new (r : Rel c σ H env w G) {p : Addr} {o : HO} (hp : H p = none) : Rel c σ (upd H p o) env w G := by
  refine r.step (step_new hp) (fun a h => upd_ne fun z => ?_) fun a h => upd_ne fun z => ?_
  · exact (r.notNew hp).1 (z ▸ h)
  · exact (r.notNew hp).2 (z ▸ h)
/-- a free place is nobody's -/
theorem Rel.okNew (r : Rel c σ H env w G) {p : Addr} (hp : H p = none) : Okk c.O σ env G p := ⟨fun z => r.ot p z hp, r.notNew hp⟩

/-! ### peeks, handles, sharing -/
inductive Pk (c : Mo) (H : Hp) (ok : Addr → Prop) (G : List Addr) : V → D → Prop
  | rep {v : V} {d : D} (h : Rep c H ok G v d) : Pk c H ok G v d
  | cell {a : Addr} {k : Cell} (h : CellR c H ok G a k) : Pk c H ok G (.ref a) k.toD
section
variable {ok : Addr → Prop} {v : V} {xs : List D}
theorem Pk.lst (p : Pk c.m H ok G v (.lst xs)) : ∃ a vs, v = .ref a ∧ H a = some (.lst vs) ∧ Reps c.m H ok G vs xs := by
  generalize e : D.lst xs = d at p
  cases p with
  | rep h =>
    subst e
    cases h with
    | lst o h r => exact ⟨_, _, rfl, h, r⟩
  | cell h =>
    cases h with
    | lst h r =>
      cases e
      exact ⟨_, _, rfl, h, r⟩
    | obj h m f nf r => cases e
theorem Pk.tup (p : Pk c.m H ok G v (.tup xs)) : ∃ a vs, v = .ref a ∧ H a = some (.tup vs) ∧ Reps c.m H ok G vs xs := by
  generalize e : D.tup xs = d at p
  cases p with
  | rep h =>
    subst e
    cases h with
    | tup h r => exact ⟨_, _, rfl, h, r⟩
  | cell h => cases h <;> cases e
theorem Pk.obj {n : Str} {fs : List (Str × D)} (p : Pk c.m H ok G v (.obj n fs)) : ∃ a C dx fvs, v = .ref a ∧ H a = some (.ins C dx fvs) ∧ c.m.mg n = some (.ref C) ∧ ClF c.m C n ∧ (∀ p, p ∈ fvs → p.1 ∈ c.m.fl) ∧ RepF c.m H ok G fvs fs := by
  generalize e : D.obj n fs = d at p
  cases p with
  | rep h =>
    subst e
    cases h with
    | obj o h m f nf r => exact ⟨_, _, _, _, rfl, h, m, f, nf, r⟩
  | cell h =>
    cases h with
    | lst h r => cases e
    | obj h m f nf r =>
      cases e
      exact ⟨_, _, _, _, rfl, h, m, f, nf, r⟩
theorem Pk.hnd {n : Nat} (p : Pk c.m H ok G v (.h n)) : ∃ a, v = .ref a ∧ G[n]? = some a := by
  generalize e : D.h n = d at p
  cases p with
  | rep h =>
    subst e
    cases h with
    | h e => exact ⟨_, rfl, e⟩
  | cell h => cases h <;> cases e
theorem Pk.scr {ns : List Int} (p : Pk c.m H ok G v (.scr ns)) : ∃ a, v = .ref a ∧ SqS c.m.K H a (ns.map V.int) := by
  generalize e : D.scr ns = d at p
  cases p with
  | rep h =>
    subst e
    cases h with
    | scr e => exact ⟨_, rfl, e⟩
  | cell h => cases h <;> cases e
theorem Pk.int {i : Int} (p : Pk c.m H ok G v (.int i)) : v = .int i := by
  generalize e : D.int i = d at p
  cases p with
  | rep h =>
    subst e
    cases h
    rfl
  | cell h => cases h <;> cases e
theorem Pk.bl {i : Bool} (p : Pk c.m H ok G v (.bl i)) : v = .bl i := by
  generalize e : D.bl i = d at p
  cases p with
  | rep h =>
    subst e
    cases h
    rfl
  | cell h => cases h <;> cases e
theorem Pk.str {i : Str} (p : Pk c.m H ok G v (.str i)) : v = .str i := by
  generalize e : D.str i = d at p
  cases p with
  | rep h =>
    subst e
    cases h
    rfl
  | cell h => cases h <;> cases e
theorem Pk.non (p : Pk c.m H ok G v .non) : v = .non := by
  generalize e : D.non = d at p
  cases p with
  | rep h =>
    subst e
    cases h
    rfl
  | cell h => cases h <;> cases e
end
theorem Rel.peek (r : Rel c σ H env w G) {i : Nat} {Q : D → Prop} (h : getS env i Q) : ∃ v d, σ[i]? = some (some v) ∧ Pk c.m H (Okk c.O σ env G) G v d ∧ Q d := by
  unfold getS at h
  cases e : env[i]? with
  | none =>
    rw [e] at h
    exact h.elim
  | some s =>
    rw [e] at h
    cases s with
    | none => exact h.elim
    | val d =>
      obtain ⟨v, e1, h1⟩ := r.val i d e
      exact ⟨v, d, e1, .rep h1, h⟩
    | own k =>
      obtain ⟨a, e1, h1, _⟩ := r.own i k e
      exact ⟨_, _, e1, .cell h1, h⟩
theorem Rel.resP (r : Rel c σ H env w G) {v : V} {d : D} (p : Pk c.m H (Okk c.O σ env G) G v d) : Pk c.m H (Okk c.O σ env G) G v (res w d) := by
  cases d with
  | h n =>
    show Pk _ _ _ _ v (match w[n]? with | some c => c.toD | none => .h n)
    cases e : w[n]? with
    | none => exact p
    | some k =>
      obtain ⟨a, rfl, eg⟩ := p.hnd
      exact .cell (r.st n k a e eg).1
  | _ => exact p
theorem get_set_ne {α : Type} {l : List α} {i j : Nat} {x : α} (h : i ≠ j) : (l.set i x)[j]? = l[j]? := List.getElem?_set_ne h
/-- the slot is shared from now on -/
theorem Rel.share (r : Rel c σ H env w G) (i : Nat) : Rel c σ H (shareS env i) w G ∧ Step σ env G H (shareS env i) G H := by
  unfold shareS
  cases e : env[i]? with
  | none => exact ⟨r, Step.rfl'⟩
  | some s =>
    cases s with
    | none => exact ⟨r, Step.rfl'⟩
    | val d => exact ⟨r, Step.rfl'⟩
    | own k =>
      show Rel c σ H (env.set i (.val k.toD)) w G ∧ Step σ env G H (env.set i (.val k.toD)) G H
      obtain ⟨a, e1, h1, n1, n2⟩ := r.own i k e
      have own : ∀ b, Own σ (env.set i (.val k.toD)) b → Own σ env b := fun b ⟨j, k', q1, q2⟩ => by
        by_cases ij : i = j
        · subst ij
          rw [List.getElem?_set_self (List.getElem?_eq_some_iff.mp e).1] at q1
          cases q1
        · rw [get_set_ne ij] at q1
          exact ⟨j, k', q1, q2⟩
      have s : Step σ env G H (env.set i (.val k.toD)) G H := ⟨fun _ _ e _ _ => e, own, ⟨[], (List.append_nil G).symm⟩, fun _ h => .inl h, fun _ h => h⟩
      have na : ¬ Own σ (env.set i (.val k.toD)) a := fun ⟨j, k', q1, q2⟩ => by
        by_cases ij : i = j
        · subst ij
          rw [List.getElem?_set_self (List.getElem?_eq_some_iff.mp e).1] at q1
          cases q1
        · rw [get_set_ne ij] at q1
          exact ij (r.inj i j k k' a e q1 e1 q2)
      have oka : Okk c.O σ (env.set i (.val k.toD)) G a := ⟨n2, na, n1⟩
      have cell : ∀ b k', CellR c.m H (Okk c.O σ env G) G b k' → CellR c.m H (Okk c.O σ (env.set i (.val k.toD)) G) G b k' := fun b k' q => q.go rfl (s.stay r) s.okk s.gget
      refine ⟨⟨by rw [List.length_set]; exact r.len, fun j d q => ?_, fun j k' q => ?_, fun j j' k1 k2 b q1 q2 q3 q4 => ?_, r.wl, r.nd, fun n k' b q1 q2 => ?_, fun b o q1 q2 q3 => ?_, r.gx, r.gn, r.sf, r.ot, r.sx⟩, s⟩
      · by_cases ij : i = j
        · subst ij
          rw [List.getElem?_set_self (List.getElem?_eq_some_iff.mp e).1] at q
          cases q
          refine ⟨_, e1, ?_⟩
          have h2 := cell a k h1
          cases h2 with
          | lst h r => exact .lst oka h r
          | obj h m f nf r => exact .obj oka h m f nf r
        · rw [get_set_ne ij] at q
          obtain ⟨v, q1, q2⟩ := r.val j d q
          exact ⟨v, q1, q2.step s r⟩
      · have ij : i ≠ j := fun z => by
          subst z
          rw [List.getElem?_set_self (List.getElem?_eq_some_iff.mp e).1] at q
          cases q
        rw [get_set_ne ij] at q
        obtain ⟨b, q1, q2, q3⟩ := r.own j k' q
        exact ⟨b, q1, cell b k' q2, q3⟩
      · have i1 : i ≠ j := fun z => by
          subst z
          rw [List.getElem?_set_self (List.getElem?_eq_some_iff.mp e).1] at q1
          cases q1
        have i2 : i ≠ j' := fun z => by
          subst z
          rw [List.getElem?_set_self (List.getElem?_eq_some_iff.mp e).1] at q2
          cases q2
        rw [get_set_ne i1] at q1
        rw [get_set_ne i2] at q2
        exact r.inj j j' k1 k2 b q1 q2 q3 q4
      · obtain ⟨q3, q4⟩ := r.st n k' b q1 q2
        exact ⟨cell b k' q3, q4⟩
      · obtain ⟨q4, q5⟩ := r.fr b o q1 q2 q3
        exact ⟨q4, fun z => q5 (own b z)⟩
/-- a name read as a value -/
theorem Rel.read (r : Rel c σ H env w G) {i : Nat} {Q : D → Prop} (h : getS env i Q) : ∃ v d, σ[i]? = some (some v) ∧ Rel c σ H (shareS env i) w G ∧ Step σ env G H (shareS env i) G H ∧ Rep c.m H (Okk c.O σ (shareS env i) G) G v d ∧ Q d := by
  obtain ⟨r2, s⟩ := r.share i
  unfold getS at h
  cases e : env[i]? with
  | none =>
    rw [e] at h
    exact h.elim
  | some sl =>
    rw [e] at h
    cases sl with
    | none => exact h.elim
    | val d =>
      obtain ⟨v, e1, h1⟩ := r.val i d e
      exact ⟨v, d, e1, r2, s, h1.step s r, h⟩
    | own k =>
      have e2 : (shareS env i)[i]? = some (.val k.toD) := by
        unfold shareS
        rw [e]
        exact List.getElem?_set_self (List.getElem?_eq_some_iff.mp e).1
      obtain ⟨v, e3, h3⟩ := r2.val i _ e2
      exact ⟨v, _, e3, r2, s, h3, h⟩
end
end Py

set_option Elab.async false
set_option linter.all false
set_option maxRecDepth 100000
set_option maxHeartbeats 4000000
/-! PyC: which written tree a small tree stands for; the contexts; the first rules. -/
namespace Py
open PySem PySem.Spec PyProof.Rows L2

/-! ### the look -/
def visB (sc : Scope) (x : Str) : Bool := match sc.names.lookup x with
  | some .local => true
  | some .cell => true
  | some .free => true
  | _ => false
def locB (sc : Scope) (x : Str) : Bool := match sc.names.lookup x with
  | some .local => true
  | some .cell => true
  | _ => false
def glB (sc : Scope) (x : Str) : Bool := decide (sc.names.lookup x = some .globalImplicit)
def plainN (x : Str) : Bool := !(x == ("__debug__" : Str)) && !(x == ("__classdict__" : Str)) && !(x == ("__name__" : Str))
def opB : Op2 → Operator → Bool
  | .add, .Add => true
  | .sub, .Sub => true
  | .mul, .Mult => true
  | .fdiv, .FloorDiv => true
  | .mod, .Mod => true
  | .pow, .Pow => true
  | _, _ => false
def cmpB : Cmp → CmpOp → Bool
  | .eq, .Eq => true
  | .ne, .NotEq => true
  | .lt, .Lt => true
  | .le, .LtE => true
  | .gt, .Gt => true
  | .ge, .GtE => true
  | .is_, .Is => true
  | .isNot, .IsNot => true
  | .in_, .In => true
  | .notIn, .NotIn => true
  | _, _ => false
def b1N : B1 → Str
  | .len => "len" | .tuple => "tuple" | .list => "list" | .sum => "sum" | .all => "all" | .any => "any" | .abs => "abs" | .int => "int" | .max => "max" | .min => "min" | .str => "str"
def b2N : B2 → Str
  | .max => "max" | .min => "min"
def tyN : Ty → Str
  | .int => "int" | .bool => "bool" | .str => "str" | .list => "list" | .tuple => "tuple"
def isSet : Expr → Bool
  | .Set .. => true
  | _ => false
def isStar : Expr → Bool
  | .Starred .. => true
  | _ => false
/-- whose truth is its value's -/
def plainT : Expr → Bool
  | .UnaryOp .Not _ _ => false
  | .BoolOp .. => false
  | .IfExp .. => false
  | .Compare .. => false
  | _ => true
def isSlice : Expr → Bool
  | .Slice .. => true
  | .Tuple .. => true
  | _ => false
/-- super() is looked at apart -/
def noSuper : Expr → Bool
  | .Call (.Name _ _) [] [] _ => false
  | _ => true
def nameIs (N : List Str) (i : Nat) (x : Str) : Bool := decide (N[i]? = some x)
def chkTys (sc : Scope) : List Ty → List Expr → Bool
  | [], [] => true
  | t :: ts, .Name x _ :: es => decide (tyN t = x) && glB sc x && chkTys sc ts es
  | _, _ => false
def chkTy (sc : Scope) (ts : List Ty) : Expr → Bool
  | .Name x _ => (match ts with
    | [t] => decide (tyN t = x) && glB sc x
    | _ => false)
  | .Tuple es _ _ => decide (ts.length ≤ 9) && chkTys sc ts es
  | _ => false
def chkNs (N : List Str) (sc : Scope) : List Nat → List Expr → Bool
  | [], [] => true
  | i :: l, .Name x _ :: es => nameIs N i x && locB sc x && chkNs N sc l es
  | _, _ => false
def chkT (N : List Str) (sc : Scope) : T → Expr → Bool
  | .n i, .Name x _ => nameIs N i x && locB sc x
  | .t l, .Tuple es _ _ => chkNs N sc l es
  | _, _ => false
/-- enumerate only into a tuple of names -/
def enB : I → Expr → Bool
  | .enum _, .Tuple .. => true
  | .enum _, _ => false
  | _, _ => true
mutual
def chkE (G : Gam) (sc : Scope) : E → Expr → Bool
  | .v i, .Name x _ => nameIs G.N i x && visB sc x && plainN x
  | .ci i, .Constant (.int j) _ _ => decide (i = j)
  | .cb b, .Constant (.bool c) _ _ => decide (b = c)
  | .cn, .Constant .none _ _ => true
  | .cs s, .Constant (.str t) _ _ => decide (s = t)
  | .gi k, .Name x _ => (match G.gis[k]? with
    | some p => decide (p.1 = x) && glB sc x && plainN x
    | none => false)
  | .bin o a b, .BinOp l op r _ => opB o op && chkE G sc a l && chkE G sc b r
  | .neg a, .UnaryOp .USub x _ => chkE G sc a x
  | .cmp o a b, .Compare l [op] [r] _ => cmpB o op && !isSet r && chkE G sc a l && chkE G sc b r
  | .cmp2 o p a b c, .Compare l [op, op'] [r, q] _ => cmpB o op && cmpB p op' && !isIn o && !isIn p && !isSet r && !isSet q && chkE G sc a l && chkE G sc b r && chkE G sc c q
  | .and_ es, .BoolOp .And vs _ => chkEs G sc es vs
  | .or_ es, .BoolOp .Or vs _ => chkEs G sc es vs
  | .not_ a, .UnaryOp .Not x _ => chkE G sc a x
  | .ife c a b, .IfExp t x y _ => chkE G sc c t && chkE G sc a x && chkE G sc b y
  | .tup es, .Tuple xs _ _ => chkEs G sc es xs
  | .lst es, .List xs _ => chkEs G sc es xs
  | .attr a f, .Attribute x g _ => decide (f = g) && noSuper x && chkE G sc a x
  | .ix a k, .Subscript x y _ => !isSlice y && chkE G sc a x && chkE G sc k y
  | .sl a lo hi, .Subscript x (.Slice l u none _) _ => chkE G sc a x && chkEo G sc lo l && chkEo G sc hi u
  | .call k es dd, .Call (.Name f _) args [] _ => (match G.fns[k]? with
    | some e => decide (e.nm = f) && glB sc f && plainN f && decide (dd ∈ e.dfl) && dd.all scV && decide (es.len + dd.length = e.ar) && chkEs G sc es args
    | none => false)
  | .make k es, .Call (.Name f _) (x :: args) [] _ => (match G.cls[k]? with
    | some e => decide (e.nm = f) && glB sc f && plainN f && decide (es.len + 1 = e.ar) && chkEs G sc es (x :: args)
    | none => false)
  | .b1 f a, .Call (.Name g _) [x] [] _ => decide (b1N f = g) && glB sc g && !isStar x && chkE G sc a x
  | .b2 f a b, .Call (.Name g _) [x, y] [] _ => decide (b2N f = g) && glB sc g && !isStar x && !isStar y && chkE G sc a x && chkE G sc b y
  | .isT a ts, .Call (.Name g _) [x, y] [] _ => decide (g = ("isinstance" : Str)) && glB sc g && !isStar x && chkE G sc a x && chkTy sc ts y
  | .isC a k, .Call (.Name g _) [x, .Name f _] [] _ => decide (g = ("isinstance" : Str)) && glB sc g && !isStar x && chkE G sc a x && (match G.cls[k]? with
    | some e => decide (e.nm = f) && glB sc f && plainN f
    | none => false)
  | .zipL es, .Call (.Name g _) [.Call (.Name h _) args [] _] [] _ => decide (g = ("list" : Str)) && glB sc g && decide (h = ("zip" : Str)) && glB sc h && chkEs G sc es args
  | .rangeL a, .Call (.Name g _) [.Call (.Name h _) [x] [] _] [] _ => decide (g = ("list" : Str)) && glB sc g && decide (h = ("range" : Str)) && glB sc h && !isStar x && chkE G sc a x
  | .comp elt tg it ifs own, .ListComp e [⟨t, i, fs, 0⟩] scope _ => blkC G.N sc scope own && (!G.self || !(own.map (·.2)).contains 0) && chkT G.N scope tg t && (enB it t && chkI G sc it i) && chkEs G scope ifs fs && chkE G scope elt e
  | .pop a k, .Call (.Attribute x m apos) args [] pos => decide (m = ("pop" : Str)) && (apos.endLine == pos.line) && noSuper x && chkE G sc a x && (match k, args with
    | .none, [] => true
    | .some k, [y] => !isStar y && chkE G sc k y
    | _, _ => false)
  | _, _ => false
def chkEs (G : Gam) (sc : Scope) : Es → List Expr → Bool
  | .nil, [] => true
  | .cons a r, x :: xs => !isStar x && chkE G sc a x && chkEs G sc r xs
  | _, _ => false
def chkEo (G : Gam) (sc : Scope) : Eo → Option Expr → Bool
  | .none, none => true
  | .some a, some x => chkE G sc a x
  | _, _ => false
def chkI (G : Gam) (sc : Scope) : I → Expr → Bool
  | .e a, x => !isSet x && chkE G sc a x
  | .range1 a, .Call (.Name g _) [x] [] _ => decide (g = ("range" : Str)) && glB sc g && !isStar x && chkE G sc a x
  | .range2 a b, .Call (.Name g _) [x, y] [] _ => decide (g = ("range" : Str)) && glB sc g && !isStar x && !isStar y && chkE G sc a x && chkE G sc b y
  | .enum a, .Call (.Name g _) [x] [] _ => decide (g = ("enumerate" : Str)) && glB sc g && !isStar x && chkE G sc a x
  | .rev a, .Call (.Name g _) [x] [] _ => decide (g = ("reversed" : Str)) && glB sc g && !isStar x && chkE G sc a x
  | .revR a, .Call (.Name g _) [.Call (.Name h _) [x] [] _] [] _ => decide (g = ("reversed" : Str)) && glB sc g && decide (h = ("range" : Str)) && glB sc h && !isStar x && chkE G sc a x
  | _, _ => false
end
/-! statements -/
def isComp : Expr → Bool
  | .ListComp .. => true
  | .SetComp .. => true
  | .DictComp .. => true
  | _ => false
def isTup : Expr → Bool
  | .Tuple .. => true
  | _ => false
/-- names stored from the right, as they stand -/
def parY (sc : Scope) (ts vs : List Expr) : Bool := match ts, vs with
  | [.Name x px, .Name y py], [a, b] => decide (sc.names.lookup x = some .local) && decide (sc.names.lookup y = some .local) && (px.line == py.line) && !(x == y) && !isStar a && !isStar b && !(vs.all (foldedForSure 8)) && !(vs.all (constantsAlone 8))
  | [.Name x px, .Name y py, .Name z pz], [a, b, d] => decide (sc.names.lookup x = some .local) && decide (sc.names.lookup y = some .local) && decide (sc.names.lookup z = some .local) && (px.line == py.line) && (px.line == pz.line) && !(x == y) && !(x == z) && !(y == z) && !isStar a && !isStar b && !isStar d && !(vs.all (foldedForSure 8)) && !(vs.all (constantsAlone 8))
  | _, _ => false
/-- .. through a tuple: a name is captured, or all is constant -/
def parN (sc : Scope) (ts vs : List Expr) : Bool :=
  (ts.any fun t => match t with
    | .Name x _ => decide (sc.names.lookup x ≠ some .local)
    | _ => true) || vs.all (foldedForSure 8)
mutual
def chkS (G : Gam) (sc : Scope) : S → Stmt → Bool
  | .set i e, .Assign [.Name x _] v _ => nameIs G.N i x && locB sc x && chkE G sc e v
  | .setT l e, .Assign [.Tuple ts _ _] v _ => !isTup v && chkNs G.N sc l ts && chkE G sc e v
  | .par l es, .Assign [.Tuple ts _ _] (.Tuple vs _ _) _ => decide (l.length ≤ 9) && chkNs G.N sc l ts && chkEs G sc es vs && (parY sc ts vs || parN sc ts vs)
  | .app a e, .Expr (.Call (.Attribute x m apos) [y] [] cpos) _ => decide (m = ("append" : Str)) && (apos.endLine == cpos.line) && noSuper x && !isStar y && chkE G sc a x && chkE G sc e y
  | .setIx a k e, .Assign [.Subscript x y _] v _ => !isSlice y && !isComp v && chkE G sc a x && chkE G sc k y && chkE G sc e v
  | .fld a f e, .Assign [.Attribute x g _] v _ => decide (f = g) && decide (f ∈ G.fl) && !isComp v && chkE G sc a x && chkE G sc e v
  | .ex e, .Expr v _ => !isComp v && chkE G sc e v
  | .ret e, .Return (some v) _ => chkE G sc e v
  | .retN, .Return none _ => true
  | .retH e, .Return (some v) _ => e.fresh && chkE G sc e v
  | .if_ c a b, .If t x y _ => chkE G sc c t && chkSs G sc a x && chkSs G sc b y
  | .for_ t it body, .For tg i b [] _ => chkT G.N sc t tg && enB it tg && chkI G sc it i && chkSs G sc body b
  | .while_ c body, .While t b [] _ => chkE G sc c t && chkSs G sc body b
  | .never, _ => true
  | .pass, .Pass _ => true
  | .pass, .Expr (.Constant (.str _) _ _) _ => true
  | .cont, .Continue _ => true
  | .brk, .Break _ => true
  | _, _ => false
def chkSs (G : Gam) (sc : Scope) : Ss → List Stmt → Bool
  | .nil, [] => true
  | .cons s r, x :: xs => chkS G sc s x && chkSs G sc r xs
  | _, _ => false
end
end Py

set_option Elab.async false
set_option linter.all false
set_option maxRecDepth 100000
set_option maxHeartbeats 4000000
/-! PyN: == and != of two instances of one class with an own __eq__, whatever it answers. -/
namespace HN
open PySem PySem.Spec PyProof.Rows PySem.SeqAt
section
variable {M : Model} {prog : Program} {w : World} {A : Around} {E : Value → Shared → Prop} {s : Shared} {K : PySem.W.Frag} {x y C f : Addr} {ox : Obj} {od : Option Obj}
theorem ifBound_objNe {args : List Value} {Q : Option Value → Shared → Prop} (X : K.In s.heap) (I : PySem.W.InstAt s.heap x ox C od) (hs : PySem.W.findIn K (.ref C) "__ne__" = some (some (.builtin "object.__ne__")))
    (h : wpAny M A (call (.builtin "object.__ne__") (.ref x :: args)) (fun v => Q (some v)) E s) : wpAny M A (callSpecialIfBound? (.ref x) "__ne__" args) Q E s := by
  simp only [callSpecialIfBound?, bindSpecialIfBound?]
  refine wpAny_holding (wpAny_bind (wpAny_bind (wpAny_bind (I.type.here ((PySem.W.looks_findIn X hs).here ?_)))))
  refine wpAny_bind (wpAny_askSetting (wpAny_ite ?_))
  have fin : wpAny M A (call (.builtin "object.__ne__") ([.ref x] ++ args) >>= fun v => pure (some v)) Q E s := wpAny_bind (wpAny_mono h (fun v s' h' => wpAny_pure h') fun _ _ h' => h')
  split
  · exact wpAny_bind (wpAny_of_eq (F.cmp_object.ne.bind _) (wpAny_pure (by exact fin)))
  · exact wpAny_tryCatch (wpAny_bind (wpAny_of_eq (F.cmp_object.ne.bind _) (wpAny_pure (by exact fin))))
theorem entry_ne (X : K.In s.heap) (I : PySem.W.InstAt s.heap x ox C od) (hs : PySem.W.findIn K (.ref C) "__eq__" = some (some (.ref f))) (hf : PySem.W.isFn K (.ref f) = true) (hu : A.units < cLine) {Q : Fin → Shared → Prop}
    (hcall : wpAny (model prog w) A (call (.ref f) [.ref x, .ref y]) (fun v s' => ∃ b, v = .bool b ∧ Q (.done (.ret (.bool (!b)))) s') E s) :
    wpAny (model prog w) A (Builtin.«object.__ne__» ⟨[.ref x, .ref y], []⟩) Q E s := by
  unfold Builtin.«object.__ne__»
  repeat (first
    | with_reducible refine wpAny_cRoomFor hu ?_
    | (refine wpAny_bind (m := callSpecialIfBound? (.ref x) (Str.ofString "__eq__") [.ref y])
        (PySem.W.ifBound_K X I hs hf (wpAny_mono hcall (fun v s' hr => by
          obtain ⟨b, rfl, hq⟩ := hr
          repeat (first | exact hq | exact wpAny_pure hq | exact wpAny_truthy_bool hq | (refine wpAny_bind (m := truthy (.bool _)) (wpAny_truthy_bool ?_)) | wp_step)) fun _ _ e => e)))
    | wp_step)
theorem rc_ne (X : K.In s.heap) (I : PySem.W.InstAt s.heap x ox C od) (hy : PySem.W.Looks (model prog w) s.heap (typeOf (.ref y)) (.ref C)) (hm : PySem.W.mroIn K C (.type "object") = some true)
    (hne : PySem.W.findIn K (.ref C) "__ne__" = some (some (.builtin "object.__ne__"))) (hs : PySem.W.findIn K (.ref C) "__eq__" = some (some (.ref f))) (hf : PySem.W.isFn K (.ref f) = true) (hu : A.units + 1 < cLine) {Q : Value → Shared → Prop}
    (hcall : wpAny (model prog w) A.in1 (call (.ref f) [.ref x, .ref y]) (fun v s' => ∃ b, v = .bool b ∧ Q (.bool (!b)) s') E s) : wpAny (model prog w) A (richCompare .NotEq (.ref x) (.ref y)) Q E s := by
  have one : wpAny (model prog w) A (tryCompare (.ref x) "__ne__" (.ref y)) (fun r s' => ∃ v, r = some v ∧ Q v s') E s := by
    unfold tryCompare
    refine wpAny_bind (ifBound_objNe X I hne (wpAny_call (codeAny_call_builtin F.cmp_object.ne.plain F.cmpEntry_ne (PySem.W.check_slot F.cmpKind_ne F.cmpSplit_ne (I.type.andThen (PySem.W.looks_mroIn X hm)) (F.cmpArgs_ne _ _)
      (entry_ne (A := A.in1) X I hs hf hu (wpAny_mono hcall (fun v s' hv => ?_) fun _ _ e => e))))))
    obtain ⟨b, rfl, hq⟩ := hv
    first | exact ⟨b, rfl, wpAny_pure ⟨_, rfl, hq⟩⟩ | exact ⟨b, rfl, wpAny_pure (wpAny_pure ⟨_, rfl, hq⟩)⟩ | exact ⟨b, rfl, ⟨_, rfl, hq⟩⟩
  unfold richCompare
  simp only [oneThing_ref]
  refine wpAny_holding (wpAny_bind (wpAny_cRoomFor (Nat.lt_of_succ_lt hu) ?_))
  rw [cmpInfo_NotEq]
  dsimp only
  refine wpAny_bind (I.type.here (wpAny_bind (hy.here ?_)))
  rw [show (Value.ref C != Value.ref C) = false from by simp]
  simp only [Bool.false_eq_true, if_false]
  refine wpAny_bind (wpAny_pure ?_)
  simp only [Bool.false_eq_true, if_false]
  refine wpAny_bind (wpAny_mono one (fun r s' hv => ?_) fun _ _ e => e)
  obtain ⟨v, rfl, hq⟩ := hv
  first | exact wpAny_pure hq | exact wpAny_pure (wpAny_pure hq)
end
end HN
namespace L2
open PySem PySem.Spec PyProof.Rows
section
variable {X : Cx} {CX : CXT} {C f : Addr} {fd : FuncData} {ps : List Str} {sp : Sp} {n : Nat}
def rOwn (C : Addr) (neg : Bool) (sp : Sp) (E : XK) : R2 := fun x y H Q => ∃ a b dx dy fs gs, x = .ref a ∧ y = .ref b ∧ H a = some (.ins C dx fs) ∧ H b = some (.ins C dy gs) ∧
  sp [.ref a, .ref b] H (fun v H' => ∃ r, v = .bl r ∧ Q (.bl (if neg then !r else r)) H') E
theorem Room.up {k : Nat} {A : Around} (r : Room (k + 1) A) : A.units + 1 < cLine := by
  have := r.units
  omega
theorem op_ownEq {E : XK} (F : FnOk X.prog X.w X.K X.mg X.base CX n f fd ps sp) (hr : Room n X.A) (hs : PySem.W.findIn X.K (.ref C) "__eq__" = some (some (.ref f))) (hf : PySem.W.isFn X.K (.ref f) = true) (hb : Binds X.K fd ps []) (hx : Passes CX X E) :
    OpR X (compareOp .Eq) (rOwn C false sp E) := by
  intro pins s σ H x y u v Q I rx ry d
  obtain ⟨a, b, dx, dy, fs, gs, rfl, rfl, ha, hb', hsp⟩ := d
  cases rx
  cases ry
  obtain ⟨mA, J, _⟩ := ins_get I.hok ha
  obtain ⟨mB, J', _⟩ := ins_get I.hok hb'
  obtain ⟨od, J, _⟩ := J.look
  obtain ⟨od', J', _⟩ := J'.look
  obtain ⟨m, hF⟩ := I.fr
  show wpAny (model X.prog X.w) X.A (richCompare .Eq (.ref a) (.ref b)) (EP X pins σ Q) X.xe s
  refine PySem.W.cmp_K (op := .Eq) (tb := .ref C) hr.units0 hF I.ok.mod.kin J J'.type (by simp [PySem.W.notFirst]) hs hf ?_
  refine wpAny_mono (run_fn (vs := [.ref a, .ref b]) (us := [.ref a, .ref b]) F hr hb .nil hx I (.cons rfl (.cons rfl .nil)) (by rw [List.append_nil]; exact hsp)) (fun r s' hq => ?_) fun _ _ e => e
  obtain ⟨z, H', I', rz, r', rfl, q⟩ := hq
  cases rz
  exact ⟨.bl r', H', I', rfl, q⟩
theorem op_ownNe {E : XK} (F : FnOk X.prog X.w X.K X.mg X.base CX n f fd ps sp) (hr : Room (n + 1) X.A) (hs : PySem.W.findIn X.K (.ref C) "__eq__" = some (some (.ref f))) (hf : PySem.W.isFn X.K (.ref f) = true)
    (hne : PySem.W.findIn X.K (.ref C) "__ne__" = some (some (.builtin "object.__ne__"))) (hm : PySem.W.mroIn X.K C (.type "object") = some true) (hb : Binds X.K fd ps []) (hx : Passes CX X E) :
    OpR X (compareOp .NotEq) (rOwn C true sp E) := by
  intro pins s σ H x y u v Q I rx ry d
  obtain ⟨a, b, dx, dy, fs, gs, rfl, rfl, ha, hb', hsp⟩ := d
  cases rx
  cases ry
  obtain ⟨mA, J, _⟩ := ins_get I.hok ha
  obtain ⟨mB, J', _⟩ := ins_get I.hok hb'
  obtain ⟨od, J, _⟩ := J.look
  obtain ⟨od', J', _⟩ := J'.look
  show wpAny (model X.prog X.w) X.A (richCompare .NotEq (.ref a) (.ref b)) (EP X pins σ Q) X.xe s
  refine HN.rc_ne I.kIn J J'.type hm hne hs hf hr.up ?_
  have e0 : Env0 X.prog X.w X.K X.mg X.base X.A.in1 X.stack s H := I.env0.in1
  have hl := F.len _ _ _ _ hsp
  have r2 : Vals [V.ref a, V.ref b] [Value.ref a, Value.ref b] := .cons rfl (.cons rfl .nil)
  refine wpAny_call (codeAny_mono (F.run X.A.in1 X.stack s H ⟨[.ref a, .ref b], []⟩ [.ref a, .ref b] [.ref a, .ref b] _ E hr.in1 e0 (by
    have := hb s [.ref a, .ref b] I.kIn (by simpa using hl)
    simpa using this) r2 hsp) fun r s' hq => ?_)
  cases r with
  | error e => exact hx pins σ H s e s' I hq
  | ok fl =>
    cases fl with
    | ret w =>
      obtain ⟨z, H', I', rz, r', ez, q⟩ := I.after hq
      subst ez
      cases rz
      exact ⟨r', rfl, .bl (!r'), H', I', rfl, q⟩
    | next => exact False.elim hq
    | brk => exact False.elim hq
    | cont => exact False.elim hq
end
end L2

set_option Elab.async false
set_option linter.all false
set_option maxRecDepth 100000
set_option maxHeartbeats 4000000
/-! PyD: promises of defs by plain specs; the context of a body; expressions' readings. -/
namespace Py
open PySem PySem.Spec PyProof.Rows L2

/-! ### calls -/
structure CStep (H : Hp) (G : List Addr) (H' : Hp) (G' : List Addr) : Prop where
  fr : ∀ a o, H a = some o → a ∉ G → H' a = some o
  gx : ∃ l, G' = G ++ l
  gn : ∀ a, a ∈ G' → a ∈ G ∨ H a = none
  tr : ∀ a, H a ≠ none → H' a ≠ none
def okO (O : Addr → Prop) (G : List Addr) (a : Addr) : Prop := ¬ O a ∧ a ∉ G
structure WRel (m : Mo) (O : Addr → Prop) (H : Hp) (w : W) (G : List Addr) : Prop where
  wl : w.length = G.length
  nd : G.Nodup
  st : ∀ (n : Nat) (k : Cell) (a : Addr), w[n]? = some k → G[n]? = some a → CellR m H (okO O G) G a k ∧ ¬ O a
  ot : ∀ a, O a → H a ≠ none
def ExnR (m : Mo) (H : Hp) (ok : Addr → Prop) (G : List Addr) (cls : Value) (dd : Option Addr) (x : Exn) : Prop :=
  ∃ C d fvs, cls = .ref C ∧ m.mg x.c = some (.ref C) ∧ dd = some d ∧ H d = some (.xd fvs) ∧ RepF m H ok G fvs x.fs
/-- what a def promises, by a plain spec -/
def spOf (m : Mo) (n : Nat) (sp : Spec) : Sp := fun vs H Q E => ∃ (O : Addr → Prop) (ds : List D) (w : W) (G : List Addr) (Q' : D → W → Prop) (R' : Exn → W → Prop),
  vs.length = n ∧ Reps m H (okO O G) G vs ds ∧ WRel m O H w G ∧ sp ds w Q' R' ∧
  (∀ v H' d w' G', CStep H G H' G' → WRel m O H' w' G' → Rep m H' (okO O G') G' v d → Q' d w' → Q v H') ∧
  (∀ cls dd H' x w' G', CStep H G H' G' → WRel m O H' w' G' → ExnR m H' (okO O G') G' cls dd x → R' x w' → E cls dd H')
/-- .. an __init__: the instance is new, its fields are told -/
def spMk (m : Mo) (nm : Str) (n : Nat) (sp : Spec) : Sp := fun vs H Q E => ∃ (O : Addr → Prop) (x C dx : Addr) (rest : List V) (ds : List D) (w : W) (G : List Addr) (Q' : D → W → Prop) (R' : Exn → W → Prop),
  vs.length = n ∧ vs = .ref x :: rest ∧ H x = some (.ins C dx []) ∧ m.mg nm = some (.ref C) ∧ ClF m C nm ∧ x ∉ G ∧ ¬ O x ∧ Reps m H (okO (fun a => O a ∨ a = x) G) G rest ds ∧ WRel m (fun a => O a ∨ a = x) H w G ∧ sp ds w Q' R' ∧
  (∀ v H' d w' G', CStep (fun a => if a = x then none else H a) G H' G' → x ∉ G' → WRel m O H' w' G' → Rep m H' (okO O G') G' (.ref x) d → v = .non → Q' d w' → Q v H') ∧
  (∀ cls dd H' y w' G', CStep (fun a => if a = x then none else H a) G H' G' → x ∉ G' → WRel m O H' w' G' → ExnR m H' (okO O G') G' cls dd y → R' y w' → E cls dd H')

structure FnHas (P : Program) (w : World) (m : Mo) (base : Heap) (k : Nat) (e : Fe) : Prop where
  ex : ∃ (f : Addr) (fd : FuncData) (ps : List Str), m.mg e.nm = some (.ref f) ∧ PySem.W.keepIn m.K (.ref f) = true ∧ ps.length = e.ar ∧ FnOk P w m.K m.mg base (L2.CX P w) k f fd ps (spOf m ps.length e.sp) ∧
    ∀ dd, dd ∈ e.dfl → ∃ ds, Binds m.K fd ps ds ∧ Vals dd ds
structure ClHas (P : Program) (w : World) (m : Mo) (base : Heap) (k : Nat) (e : Fe) : Prop where
  ex : ∃ (C f : Addr) (fd : FuncData) (ps : List Str), m.mg e.nm = some (.ref C) ∧ Mk m.K C f ∧ ClF m C e.nm ∧ e.nm ∈ m.cn ∧ ps.length = e.ar ∧ FnOk P w m.K m.mg base (L2.CX P w) k f fd ps (spMk m e.nm ps.length e.sp) ∧ Binds m.K fd ps [] ∧
    (∀ T, T ∈ ["NoneType", "int", "bool", "str", "list", "tuple"] → PySem.W.kitOne m.K (.type T) (.ref C) = some false)

structure EqF (P : Program) (w : World) (m : Mo) (base : Heap) (k : Nat) (e : Fe) (C f : Addr) (fd : FuncData) (ps : List Str) : Prop where
  mg : m.mg e.nm = some (.ref C)
  eq : PySem.W.findIn m.K (.ref C) "__eq__" = some (some (.ref f))
  fn : PySem.W.isFn m.K (.ref f) = true
  ne : PySem.W.findIn m.K (.ref C) "__ne__" = some (some (.builtin "object.__ne__"))
  ob : PySem.W.mroIn m.K C (.type "object") = some true
  ok : FnOk P w m.K m.mg base (L2.CX P w) k f fd ps (spOf m ps.length e.sp)
  bd : Binds m.K fd ps []
  two : ps.length = 2
def EqHas (P : Program) (w : World) (m : Mo) (base : Heap) (k : Nat) (e : Fe) : Prop := ∃ C f fd ps, EqF P w m base k e C f fd ps

def wish (c : Ct) (R : Exn → Fm → W → Prop) : WX := fun cls dd σ H => ∃ x env w G, Rel c σ H env w G ∧ ExnR c.m H (Okk c.O σ env G) G cls dd x ∧ R x env w
def bltNames : List Str := ["len", "tuple", "list", "sum", "all", "any", "abs", "int", "max", "min", "str", "isinstance", "bool", "zip", "range", "enumerate", "reversed"]
structure XOk (G : Gam) (c : Ct) (R : Exn → Fm → W → Prop) (sc : Scope) (k : Nat) (X : Cx) : Prop where
  N : X.N = G.N
  nd : G.N.Nodup
  mg : X.mg = c.m.mg
  K : X.K = c.m.K
  calm : X.calm = true
  room : Room k X.A
  vis : ∀ x, visB sc x = true → Vis X.env.scope x
  loc : ∀ x, locB sc x = true → Loc X.env.scope x ∧ (X.fn x = true ∨ X.env.scope.names.lookup x = some .local)
  gl : ∀ x, glB sc x = true → Gl X x
  cap : ∀ x, (sc.names.lookup x = some .cell ∨ sc.names.lookup x = some .free) → (X.env.scope.names.lookup x = some .cell ∨ X.env.scope.names.lookup x = some .free)
  sf : ∀ x, c.B.sf = some x → G.self = true
  fl : ∀ f, f ∈ G.fl → f ∈ c.m.fl
  fns : ∀ e, e ∈ G.fns → FnHas X.prog X.w c.m X.base k e
  cls : ∀ e, e ∈ G.cls → ∃ j, k = j + 1 ∧ ClHas X.prog X.w c.m X.base j e
  gis : ∀ p, p ∈ G.gis → ∃ t, c.m.mg p.1 = some (.int p.2 t)
  blt : ∀ x, x ∈ bltNames → c.m.mg x = none
  eqs : ∀ e, e ∈ G.eqs → ∃ j, k = j + 1 ∧ EqHas X.prog X.w c.m X.base j e
  tk : Takes X (wish c R)

/-! ### readings by plain data -/
/-- a list made last of all: nothing else knows of it -/
def FreshL (c : Ct) (σ : L2.St) (H0 H' : Hp) (env' : Fm) (w' : W) (Gh' : List Addr) (v : V) (d : D) : Prop := ∃ (a : Addr) (H1 : Hp) (vs : List V) (xs : List D),
  v = .ref a ∧ d = .lst xs ∧ H0 a = none ∧ H1 a = none ∧ Rel c σ H1 env' w' Gh' ∧ H' = upd H1 a (.lst vs) ∧ Reps c.m H1 (Okk c.O σ env' Gh') Gh' vs xs
theorem Step.none_of {σ : L2.St} {env env' : Fm} {G G' : List Addr} {H H' : Hp} (s : Step σ env G H env' G' H') {a : Addr} (h : H' a = none) : H a = none := by
  cases hn : H a with
  | none => rfl
  | some u => exact absurd h (s.tr a (by rw [hn]; intro z; cases z))
theorem FreshL.before {c : Ct} {σ : L2.St} {H H1 H' : Hp} {env env1 env' : Fm} {w' : W} {G G1 Gh' : List Addr} {v : V} {d : D} (s : Step σ env G H env1 G1 H1) (f : FreshL c σ H1 H' env' w' Gh' v d) : FreshL c σ H H' env' w' Gh' v d := by
  obtain ⟨a, H2, vs, xs, e1, e2, e3, e4⟩ := f
  exact ⟨a, H2, vs, xs, e1, e2, s.none_of e3, e4⟩
section
variable (G : Gam) (c : Ct) (R : Exn → Fm → W → Prop)
def tE (e : E) : TE := fun σ H Q => ∃ env w Gh Q', Rel c σ H env w Gh ∧ wpE G R e env w Q' ∧
  ∀ v H' d env' w' Gh', Rel c σ H' env' w' Gh' → Step σ env Gh H env' Gh' H' → Rep c.m H' (Okk c.O σ env' Gh') Gh' v d →
    (e.fresh = true → (∃ xs, d = .lst xs) → FreshL c σ H H' env' w' Gh' v d) → Q' d env' w' → Q v H'
/-- peeked at: a name is not shared -/
def tPk (e : E) : TE := fun σ H Q => ∃ env w Gh Q', Rel c σ H env w Gh ∧ pkD (baseOf e) (wpE G R e) env w Q' ∧
  ∀ v H' d env' w' Gh', Rel c σ H' env' w' Gh' → Step σ env Gh H env' Gh' H' → Pk c.m H' (Okk c.O σ env' Gh') Gh' v d → Q' d env' w' → Q v H'
/-- a base, and something behind it: the base as it stands then -/
def tBase (e : E) : TE := fun σ H Q => ∃ (α : Type) (env : Fm) (w : W) (Gh : List Addr) (t : Fm → W → (α → Fm → W → Prop) → Prop) (Q' : D → α → Fm → W → Prop), Rel c σ H env w Gh ∧ pkThen (baseOf e) (wpE G R e) t env w Q' ∧
  ∀ v H1 env1 w1 G1 (Q2 : α → Fm → W → Prop), Rel c σ H1 env1 w1 G1 → Step σ env Gh H env1 G1 H1 → t env1 w1 Q2 →
    (∀ x H2 env2 w2 G2, Rel c σ H2 env2 w2 G2 → Step σ env1 G1 H1 env2 G2 H2 → Q2 x env2 w2 → ∃ d, Pk c.m H2 (Okk c.O σ env2 G2) G2 v d ∧ (∀ i, baseOf e = some i → σ[i]? = some (some v) ∧ getS env2 i fun d' => d' = d) ∧ Q' d x env2 w2) → Q v H1
/-- a list, and something behind it -/
def tBaseL (e : E) : TE := fun σ H Q => ∃ (α : Type) (env : Fm) (w : W) (Gh : List Addr) (t : Fm → W → (α → Fm → W → Prop) → Prop) (Q' : D → α → Fm → W → Prop), Rel c σ H env w Gh ∧ pkThenL (baseOf e) (wpE G R e) t env w Q' ∧
  ∀ v H1 env1 w1 G1 (Q2 : α → Fm → W → Prop), Rel c σ H1 env1 w1 G1 → Step σ env Gh H env1 G1 H1 → (∃ a xs, v = .ref a ∧ H1 a = some (.lst xs)) → t env1 w1 Q2 →
    (∀ x H2 env2 w2 G2, Rel c σ H2 env2 w2 G2 → Step σ env1 G1 H1 env2 G2 H2 → Q2 x env2 w2 → ∃ d, Pk c.m H2 (Okk c.O σ env2 G2) G2 v d ∧ (∀ i, baseOf e = some i → σ[i]? = some (some v) ∧ getS env2 i fun d' => d' = d) ∧ Q' d x env2 w2) → Q v H1
def tC' (e : E) : TT := fun σ H Q => ∃ env w Gh Q', Rel c σ H env w Gh ∧ wpC G R e env w Q' ∧
  ∀ b H' env' w' Gh', Rel c σ H' env' w' Gh' → Step σ env Gh H env' Gh' H' → Q' b env' w' → Q b H'
def tEs (es : Es) : TA := fun σ H Q => ∃ env w Gh Q', Rel c σ H env w Gh ∧ wpEs G R es env w Q' ∧
  ∀ vs H' ds env' w' Gh', Rel c σ H' env' w' Gh' → Step σ env Gh H env' Gh' H' → Reps c.m H' (Okk c.O σ env' Gh') Gh' vs ds → vs.length = es.len → Q' ds env' w' → Q vs H'
def tEo (eo : Eo) : TO := fun σ H Q => ∃ env w Gh Q', Rel c σ H env w Gh ∧ wpEo G R eo env w Q' ∧
  ∀ o H' env' w' Gh', Rel c σ H' env' w' Gh' → Step σ env Gh H env' Gh' H' → Q' o env' w' → Q o H'
end
theorem _root_.L2.PE.imp {X : Cx} {e : Expr} {t t' : TE} (h : PE X e t) (k : ∀ σ H Q, t' σ H Q → t σ H Q) : PE X e t' := ⟨fun pins s σ H Q I q => h.run pins s σ H Q I (k σ H Q q)⟩
theorem _root_.L2.PT.imp {X : Cx} {e : Expr} {t t' : TT} (h : PT X e t) (k : ∀ σ H Q, t' σ H Q → t σ H Q) : PT X e t' := ⟨fun pins s σ H Q I q => h.run pins s σ H Q I (k σ H Q q)⟩
theorem _root_.L2.PW.imp {X : Cx} {e : Expr} {t t' : TT} (h : PW X e t) (k : ∀ σ H Q, t' σ H Q → t σ H Q) : PW X e t' := ⟨fun wh pins s σ H Q I q => h.run wh pins s σ H Q I (k σ H Q q)⟩
theorem _root_.L2.PA.imp {X : Cx} {e : List Expr} {t t' : TA} (h : PA X e t) (k : ∀ σ H Q, t' σ H Q → t σ H Q) : PA X e t' := ⟨fun pos pins s σ H Q I q => h.run pos pins s σ H Q I (k σ H Q q)⟩
theorem _root_.L2.PO.imp {X : Cx} {e : Option Expr} {t t' : TO} (h : PO X e t) (k : ∀ σ H Q, t' σ H Q → t σ H Q) : PO X e t' := by
  obtain ⟨run⟩ := h
  exact ⟨fun pins s σ H Q I q => run pins s σ H Q I (k σ H Q q)⟩
theorem _root_.L2.PS.imp {X : Cx} {e : Stmt} {t t' : TS} (h : PS X e t) (k : ∀ D σ H, t' D σ H → t D σ H) : PS X e t' := ⟨fun pins s σ H D I q => h.run pins s σ H D I (k D σ H q)⟩
theorem _root_.L2.PSs.imp {X : Cx} {e : List Stmt} {t t' : TS} (h : PSs X e t) (k : ∀ D σ H, t' D σ H → t D σ H) : PSs X e t' := ⟨fun pins s σ H D I q => h.run pins s σ H D I (k D σ H q)⟩

section
variable {G : Gam} {c : Ct} {R : Exn → Fm → W → Prop} {sc : Scope} {k : Nat} {X : Cx} (ok : XOk G c R sc k X)
include ok
theorem XOk.at_ {i : Nat} {x : Str} (h : nameIs G.N i x = true) : X.N[i]? = some x := by
  rw [ok.N]
  exact of_decide_eq_true h
theorem XOk.ndX : X.N.Nodup := by
  rw [ok.N]
  exact ok.nd
theorem XOk.bltX {x : Str} (h : x ∈ bltNames) : X.mg x = none := by
  rw [ok.mg]
  exact ok.blt x h
theorem XOk.glX {x : Str} (h : glB sc x = true) : Gl X x := ok.gl x h
end
theorem plainN_ok {x : Str} (h : plainN x = true) : (x == ("__debug__" : Str)) = false ∧ (x == ("__classdict__" : Str)) = false ∧ x ≠ "__name__" := by
  unfold plainN at h
  simp only [Bool.and_eq_true, Bool.not_eq_true'] at h
  exact ⟨h.1.1, h.1.2, fun e => by
    have := h.2
    rw [e] at this
    cases this⟩
theorem star_ok {X : Cx} {e : Expr} {es : List Expr} (h : isStar e = false) : starEach (e :: es) X.env = (false, eval e X.env) :: starEach es X.env := by
  cases e <;> first | rfl | cases h
theorem star_plain {X : Cx} {pos : Pos} : ∀ {es : List Expr}, (∀ e, e ∈ es → isStar e = false) → (backTo pos (starEach es X.env)).any (·.1) = false
  | [], _ => rfl
  | e :: es, h => by
    rw [star_ok (h e (List.mem_cons_self ..))]
    show (false || (backTo pos (starEach es X.env)).any (·.1)) = false
    rw [star_plain fun x hx => h x (List.mem_cons_of_mem _ hx)]
    rfl
theorem mark_ok {op : CmpOp} {b : Expr} (h : isSet b = false) : behindInMarks op b = false := by
  cases b <;> first | rfl | cases h
theorem folded_ok {env : PySem.Env} {b : Expr} (h : isSet b = false) : ∀ x, foldedSetIterable b env x = pure x := by
  intro x
  cases b <;> first | rfl | cases h

section
variable {G : Gam} {c : Ct} {R : Exn → Fm → W → Prop} {sc : Scope} {k : Nat} {X : Cx} {pos : Pos}

/-! ### names and constants -/
theorem s_v (ok : XOk G c R sc k X) {i : Nat} {x : Str} (h1 : nameIs G.N i x = true) (h2 : visB sc x = true) (h3 : plainN x = true) : PE X (.Name x pos) (tE G c R (.v i)) := by
  obtain ⟨d1, d2, _⟩ := plainN_ok h3
  refine (pe_var (ok.at_ h1) (ok.vis x h2) d1 d2).imp fun σ H Q ⟨env, w, Gh, Q', r, hw, q⟩ => ?_
  replace hw : getShare env i fun d env => Q' d env w := hw
  rw [getShare_eq] at hw
  obtain ⟨v, d, e, r2, s, p, hd⟩ := r.read (Q := fun d => Q' d (shareS env i) w) hw
  exact ⟨v, e, q v H d _ w Gh r2 s p (fun z => nomatch z) hd⟩
theorem s_vPk (ok : XOk G c R sc k X) {i : Nat} {x : Str} (h1 : nameIs G.N i x = true) (h2 : visB sc x = true) (h3 : plainN x = true) : PE X (.Name x pos) (tPk G c R (.v i)) := by
  obtain ⟨d1, d2, _⟩ := plainN_ok h3
  refine (pe_var (ok.at_ h1) (ok.vis x h2) d1 d2).imp fun σ H Q ⟨env, w, Gh, Q', r, hw, q⟩ => ?_
  obtain ⟨v, d, e, p, hd⟩ := r.peek (Q := fun d => Q' d env w) hw
  exact ⟨v, e, q v H d _ w Gh r Step.rfl' p hd⟩
theorem s_ci {i : Int} {j : Nat} : PE X (.Constant (.int i) j pos) (tE G c R (.ci i)) :=
  pe_int.imp fun σ H Q ⟨env, w, Gh, Q', r, hw, q⟩ => q _ H _ _ w Gh r Step.rfl' (.int i) (fun z => nomatch z) hw
theorem s_cb {i : Bool} {j : Nat} : PE X (.Constant (.bool i) j pos) (tE G c R (.cb i)) :=
  pe_bl.imp fun σ H Q ⟨env, w, Gh, Q', r, hw, q⟩ => q _ H _ _ w Gh r Step.rfl' (.bl i) (fun z => nomatch z) hw
theorem s_cn {j : Nat} : PE X (.Constant .none j pos) (tE G c R .cn) :=
  pe_non.imp fun σ H Q ⟨env, w, Gh, Q', r, hw, q⟩ => q _ H _ _ w Gh r Step.rfl' .non (fun z => nomatch z) hw
theorem s_cs {i : Str} {j : Nat} : PE X (.Constant (.str i) j pos) (tE G c R (.cs i)) :=
  pe_str.imp fun σ H Q ⟨env, w, Gh, Q', r, hw, q⟩ => q _ H _ _ w Gh r Step.rfl' (.str i) (fun z => nomatch z) hw
theorem s_gi (ok : XOk G c R sc k X) {i : Nat} {p : Str × Int} (e : G.gis[i]? = some p) (h2 : glB sc p.1 = true) (h3 : plainN p.1 = true) : PE X (.Name p.1 pos) (tE G c R (.gi i)) := by
  obtain ⟨t, ht⟩ := ok.gis p (List.mem_of_getElem? e)
  refine (pe_glob (v := .int p.2) (ok.gl _ h2) (by rw [ok.mg]; exact ht) ⟨t, rfl⟩ (plainN_ok h3).1).imp fun σ H Q ⟨env, w, Gh, Q', r, hw, q⟩ => ?_
  unfold wpE at hw
  rw [e] at hw
  exact q _ H _ _ w Gh r Step.rfl' (.int p.2) (fun z => nomatch z) hw
/-! ### operators -/
theorem OpR.or3 {f : Value → Value → Sem Value} {r1 r2 r3 : R2} (h1 : OpR X f r1) (h2 : OpR X f r2) (h3 : OpR X f r3) : OpR X f (fun x y H Q => r1 x y H Q ∨ r2 x y H Q ∨ r3 x y H Q) := h1.or (h2.or h3)
theorem s_bin {o : Op2} {op : Operator} {a b : E} {x y : Expr} (ok : XOk G c R sc k X) (ho : opB o op = true) (ha : PE X x (tE G c R a)) (hb : PE X y (tE G c R b)) : PE X (.BinOp x op y pos) (tE G c R (.bin o a b)) := by
  have key : ∀ {r2 : R2}, OpR X (binaryOp op) r2 → (∀ env w Gh σ H v1 v2 d1 d2 (Q' : D → Fm → W → Prop) (Q : VK), Rel c σ H env w Gh → Rep c.m H (Okk c.O σ env Gh) Gh v1 d1 → Rep c.m H (Okk c.O σ env Gh) Gh v2 d2 → binD o d1 d2 (fun z => Q' z env w) →
      (∀ v H' d, Rel c σ H' env w Gh → Step σ env Gh H env Gh H' → Rep c.m H' (Okk c.O σ env Gh) Gh v d → ((E.bin o a b).fresh = true → (∃ xs, d = .lst xs) → FreshL c σ H H' env w Gh v d) → Q' d env w → Q v H') → r2 v1 v2 H Q) → PE X (.BinOp x op y pos) (tE G c R (.bin o a b)) := by
    intro r2 hop h
    refine (pe_op hop ha hb).imp fun σ H Q ⟨env, w, Gh, Q', r, hw, q⟩ => ?_
    unfold wpE at hw
    refine ⟨env, w, Gh, _, r, hw, fun v1 H1 d1 env1 w1 G1 r1 s1 p1 _ hw1 => ?_⟩
    refine ⟨env1, w1, G1, _, r1, hw1, fun v2 H2 d2 env2 w2 G2 r2 s2 p2 _ hw2 => ?_⟩
    refine h env2 w2 G2 σ H2 v1 v2 d1 d2 Q' Q r2 (p1.step s2 r1) p2 hw2 fun v H' d r3 s3 p3 fr q3 => ?_
    refine q v H' d env2 w2 G2 r3 ((s1.trans s2).trans s3) p3 (fun z1 z2 => (fr z1 z2).before (s1.trans s2)) q3
  cases o <;> cases op <;> first | cases ho | skip
  · -- add
    refine key (op_add.or (op_add_str.or (op_catA.or op_cat))) fun env w Gh σ H v1 v2 d1 d2 Q' Q r p1 p2 hw q => ?_
    cases p1 <;> cases p2 <;> first | exact hw.elim | skip
    · exact .inl ⟨_, _, rfl, rfl, q _ H _ r Step.rfl' (.int _) (fun _ z => nomatch z) hw⟩
    · exact .inr (.inl ⟨_, _, rfl, rfl, hw.1, q _ H _ r Step.rfl' (.str _) (fun _ z => nomatch z) hw.2⟩)
    · rename_i a1 vs1 ds1 h1 q1 a2 vs2 ds2 h2 q2
      obtain ⟨hl, hw⟩ := hw
      refine .inr (.inr (.inl ⟨a1, a2, vs1, vs2, rfl, rfl, .inl (.inl h1), .inl (.inl h2), by rw [q1.length, q2.length]; exact hl, fun e => ?_, fun e1 e2 => ?_, fun e1 e2 p np => ?_⟩))
      · subst e
        cases q1
        exact q _ H _ r Step.rfl' (.tup h2 q2) (fun _ z => nomatch z) hw
      · subst e2
        cases q2
        rw [List.append_nil] at hw
        exact q _ H _ r Step.rfl' (.tup h1 q1) (fun _ z => nomatch z) hw
      · have s : Step σ env Gh H env Gh (upd H p (.tup (vs1 ++ vs2))) := step_new np
        exact q _ _ _ (r.new np) s (.tup upd_same ((q1.step s r).append (q2.step s r))) (fun _ z => nomatch z) hw
    · rename_i a1 vs1 ds1 o1 h1 q1 a2 vs2 ds2 o2 h2 q2
      obtain ⟨hl, hw⟩ := hw
      refine .inr (.inr (.inr ⟨a1, a2, vs1, vs2, rfl, rfl, h1, h2, by rw [q1.length, q2.length]; exact hl, fun p np => ?_⟩))
      have s : Step σ env Gh H env Gh (upd H p (.lst (vs1 ++ vs2))) := step_new np
      exact q _ _ _ (r.new np) s (.lst (r.okNew np) upd_same ((q1.step s r).append (q2.step s r))) (fun _ _ => ⟨p, H, _, _, rfl, rfl, np, np, r, rfl, q1.append q2⟩) hw
  · -- sub
    refine key op_sub fun env w Gh σ H v1 v2 d1 d2 Q' Q r p1 p2 hw q => ?_
    cases p1 <;> cases p2 <;> first | exact hw.elim | skip
    exact ⟨_, _, rfl, rfl, q _ H _ r Step.rfl' (.int _) (fun _ z => nomatch z) hw⟩
  · -- mul
    refine key (op_mul.or (op_mulW.or op_rep)) fun env w Gh σ H v1 v2 d1 d2 Q' Q r p1 p2 hw q => ?_
    cases p1 <;> cases p2 <;> first | exact hw.elim | skip
    · rcases hw.1 with z | z
      · exact .inl ⟨_, _, rfl, rfl, z, q _ H _ r Step.rfl' (.int _) (fun _ z => nomatch z) hw.2⟩
      · exact .inr (.inl ⟨_, _, rfl, rfl, z, q _ H _ r Step.rfl' (.int _) (fun _ z => nomatch z) hw.2⟩)
    · rename_i a1 vs1 ds1 o1 h1 q1 j
      obtain ⟨⟨h3, h4, h5⟩, hw⟩ := hw
      refine .inr (.inr ⟨a1, j, vs1, rfl, rfl, h1, h3, h4, by rw [q1.length]; exact h5, fun p np => ?_⟩)
      have s : Step σ env Gh H env Gh (upd H p (.lst (List.replicate j.toNat vs1).flatten)) := step_new np
      exact q _ _ _ (r.new np) s (.lst (r.okNew np) upd_same ((q1.step s r).rep _)) (fun _ _ => ⟨p, H, _, _, rfl, rfl, np, np, r, rfl, q1.rep _⟩) hw
  · -- fdiv
    refine key op_fdivW fun env w Gh σ H v1 v2 d1 d2 Q' Q r p1 p2 hw q => ?_
    cases p1 <;> cases p2 <;> first | exact hw.elim | skip
    exact ⟨_, _, rfl, rfl, hw.1, q _ H _ r Step.rfl' (.int _) (fun _ z => nomatch z) hw.2⟩
  · -- mod
    refine key op_mod fun env w Gh σ H v1 v2 d1 d2 Q' Q r p1 p2 hw q => ?_
    cases p1 <;> cases p2 <;> first | exact hw.elim | skip
    exact ⟨_, _, rfl, rfl, hw.1, q _ H _ r Step.rfl' (.int _) (fun _ z => nomatch z) hw.2⟩
  · -- pow
    refine key op_pow fun env w Gh σ H v1 v2 d1 d2 Q' Q r p1 p2 hw q => ?_
    cases p1 <;> cases p2 <;> first | exact hw.elim | skip
    exact ⟨_, _, rfl, rfl, hw.1, q _ H _ r Step.rfl' (.int _) (fun _ z => nomatch z) hw.2⟩

theorem s_pk (ok : XOk G c R sc k X) {e : E} {x : Expr} (hc : chkE G sc e x = true) (h : PE X x (tE G c R e)) : PE X x (tPk G c R e) := by
  cases hb : baseOf e with
  | none =>
    refine h.imp fun σ H Q ⟨env, w, Gh, Q', r, hw, q⟩ => ?_
    rw [hb] at hw
    exact ⟨env, w, Gh, Q', r, hw, fun v H' d env' w' Gh' r' s p _ hq => q v H' d env' w' Gh' r' s (.rep p) hq⟩
  | some i =>
    cases e <;> try (cases hb)
    cases x <;> try (cases hc)
    have h1 := Bool.and_eq_true_iff.mp hc
    have h2 := Bool.and_eq_true_iff.mp h1.1
    exact s_vPk ok h2.1 h2.2 h1.2
theorem s_base (ok : XOk G c R sc k X) {e : E} {x : Expr} (hc : chkE G sc e x = true) (h : PE X x (tE G c R e)) : PE X x (tBase G c R e) := by
  cases hb : baseOf e with
  | none =>
    refine h.imp fun σ H Q ⟨α, env, w, Gh, t, Q', r, hw, q⟩ => ?_
    rw [hb] at hw
    refine ⟨env, w, Gh, _, r, hw, fun v H' d env' w' Gh' r' s p _ hq => ?_⟩
    refine q v H' env' w' Gh' _ r' s hq fun x H2 env2 w2 G2 r2 s2 h2 => ⟨d, .rep (p.step s2 r'), fun i z => ?_, h2⟩
    rw [hb] at z
    cases z
  | some i =>
    cases e <;> try (cases hb)
    cases x <;> try (cases hc)
    have h1 := Bool.and_eq_true_iff.mp hc
    have h2 := Bool.and_eq_true_iff.mp h1.1
    obtain ⟨d1, d2, _⟩ := plainN_ok h1.2
    refine (pe_var (ok.at_ h2.1) (ok.vis _ h2.2) d1 d2).imp fun σ H Q ⟨α, env, w, Gh, t, Q', r, hw, q⟩ => ?_
    obtain ⟨v, d, e, p, hd⟩ := r.peek (i := i) (Q := fun _ => t env w fun x env w => getS env i fun d => Q' d x env w) hw
    refine ⟨v, e, q v H env w Gh _ r Step.rfl' hd fun x H2 env2 w2 G2 r2 s2 h2 => ?_⟩
    have h2 : getS env2 i fun d => Q' d x env2 w2 := h2
    have h3 : getS env2 i fun d => (getS env2 i fun d' => d' = d) ∧ Q' d x env2 w2 := by
      unfold getS at h2 ⊢
      cases e2 : env2[i]? with
      | none =>
        rw [e2] at h2
        exact h2.elim
      | some s =>
        rw [e2] at h2
        cases s with
        | none => exact h2.elim
        | val d => exact ⟨rfl, h2⟩
        | own k => exact ⟨rfl, h2⟩
    obtain ⟨v2, d2, e2, p2, hd2, hd3⟩ := r2.peek h3
    rw [e] at e2
    cases e2
    refine ⟨d2, p2, fun j z => ?_, hd3⟩
    cases z
    exact ⟨e, hd2⟩
theorem isL_of {m : Ct} {H : Hp} {okf : Addr → Prop} {Gh : List Addr} {v : V} {d : D} (p : Pk m.m H okf Gh v d) (h : isL d = true) : ∃ a xs, v = .ref a ∧ H a = some (.lst xs) := by
  cases d <;> try (cases h)
  obtain ⟨a, vs, e, h1, _⟩ := p.lst
  exact ⟨a, vs, e, h1⟩
theorem s_baseL (ok : XOk G c R sc k X) {e : E} {x : Expr} (hc : chkE G sc e x = true) (h : PE X x (tE G c R e)) : PE X x (tBaseL G c R e) := by
  cases hb : baseOf e with
  | none =>
    refine h.imp fun σ H Q ⟨α, env, w, Gh, t, Q', r, hw, q⟩ => ?_
    rw [hb] at hw
    refine ⟨env, w, Gh, _, r, hw, fun v H' d env' w' Gh' r' s p _ hq => ?_⟩
    obtain ⟨il, hq⟩ := hq
    refine q v H' env' w' Gh' _ r' s (isL_of (r'.resP (.rep p)) il) hq fun x H2 env2 w2 G2 r2 s2 h2 => ⟨d, .rep (p.step s2 r'), fun i z => ?_, h2⟩
    rw [hb] at z
    cases z
  | some i =>
    cases e <;> try (cases hb)
    cases x <;> try (cases hc)
    have h1 := Bool.and_eq_true_iff.mp hc
    have h2 := Bool.and_eq_true_iff.mp h1.1
    obtain ⟨d1, d2, _⟩ := plainN_ok h1.2
    refine (pe_var (ok.at_ h2.1) (ok.vis _ h2.2) d1 d2).imp fun σ H Q ⟨α, env, w, Gh, t, Q', r, hw, q⟩ => ?_
    obtain ⟨v, d, e, p, hd⟩ := r.peek (i := i) (Q := fun d => isL (res w d) = true ∧ t env w fun x env w => getS env i fun d => Q' d x env w) hw
    obtain ⟨il, hd⟩ := hd
    refine ⟨v, e, q v H env w Gh _ r Step.rfl' (isL_of (r.resP p) il) hd fun x H2 env2 w2 G2 r2 s2 h2 => ?_⟩
    have h2 : getS env2 i fun d => Q' d x env2 w2 := h2
    have h3 : getS env2 i fun d => (getS env2 i fun d' => d' = d) ∧ Q' d x env2 w2 := by
      unfold getS at h2 ⊢
      cases e2 : env2[i]? with
      | none =>
        rw [e2] at h2
        exact h2.elim
      | some s =>
        rw [e2] at h2
        cases s with
        | none => exact h2.elim
        | val d => exact ⟨rfl, h2⟩
        | own k => exact ⟨rfl, h2⟩
    obtain ⟨v2, d2, e2, p2, hd2, hd3⟩ := r2.peek h3
    rw [e] at e2
    cases e2
    refine ⟨d2, p2, fun j z => ?_, hd3⟩
    cases z
    exact ⟨e, hd2⟩
theorem s_neg {a : E} {x : Expr} (ha : PE X x (tE G c R a)) : PE X (.UnaryOp .USub x pos) (tE G c R (.neg a)) := by
  refine (pe_un un_neg ha).imp fun σ H Q ⟨env, w, Gh, Q', r, hw, q⟩ => ?_
  refine ⟨env, w, Gh, _, r, hw, fun v1 H1 d1 env1 w1 G1 r1 s1 p1 _ hw1 => ?_⟩
  replace hw1 : negD d1 fun z => Q' z env1 w1 := hw1
  cases p1 <;> first | exact hw1.elim | skip
  exact ⟨_, rfl, q _ H1 _ env1 w1 G1 r1 s1 (.int _) (fun z => nomatch z) hw1⟩
/-! ### displays, arguments -/
theorem s_es_nil : PA X [] (tEs G c R .nil) :=
  pa_nil.imp fun σ H Q ⟨env, w, Gh, Q', r, hw, q⟩ => q [] H [] env w Gh r Step.rfl' .nil rfl hw
theorem s_es_cons {a : E} {es : Es} {x : Expr} {xs : List Expr} (hs : isStar x = false) (ha : PE X x (tE G c R a)) (hr : PA X xs (tEs G c R es)) : PA X (x :: xs) (tEs G c R (.cons a es)) := by
  refine (pa_cons ha hr (star_ok hs)).imp fun σ H Q ⟨env, w, Gh, Q', r, hw, q⟩ => ?_
  refine ⟨env, w, Gh, _, r, hw, fun v1 H1 d1 env1 w1 G1 r1 s1 p1 _ hw1 => ?_⟩
  refine ⟨env1, w1, G1, _, r1, hw1, fun vs H2 ds env2 w2 G2 r2 s2 p2 hl hw2 => ?_⟩
  exact q _ H2 _ env2 w2 G2 r2 (s1.trans s2) (.cons (p1.step s2 r1) p2) (congrArg Nat.succ hl) hw2
theorem s_tup {es : Es} {xs : List Expr} {n : Nat} (h : PA X xs (tEs G c R es)) : PE X (.Tuple xs n pos) (tE G c R (.tup es)) := by
  refine (pe_tup h).imp fun σ H Q ⟨env, w, Gh, Q', r, hw, q⟩ => ?_
  refine ⟨env, w, Gh, _, r, hw, fun vs H1 ds env1 w1 G1 r1 s1 p1 hlen hw1 => ?_⟩
  obtain ⟨hl, hw1⟩ := hw1
  refine ⟨by rw [p1.length]; exact hl, fun p np => ?_⟩
  have s : Step σ env1 G1 H1 env1 G1 (upd H1 p (.tup vs)) := step_new np
  exact q _ _ _ env1 w1 G1 (r1.new np) (s1.trans s) (.tup upd_same (p1.step s r1)) (fun z => nomatch z) hw1
theorem s_lst {es : Es} {xs : List Expr} (h : PA X xs (tEs G c R es)) : PE X (.List xs pos) (tE G c R (.lst es)) := by
  refine (pe_lst h).imp fun σ H Q ⟨env, w, Gh, Q', r, hw, q⟩ => ?_
  refine ⟨env, w, Gh, _, r, hw, fun vs H1 ds env1 w1 G1 r1 s1 p1 hlen hw1 => ?_⟩
  obtain ⟨hl, hw1⟩ := hw1
  refine ⟨by rw [p1.length]; exact hl, fun p np => ?_⟩
  have s : Step σ env1 G1 H1 env1 G1 (upd H1 p (.lst vs)) := step_new np
  exact q _ _ _ env1 w1 G1 (r1.new np) (s1.trans s) (.lst (r1.okNew np) upd_same (p1.step s r1)) (fun _ _ => ⟨p, H1, _, _, rfl, rfl, s1.none_of np, np, r1, rfl, p1⟩) hw1
/-! ### fields, items, slices -/
theorem attr_base {x : Expr} {f : Str} {env : PySem.Env} (h : noSuper x = true) : attributeBase x f env (eval x env) = eval x env := by
  unfold attributeBase
  split
  · cases h
  · rfl
theorem s_attr (ok : XOk G c R sc k X) {a : E} {x : Expr} {f : Str} (hs : noSuper x = true) (ha : PE X x (tPk G c R a)) : PE X (.Attribute x f pos) (tE G c R (.attr a f)) := by
  refine (pe_fld ha (attr_base hs)).imp fun σ H Q ⟨env, w, Gh, Q', r, hw, q⟩ => ?_
  replace hw : pkD (baseOf a) (wpE G R a) env w fun d env w => match res w d with
    | .obj _ fs => match fs.lookup f with
      | some x => Q' x env w
      | none => False
    | _ => False := hw
  refine ⟨env, w, Gh, _, r, hw, fun v1 H1 d1 env1 w1 G1 r1 s1 p1 hw1 => ?_⟩
  have p2 := r1.resP p1
  replace hw1 : (match res w1 d1 with
    | .obj _ fs => match fs.lookup f with
      | some x => Q' x env1 w1
      | none => False
    | _ => False) := hw1
  generalize res w1 d1 = d2 at p2 hw1
  cases d2 <;> first | exact hw1.elim | skip
  rename_i n fs
  obtain ⟨a, C, dx, fvs, rfl, h1, m1, cf, nf, rf⟩ := p2.obj
  cases e : fs.lookup f with
  | none =>
    simp only [e] at hw1
  | some d3 =>
    simp only [e] at hw1
    obtain ⟨v3, e3, p3⟩ := rf.lookup e
    have hf : f ∈ c.m.fl := by
      have key : ∀ l : List (Str × V), l.lookup f = some v3 → (∀ p, p ∈ l → p.1 ∈ c.m.fl) → f ∈ c.m.fl := by
        intro l
        induction l with
        | nil => intro z _; cases z
        | cons p l ih =>
          obtain ⟨g, y⟩ := p
          intro z h
          unfold List.lookup at z
          cases q : (f == g) with
          | true =>
            have := beq_iff_eq.mp q
            subst this
            exact h _ (List.mem_cons_self ..)
          | false =>
            rw [q] at z
            exact ih z fun p hp => h p (List.mem_cons_of_mem _ hp)
      exact key fvs e3 nf
    refine ⟨a, C, dx, fvs, v3, rfl, h1, ?_, ?_, e3, q v3 H1 d3 env1 w1 G1 r1 s1 p3 (fun z => nomatch z) hw1⟩
    · rw [ok.K]
      exact cf.cls
    · rw [ok.K]
      exact cf.noat f hf
theorem subs_ok {b : Expr} (h : isSlice b = false) : PlainIx b := by
  intro o i
  cases b <;> first | rfl | cases h
theorem s_ix {a kx : E} {x y : Expr} (hs : isSlice y = false) (ha : PE X x (tBase G c R a)) (hk : PE X y (tE G c R kx)) : PE X (.Subscript x y pos) (tE G c R (.ix a kx)) := by
  refine (pe_ix ix_seq ha hk (subs_ok hs)).imp fun σ H Q ⟨env, w, Gh, Q', r, hw, q⟩ => ?_
  refine ⟨D, env, w, Gh, _, _, r, hw, fun v1 H1 env1 w1 G1 Q2 r1 s1 hw1 back => ?_⟩
  refine ⟨env1, w1, G1, _, r1, hw1, fun v2 H2 d2 env2 w2 G2 r2 s2 p2 fr2 hw2 => ?_⟩
  obtain ⟨d, pd, hbb, hw3⟩ := back d2 H2 env2 w2 G2 r2 s2 hw2
  have p3 := r2.resP pd
  replace hw3 : ixD (res w2 d) d2 fun y => Q' y env2 w2 := hw3
  generalize res w2 d = d3 at p3 hw3
  cases d3 <;> cases d2 <;> first | exact hw3.elim | skip
  · -- a text
    rename_i z i
    obtain rfl := p3.str
    cases p2
    obtain ⟨hl, hw3⟩ := hw3
    cases e : atI z.cps.toList i with
    | none => simp only [e] at hw3
    | some ch =>
      simp only [e] at hw3
      exact .inr (.inr ⟨z, i, ch, rfl, rfl, hl, e, q _ H2 _ env2 w2 G2 r2 (s1.trans s2) (.str _) (fun z => nomatch z) hw3⟩)
  · rename_i xs i
    obtain ⟨a, vs, rfl, h1, r3⟩ := p3.tup
    cases p2
    replace hw3 : (match atI xs i with
      | some v => Q' v env2 w2
      | none => False) := hw3
    cases e : atI xs i with
    | none => simp only [e] at hw3
    | some d4 =>
      simp only [e] at hw3
      obtain ⟨v4, e4, p4⟩ : ∃ v4, atI vs i = some v4 ∧ Rep c.m H2 (Okk c.O σ env2 G2) G2 v4 d4 := by
        unfold atI at e ⊢
        rw [r3.length]
        cases e5 : ixN xs.length i with
        | none => rw [e5] at e; cases e
        | some j =>
          rw [e5] at e
          exact r3.get e
      exact .inr (.inl ⟨a, vs, i, v4, rfl, rfl, .inl (.inl h1), e4, q _ H2 _ env2 w2 G2 r2 (s1.trans s2) p4 (fun z => nomatch z) hw3⟩)
  · rename_i xs i
    obtain ⟨a, vs, rfl, h1, r3⟩ := p3.lst
    cases p2
    replace hw3 : (match atI xs i with
      | some v => Q' v env2 w2
      | none => False) := hw3
    cases e : atI xs i with
    | none => simp only [e] at hw3
    | some d4 =>
      simp only [e] at hw3
      obtain ⟨v4, e4, p4⟩ : ∃ v4, atI vs i = some v4 ∧ Rep c.m H2 (Okk c.O σ env2 G2) G2 v4 d4 := by
        unfold atI at e ⊢
        rw [r3.length]
        cases e5 : ixN xs.length i with
        | none => rw [e5] at e; cases e
        | some j =>
          rw [e5] at e
          exact r3.get e
      exact .inl ⟨a, vs, i, v4, rfl, rfl, .inl (.inl h1), e4, q _ H2 _ env2 w2 G2 r2 (s1.trans s2) p4 (fun z => nomatch z) hw3⟩
theorem s_eo_none : PO X none (tEo G c R .none) :=
  po_none.imp fun σ H Q ⟨env, w, Gh, Q', r, hw, q⟩ => q none H env w Gh r Step.rfl' hw
theorem s_eo_some {a : E} {x : Expr} (ha : PE X x (tE G c R a)) : PO X (some x) (tEo G c R (.some a)) := by
  refine (po_some ha).imp fun σ H Q ⟨env, w, Gh, Q', r, hw, q⟩ => ?_
  refine ⟨env, w, Gh, _, r, hw, fun v1 H1 d1 env1 w1 G1 r1 s1 p1 _ hw1 => ?_⟩
  cases p1 <;> first | exact hw1.elim | skip
  exact ⟨_, rfl, q _ H1 env1 w1 G1 r1 s1 hw1⟩
theorem s_sl (ok : XOk G c R sc k X) {a : E} {lo hi : Eo} {x : Expr} {l u : Option Expr} {p2 : Pos} (ha : PE X x (tBase G c R a)) (hl : PO X l (tEo G c R lo)) (hu : PO X u (tEo G c R hi)) : PE X (.Subscript x (.Slice l u none p2) pos) (tE G c R (.sl a lo hi)) := by
  refine (pe_slice (sl_list.or sl_tupA) ha hl hu).imp fun σ H Q ⟨env, w, Gh, Q', r, hw, q⟩ => ?_
  replace hw : pkThen (baseOf a) (wpE G R a) (fun env w Q => wpEo G R lo env w fun l env w => wpEo G R hi env w fun u env w => Q (l, u) env w) env w fun d x env w => slD (res w d) x.1 x.2 fun y => Q' y env w := hw
  refine ⟨Option Int × Option Int, env, w, Gh, _, _, r, hw, fun v1 H1 env1 w1 G1 Q2 r1 s1 hw1 back => ?_⟩
  refine ⟨env1, w1, G1, _, r1, hw1, fun o1 H2 env2 w2 G2 r2 s2 hw2 => ?_⟩
  refine ⟨env2, w2, G2, _, r2, hw2, fun o2 H3 env3 w3 G3 r3 s3 hw3 => ?_⟩
  obtain ⟨d, pd, hbb, hw4⟩ := back (o1, o2) H3 env3 w3 G3 r3 (s2.trans s3) hw3
  have p3 := r3.resP pd
  have st := s1.trans (s2.trans s3)
  replace hw4 : slD (res w3 d) o1 o2 fun y => Q' y env3 w3 := hw4
  generalize res w3 d = d3 at p3 hw4
  cases d3 <;> first | exact hw4.elim | skip
  · rename_i xs
    obtain ⟨a, vs, rfl, h1, rp⟩ := p3.tup
    refine .inr ⟨a, vs, rfl, .inl (.inl h1), fun e => ?_, fun _ p np => ?_⟩
    · refine q _ H3 _ env3 w3 G3 r3 st (.tup h1 ?_) (fun _ z => nomatch z) hw4
      have hc := rp.cut o1 o2
      have e2 : cutV vs o1 o2 = vs := by
        unfold cutV
        rw [e.1, e.2]
        simp
      rw [e2] at hc
      exact hc
    · have s : Step σ env3 G3 H3 env3 G3 (upd H3 p (.tup (cutV vs o1 o2))) := step_new np
      exact q _ _ _ env3 w3 G3 (r3.new np) (st.trans s) (.tup upd_same ((rp.step s r3).cut o1 o2)) (fun _ z => nomatch z) hw4
  · rename_i xs
    obtain ⟨a, vs, rfl, h1, rp⟩ := p3.lst
    refine .inl ⟨a, vs, rfl, .inl (.inl h1), fun p np => ?_⟩
    have s : Step σ env3 G3 H3 env3 G3 (upd H3 p (.lst (cutV vs o1 o2))) := step_new np
    exact q _ _ _ env3 w3 G3 (r3.new np) (st.trans s) (.lst (r3.okNew np) upd_same ((rp.step s r3).cut o1 o2)) (fun _ _ => ⟨p, H3, _, _, rfl, rfl, st.none_of np, np, r3, rfl, rp.cut o1 o2⟩) hw4
  · rename_i ns
    obtain ⟨a, rfl, h1⟩ := p3.scr
    have hS : SqL X.K H3 a (ns.map V.int) := by
      rw [ok.K]
      exact h1.seq
    refine .inl ⟨a, _, rfl, hS, fun p np => ?_⟩
    have s : Step σ env3 G3 H3 env3 G3 (upd H3 p (.lst (cutV (ns.map V.int) o1 o2))) := step_new np
    exact q _ _ _ env3 w3 G3 (r3.new np) (st.trans s) (.lst (r3.okNew np) upd_same ((reps_ints ns).cut o1 o2)) (fun _ _ => ⟨p, H3, _, _, rfl, rfl, st.none_of np, np, r3, rfl, (reps_ints ns).cut o1 o2⟩) hw4

/-! ### comparisons -/
theorem isNone_of {H : Hp} {okf : Addr → Prop} {Gh : List Addr} {v : V} {d : D} (p : Rep c.m H okf Gh v d) : isNone d = decide (v = .non) := by
  cases p <;> rfl
theorem inV_ints (i : Int) : ∀ ns : List Int, inV (.int i) (ns.map V.int) = decide (i ∈ ns)
  | [] => rfl
  | n :: ns => by
    show (eqV (.int n) (.int i) || inV (.int i) (ns.map V.int)) = decide (i ∈ n :: ns)
    rw [inV_ints i ns]
    have e : eqV (.int n) (.int i) = decide (i = n) := by
      show (n == i) = decide (i = n)
      rw [Bool.beq_eq_decide_eq]
      exact decide_eq_decide.mpr ⟨Eq.symm, Eq.symm⟩
    rw [e, ← Bool.decide_or]
    exact decide_eq_decide.mpr List.mem_cons.symm
theorem flat_ints : ∀ ns : List Int, (ns.map V.int).all flatV = true
  | [] => rfl
  | n :: ns => by
    show (true && (ns.map V.int).all flatV) = true
    rw [flat_ints ns]
    rfl
/-- one comparison that asks no def -/
theorem cmpD_ok (ok : XOk G c R sc k X) {o : Cmp} {op : CmpOp} (ho : cmpB o op = true) :
    ∃ r2 : R2, OpR X (compareOp op) r2 ∧ ∀ (H : Hp) (okf : Addr → Prop) (Gh : List Addr) (v1 v2 : V) (d1 d2 : D) (q : Bool → Prop) (Q : VK), Rep c.m H okf Gh v1 d1 → Pk c.m H okf Gh v2 d2 → (isIn o = true ∨ Rep c.m H okf Gh v2 d2) → cmpD o d1 d2 q → (∀ b, q b → Q (.bl b) H) → r2 v1 v2 H Q := by
  have hu := ok.room.units
  have hu0 := ok.room.units0
  cases o <;> cases op <;> first | cases ho | skip
  · refine ⟨_, op_eqD hu, fun H okf Gh v1 v2 d1 d2 q Q p1 pk2 p2 hw f => ?_⟩
    obtain ⟨i1, i2, s1, s2, hw⟩ := hw
    rcases p2 with z | p2
    · cases z
    · rw [ok.K]
      exact ⟨_, _, p1.dp i1, p2.dp i2, s1, s2, f _ hw⟩
  · refine ⟨_, op_neD hu, fun H okf Gh v1 v2 d1 d2 q Q p1 pk2 p2 hw f => ?_⟩
    obtain ⟨i1, i2, s1, s2, hw⟩ := hw
    rcases p2 with z | p2
    · cases z
    · rw [ok.K]
      exact ⟨_, _, p1.dp i1, p2.dp i2, s1, s2, f _ hw⟩
  · refine ⟨_, op_lt.or (op_ltT hu0), fun H okf Gh v1 v2 d1 d2 q Q p1 pk2 p2 hw f => ?_⟩
    rcases p2 with z | p2
    · cases z
    · cases p1 <;> cases p2 <;> first | exact hw.elim | skip
      · exact .inl ⟨_, _, rfl, rfl, f _ hw⟩
      · rename_i a1 vs1 ds1 h1 q1 a2 vs2 ds2 h2 q2
        replace hw : (match intsOf ds1, intsOf ds2 with
          | some ns, some ms => q (HT.lexLt ns ms)
          | _, _ => False) := hw
        cases e1 : intsOf ds1 with
        | none => simp only [e1] at hw
        | some ns =>
          cases e2 : intsOf ds2 with
          | none => simp only [e1, e2] at hw
          | some ms =>
            simp only [e1, e2] at hw
            refine .inr ⟨a1, a2, ns, ms, rfl, rfl, .inl (.inl ?_), .inl (.inl ?_), f _ hw⟩
            · rw [← q1.intsV e1]; exact h1
            · rw [← q2.intsV e2]; exact h2
  · refine ⟨_, op_le, fun H okf Gh v1 v2 d1 d2 q Q p1 pk2 p2 hw f => ?_⟩
    rcases p2 with z | p2
    · cases z
    · cases p1 <;> cases p2 <;> first | exact hw.elim | exact ⟨_, _, rfl, rfl, f _ hw⟩
  · refine ⟨_, op_gt, fun H okf Gh v1 v2 d1 d2 q Q p1 pk2 p2 hw f => ?_⟩
    rcases p2 with z | p2
    · cases z
    · cases p1 <;> cases p2 <;> first | exact hw.elim | exact ⟨_, _, rfl, rfl, f _ hw⟩
  · refine ⟨_, op_ge, fun H okf Gh v1 v2 d1 d2 q Q p1 pk2 p2 hw f => ?_⟩
    rcases p2 with z | p2
    · cases z
    · cases p1 <;> cases p2 <;> first | exact hw.elim | exact ⟨_, _, rfl, rfl, f _ hw⟩
  · refine ⟨_, op_isN.or op_isBl, fun H okf Gh v1 v2 d1 d2 q Q p1 pk2 p2 hw f => ?_⟩
    rcases p2 with z | p2
    · cases z
    · have hn := isNone_of (c := c) p1
      cases p2 <;> try (cases p1 <;> exact hw.elim)
      · have hw : q (isNone d1) := hw
        rw [hn] at hw
        exact .inl ⟨rfl, f _ hw⟩
      · cases p1 <;> first | exact hw.elim | exact .inr ⟨_, _, rfl, rfl, f _ hw⟩
  · refine ⟨_, op_notN.or op_notBl, fun H okf Gh v1 v2 d1 d2 q Q p1 pk2 p2 hw f => ?_⟩
    rcases p2 with z | p2
    · cases z
    · have hn := isNone_of (c := c) p1
      cases p2 <;> try (cases p1 <;> exact hw.elim)
      · have hw : q (!isNone d1) := hw
        rw [hn] at hw
        exact .inl ⟨rfl, f _ hw⟩
      · cases p1 <;> first | exact hw.elim | exact .inr ⟨_, _, rfl, rfl, f _ hw⟩
  · refine ⟨_, op_in_seq, fun H okf Gh v1 v2 d1 d2 q Q p1 p2 pk3 hw f => ?_⟩
    cases p1 <;> cases d2 <;> first | exact hw.elim | skip
    · rename_i i ys
      obtain ⟨a, vs, rfl, h1, r1⟩ := p2.tup
      replace hw : (match intsOf ys with
        | some ns => q (decide (i ∈ ns))
        | none => False) := hw
      cases e : intsOf ys with
      | none => simp only [e] at hw
      | some ns =>
        simp only [e] at hw
        have ev := r1.intsV e
        subst ev
        refine ⟨a, _, rfl, .inr (.inl (.inl h1)), rfl, flat_ints ns, ?_⟩
        show Q (.bl (inV (.int i) (ns.map V.int))) H
        rw [inV_ints]
        exact f _ hw
    · rename_i i ys
      obtain ⟨a, vs, rfl, h1, r1⟩ := p2.lst
      replace hw : (match intsOf ys with
        | some ns => q (decide (i ∈ ns))
        | none => False) := hw
      cases e : intsOf ys with
      | none => simp only [e] at hw
      | some ns =>
        simp only [e] at hw
        have ev := r1.intsV e
        subst ev
        refine ⟨a, _, rfl, .inl (.inl (.inl h1)), rfl, flat_ints ns, ?_⟩
        show Q (.bl (inV (.int i) (ns.map V.int))) H
        rw [inV_ints]
        exact f _ hw
  · refine ⟨_, op_notIn_seq, fun H okf Gh v1 v2 d1 d2 q Q p1 p2 pk3 hw f => ?_⟩
    cases p1 <;> cases d2 <;> first | exact hw.elim | skip
    · rename_i i ys
      obtain ⟨a, vs, rfl, h1, r1⟩ := p2.tup
      replace hw : (match intsOf ys with
        | some ns => q (!decide (i ∈ ns))
        | none => False) := hw
      cases e : intsOf ys with
      | none => simp only [e] at hw
      | some ns =>
        simp only [e] at hw
        have ev := r1.intsV e
        subst ev
        refine ⟨a, _, rfl, .inr (.inl (.inl h1)), rfl, flat_ints ns, ?_⟩
        show Q (.bl (!inV (.int i) (ns.map V.int))) H
        rw [inV_ints]
        exact f _ hw
    · rename_i i ys
      obtain ⟨a, vs, rfl, h1, r1⟩ := p2.lst
      replace hw : (match intsOf ys with
        | some ns => q (!decide (i ∈ ns))
        | none => False) := hw
      cases e : intsOf ys with
      | none => simp only [e] at hw
      | some ns =>
        simp only [e] at hw
        have ev := r1.intsV e
        subst ev
        refine ⟨a, _, rfl, .inl (.inl (.inl h1)), rfl, flat_ints ns, ?_⟩
        show Q (.bl (!inV (.int i) (ns.map V.int))) H
        rw [inV_ints]
        exact f _ hw
end
end Py

set_option Elab.async false
set_option linter.all false
set_option maxRecDepth 100000
set_option maxHeartbeats 4000000
/-! PyE: calls, comparisons, tests, built-ins. -/
namespace Py
open PySem PySem.Spec PyProof.Rows L2
section
variable {c : Ct} {σ : L2.St} {H H' : Hp} {env : Fm} {w w' : W} {G G' : List Addr}
/-- what a callee leaves alone -/
def Oc (c : Ct) (σ : L2.St) (env : Fm) (a : Addr) : Prop := c.O a ∨ Own σ env a
theorem oc_ok {a : Addr} : okO (Oc c σ env) G a ↔ Okk c.O σ env G a := by
  unfold okO Oc Okk
  constructor
  · rintro ⟨h1, h2⟩
    exact ⟨fun z => h1 (.inl z), fun z => h1 (.inr z), h2⟩
  · rintro ⟨h1, h2, h3⟩
    exact ⟨fun z => z.elim h1 h2, h3⟩
theorem Rep.ok {m : Mo} {p q : Addr → Prop} {v : V} {d : D} (h : Rep m H p G v d) (e : ∀ a, p a → q a) : Rep m H q G v d := h.go (fun _ _ e _ => e) (fun a _ x _ => e a x) fun _ _ e => e
theorem Reps.ok {m : Mo} {p q : Addr → Prop} {v : List V} {d : List D} (h : Reps m H p G v d) (e : ∀ a, p a → q a) : Reps m H q G v d := h.go (fun _ _ e _ => e) (fun a _ x _ => e a x) fun _ _ e => e
theorem RepF.ok {m : Mo} {p q : Addr → Prop} {v : List (Str × V)} {d : List (Str × D)} (h : RepF m H p G v d) (e : ∀ a, p a → q a) : RepF m H q G v d := h.go (fun _ _ e _ => e) (fun a _ x _ => e a x) fun _ _ e => e
theorem CellR.ok {m : Mo} {p q : Addr → Prop} {a : Addr} {k : Cell} (h : CellR m H p G a k) (e : ∀ a, p a → q a) : CellR m H q G a k := h.go rfl (fun _ _ e _ => e) (fun a _ x _ => e a x) fun _ _ e => e
theorem Rel.call (r : Rel c σ H env w G) : WRel c.m (Oc c σ env) H w G where
  wl := r.wl
  nd := r.nd
  st := fun n k a e1 e2 => by
    obtain ⟨h, n1⟩ := r.st n k a e1 e2
    refine ⟨h.ok fun a => oc_ok.mpr, fun z => z.elim n1 fun z => ?_⟩
    obtain ⟨i, k', q1, q2⟩ := z
    obtain ⟨b, q3, _, q4, _⟩ := r.own i k' q1
    rw [q2] at q3
    cases q3
    exact q4 (List.mem_of_getElem? e2)
  ot := fun a z => z.elim (r.ot a) fun z => by
    obtain ⟨o, e, _⟩ := r.ownAt z
    rw [e]
    intro n
    cases n
theorem Rel.back (r : Rel c σ H env w G) (s : CStep H G H' G') (wr : WRel c.m (Oc c σ env) H' w' G') : Rel c σ H' env w' G' ∧ Step σ env G H env G' H' := by
  have st : Step σ env G H env G' H' := ⟨fun a o e _ h => s.fr a o e h, fun _ h => h, s.gx, s.gn, s.tr⟩
  refine ⟨⟨r.len, fun i d e => ?_, fun i k e => ?_, r.inj, wr.wl, wr.nd, fun n k a e1 e2 => ?_, fun a o e h1 h2 => ?_, ?_, fun a h => ?_, r.sf, fun a h => s.tr a (r.ot a h), fun x h => s.tr x (r.sx x h)⟩, st⟩
  · obtain ⟨v, e1, h⟩ := r.val i d e
    exact ⟨v, e1, h.step st r⟩
  · obtain ⟨a, e1, h, n1, n2⟩ := r.own i k e
    obtain ⟨o, ho, _⟩ := r.ownAt ⟨i, k, e, e1⟩
    refine ⟨a, e1, h.go ?_ (st.stay r) st.okk st.gget, (fun z => (s.gn a z).elim n1 fun z => by rw [ho] at z; cases z), n2⟩
    rw [ho]
    exact s.fr a o ho n1
  · obtain ⟨h, n1⟩ := wr.st n k a e1 e2
    exact ⟨h.ok fun a => oc_ok.mp, fun z => n1 (.inl z)⟩
  · obtain ⟨h3, h4⟩ := r.fr a o e h1 h2
    exact ⟨s.fr a o h3 (fun z => (r.gn a z).elim h1 fun n => by rw [e] at n; cases n), h4⟩
  · obtain ⟨l, rfl⟩ := s.gx
    obtain ⟨m, rfl⟩ := r.gx
    exact ⟨m ++ l, List.append_assoc ..⟩
  · rcases s.gn a h with h | h
    · exact r.gn a h
    · cases e : c.B.H0 a with
      | none => exact .inr rfl
      | some o =>
        by_cases h1 : a ∈ c.B.G0
        · exact .inl h1
        · by_cases h2 : c.B.sf = some a
          · exact absurd h (r.sx a h2)
          · have := (r.fr a o e h1 h2).1
            rw [h] at this
            cases this
end

theorem reps_sc {m : Mo} {H : Hp} {p : Addr → Prop} {G : List Addr} : ∀ {dd : List V}, dd.all scV = true → Reps m H p G dd (dd.map dV)
  | [], _ => .nil
  | v :: dd, h => by
    have h2 := Bool.and_eq_true_iff.mp (show (scV v && dd.all scV) = true from h)
    refine .cons ?_ (reps_sc h2.2)
    cases v <;> first | cases h2.1 | skip
    · exact .non
    · exact .bl _
    · exact .int _
    · exact .str _
end Py
namespace L2
open PySem PySem.Spec PyProof.Rows
section
variable {X : Cx} {CX : CXT} {k : Nat} {f C : Addr} {fd : FuncData} {ps : List Str} {sp : Sp} {dvs : List V} {ds : List Value} {E : St → XK} {x m : Str} {p pos apos : Pos} {e o : Expr} {es : List Expr} {ta : TE} {t : TA}
theorem run_fnD {pins : List (Addr × Obj)} {σ : St} {H : Hp} {s : Shared} {Q : VK} {us : List Value} {vs : List V} (F : FnOk X.prog X.w X.K X.mg X.base CX k f fd ps sp) (hr : Room k X.A) (hb : Binds X.K fd ps ds) (hd : Vals dvs ds) (hx : PassesAt CX X σ (E σ))
    (I : Inv X pins σ H s) (r : Vals vs us) (h : sp (vs ++ dvs) H Q (E σ)) : wpAny (model X.prog X.w) X.A (call (.ref f) us) (EP X pins σ Q) X.xe s := by
  have r2 : Vals (vs ++ dvs) (us ++ ds) := r.append hd
  have hl : (us ++ ds).length = ps.length := by rw [← r2.length]; exact F.len _ _ _ _ h
  refine wpAny_call (codeAny_mono (F.run X.A X.stack s H ⟨us, []⟩ (us ++ ds) (vs ++ dvs) Q (E σ) hr I.env0 (hb s us I.kIn hl) r2 h) fun r s' hq => ?_)
  cases r with
  | error e => exact hx pins H s e s' I hq
  | ok fl =>
    cases fl with
    | ret u => exact I.after hq
    | next => exact False.elim hq
    | brk => exact False.elim hq
    | cont => exact False.elim hq
def tCallD (sp : Sp) (dvs : List V) (E : St → XK) (t : TA) : TE := fun σ H Q => t σ H fun vs H1 => sp (vs ++ dvs) H1 Q (E σ)
theorem pe_callD (F : FnOk X.prog X.w X.K X.mg X.base CX k f fd ps sp) (hr : Room k X.A) (hg : Gl X x) (hm : X.mg x = some (.ref f)) (hk : PySem.W.keepIn X.K (.ref f) = true) (hb : Binds X.K fd ps ds) (hd : Vals dvs ds) (hx : ∀ σ, PassesAt CX X σ (E σ))
    (ha : PA X es t) (hn : ∀ t' σ H Q, es = [] → t' = t → t σ H Q → tNil σ H Q) (hdb : (x == ("__debug__" : Str)) = false) (hs : ∀ e, e ∈ es → Py.isStar e = false) :
    PE X (.Call (.Name x p) es [] pos) (tCallD sp dvs E t) := by
  refine ⟨fun pins s σ H Q I h => ?_⟩
  refine wpAny_Call_Name_kw (ld_glob I hg hm ?_ hdb)
  cases es with
  | nil => exact PySem.W.callWith_K0 I.kIn hk (run_fnD (us := []) F hr hb hd (hx σ) I .nil (hn t σ H _ rfl rfl h))
  | cons e es =>
    refine PySem.W.callWith_K (h₀ := X.base) I.ok.mod.kin hk (thn (ha.run pos pins s σ H _ I h) fun us s1 ⟨vs, H1, I1, r, q⟩ => ⟨I1.kIn, ?_⟩) (Py.star_ok (hs e (List.mem_cons_self ..))) (Py.star_plain fun z hz => hs z (List.mem_cons_of_mem _ hz))
    exact run_fnD F hr hb hd (hx σ) I1 r q
theorem run_makeD {pins : List (Addr × Obj)} {σ : St} {H : Hp} {s : Shared} {Q : VK} {us : List Value} {vs : List V} (M : Mk X.K C f) (F : FnOk X.prog X.w X.K X.mg X.base CX k f fd ps sp) (hr : Room (k + 1) X.A) (hb : Binds X.K fd ps []) 
    (hx : PassesAt CX X σ (E σ)) (I : Inv X pins σ H s) (r : Vals vs us)
    (h : ∀ x dx, H x = none → H dx = none → dx ≠ x → sp (.ref x :: vs) (upd (upd H dx (.own x)) x (.ins C dx [])) (fun v H2 => v = .non ∧ Q (.ref x) H2) (E σ)) :
    wpAny (model X.prog X.w) X.A (call (.ref C) us) (EP X pins σ Q) X.xe s := by
  have hq := h (s.heap.objs.size + 1) s.heap.objs.size (I.hok.fresh (Nat.le_succ _)) (I.hok.fresh (Nat.le_refl _)) (Nat.ne_of_lt (Nat.lt_succ_self _))
  have I2 := Inv.made (C := C) I
  have r2 : Vals (V.ref (s.heap.objs.size + 1) :: vs) (Value.ref (s.heap.objs.size + 1) :: us) := .cons rfl r
  have hl : ((Value.ref (s.heap.objs.size + 1) :: us) ++ []).length = ps.length := by
    have e := r2.length
    rw [F.len _ _ _ _ hq] at e
    rw [List.append_nil]
    exact e.symm
  have hbb := hb _ (Value.ref (s.heap.objs.size + 1) :: us) I2.kIn hl
  rw [List.append_nil] at hbb
  refine wpAny_call (make_map (f := f) I.kIn M.makes M.init (beq_iff_eq.mp M.fn) (codeAny_mono (F.run _ X.stack _ _ ⟨Value.ref (s.heap.objs.size + 1) :: us, []⟩ (Value.ref (s.heap.objs.size + 1) :: us) _ _ (E σ) (hr.make C us [])
    (I2.env0.make C us []) hbb r2 hq) fun r s' hq' => ?_))
  cases r with
  | error e => exact hx pins _ _ e s' I2 hq'
  | ok fl =>
    cases fl with
    | ret u =>
      obtain ⟨v, H', I3, rv, ev, q3⟩ := I2.after hq'
      subst ev
      exact ⟨rv, ⟨V.ref (s.heap.objs.size + 1), H', I3, rfl, q3⟩⟩
    | next => exact False.elim hq'
    | brk => exact False.elim hq'
    | cont => exact False.elim hq'
def tMakeD (C : Addr) (sp : Sp) (E : St → XK) (t : TA) : TE := fun σ H Q => t σ H fun vs H1 => ∀ x dx, H1 x = none → H1 dx = none → dx ≠ x →
  sp (.ref x :: vs) (upd (upd H1 dx (.own x)) x (.ins C dx [])) (fun v H2 => v = .non ∧ Q (.ref x) H2) (E σ)
theorem pe_makeD (M : Mk X.K C f) (F : FnOk X.prog X.w X.K X.mg X.base CX k f fd ps sp) (hr : Room (k + 1) X.A) (hg : Gl X x) (hm : X.mg x = some (.ref C)) (hb : Binds X.K fd ps []) (hx : ∀ σ, PassesAt CX X σ (E σ))
    (ha : PA X (e :: es) t) (hdb : (x == ("__debug__" : Str)) = false) (hs : ∀ z, z ∈ e :: es → Py.isStar z = false) :
    PE X (.Call (.Name x p) (e :: es) [] pos) (tMakeD C sp E t) := by
  refine ⟨fun pins s σ H Q I h => ?_⟩
  refine wpAny_Call_Name_kw (ld_glob I hg hm ?_ hdb)
  refine PySem.W.callWith_K (h₀ := X.base) I.ok.mod.kin M.kp (thn (ha.run pos pins s σ H _ I h) fun us s1 ⟨vs, H1, I1, r, q⟩ => ⟨I1.kIn, ?_⟩) (Py.star_ok (hs e (List.mem_cons_self ..))) (Py.star_plain fun z hz => hs z (List.mem_cons_of_mem _ hz))
  exact run_makeD M F hr hb (hx σ) I1 r q
end
end L2
namespace Py
open PySem PySem.Spec PyProof.Rows L2
section
variable {G : Gam} {c : Ct} {R : Exn → Fm → W → Prop} {sc : Scope} {k : Nat} {X : Cx} {pos : Pos}
theorem s_call (ok : XOk G c R sc k X) {i : Nat} {es : Es} {dd : List V} {e : Fe} {args : List Expr} {p : Pos} (he : G.fns[i]? = some e) (hg : glB sc e.nm = true) (hp : plainN e.nm = true) (hd : dd ∈ e.dfl) (hv : dd.all scV = true) (hl : es.len + dd.length = e.ar)
    (ha : PA X args (tEs G c R es)) (hs : ∀ z, z ∈ args → isStar z = false) (hnil : args = [] → es = .nil) : PE X (.Call (.Name e.nm p) args [] pos) (tE G c R (.call i es dd)) := by
  obtain ⟨f, fd, ps, mg, kp, ar, F, bd⟩ := (ok.fns e (List.mem_of_getElem? he)).ex
  obtain ⟨ds0, hb, hv0⟩ := bd dd hd
  rw [← ok.K, ← ok.mg] at F
  have kp2 : PySem.W.keepIn X.K (.ref f) = true := by rw [ok.K]; exact kp
  have hb2 : Binds X.K fd ps ds0 := by rw [ok.K]; exact hb
  refine (pe_callD (E := WE (wish c R)) F ok.room (ok.gl _ hg) (by rw [ok.mg]; exact mg) kp2 hb2 hv0 (fun σ => passAt ok.tk σ) ha ?_ (plainN_ok hp).1 hs).imp fun σ H Q ⟨env, w, Gh, Q', r, hw, q⟩ => ?_
  · intro t' σ H Q z1 _ ⟨env, w, Gh, Q', r, hw, q⟩
    have := hnil z1
    subst this
    exact q [] H [] env w Gh r Step.rfl' .nil rfl hw
  · replace hw : wpEs G R es env w fun ds env w => wpCall ((G.fns[i]?).map Fe.sp) (ds ++ dd.map dV) env w R Q' := hw
    refine ⟨env, w, Gh, _, r, hw, fun vs H1 ds env1 w1 G1 r1 s1 p1 hlen hw1 => ?_⟩
    rw [he] at hw1
    replace hw1 : e.sp (ds ++ dd.map dV) w1 (fun d w => Q' d env1 w) (fun x w => R x env1 w) := hw1
    refine ⟨Oc c σ env1, ds ++ dd.map dV, w1, G1, _, _, ?_, (p1.append (reps_sc hv)).ok fun a => oc_ok.mpr, r1.call, hw1, fun v H' d w' G' cs wr pr q' => ?_, fun cls d' H' x w' G' cs wr ex rx => ?_⟩
    · rw [List.length_append, hlen, ar]
      exact hl
    · obtain ⟨r2, s2⟩ := r1.back cs wr
      exact q v H' d env1 w' G' r2 (s1.trans s2) (pr.ok fun a => oc_ok.mp) (fun z => nomatch z) q'
    · obtain ⟨r2, s2⟩ := r1.back cs wr
      obtain ⟨C, d2, fvs, e1, e2, e3, e4, e5⟩ := ex
      exact ⟨x, env1, w', G', r2, ⟨C, d2, fvs, e1, e2, e3, e4, e5.ok fun a => oc_ok.mp⟩, rx⟩
theorem s_make (ok : XOk G c R sc k X) {i : Nat} {es : Es} {e : Fe} {a0 : Expr} {args : List Expr} {p : Pos} (he : G.cls[i]? = some e) (hg : glB sc e.nm = true) (hp : plainN e.nm = true) (hl : es.len + 1 = e.ar)
    (ha : PA X (a0 :: args) (tEs G c R es)) (hs : ∀ z, z ∈ a0 :: args → isStar z = false) : PE X (.Call (.Name e.nm p) (a0 :: args) [] pos) (tE G c R (.make i es)) := by
  obtain ⟨j, ek, hC⟩ := ok.cls e (List.mem_of_getElem? he)
  subst ek
  obtain ⟨C, f, fd, ps, mg, M, cf, hcn, ar, F, bd, hTy⟩ := hC.ex
  rw [← ok.K, ← ok.mg] at F
  have M2 : Mk X.K C f := by rw [ok.K]; exact M
  have bd2 : Binds X.K fd ps [] := by rw [ok.K]; exact bd
  refine (pe_makeD (E := WE (wish c R)) M2 F ok.room (ok.gl _ hg) (by rw [ok.mg]; exact mg) bd2 (fun σ => passAt ok.tk σ) ha (plainN_ok hp).1 hs).imp fun σ H Q ⟨env, w, Gh, Q', r, hw, q⟩ => ?_
  replace hw : wpEs G R es env w fun ds env w => wpCall ((G.cls[i]?).map Fe.sp) (ds ++ []) env w R Q' := hw
  refine ⟨env, w, Gh, _, r, hw, fun vs H1 ds env1 w1 G1 r1 s1 p1 hlen hw1 x dx hx hdx hne => ?_⟩
  rw [he, List.append_nil] at hw1
  replace hw1 : e.sp ds w1 (fun d w => Q' d env1 w) (fun x w => R x env1 w) := hw1
  have hx2 : upd H1 dx (.own x) x = none := by rw [upd_ne hne.symm]; exact hx
  have up : ∀ a o, H1 a = some o → upd (upd H1 dx (.own x)) x (.ins C dx []) a = some o := fun a o e => by
    rw [upd_ne (ne_of_none e hx), upd_ne (ne_of_none e hdx)]
    exact e
  have nx := r1.notNew hx
  have nOx : ¬ Oc c σ env1 x := fun z => z.elim (fun z => r1.ot x z hx) nx.1
  have hok : ∀ a o, Okk c.O σ env1 G1 a → H1 a = some o → okO (fun a => Oc c σ env1 a ∨ a = x) G1 a := fun a o h e =>
    ⟨fun z => z.elim (fun z => (oc_ok.mpr h).1 z) fun z => ne_of_none e hx z, h.2.2⟩
  -- from the callee's step to ours
  have cst : ∀ {H' : Hp} {G' : List Addr}, CStep (fun a => if a = x then none else upd (upd H1 dx (.own x)) x (.ins C dx []) a) G1 H' G' → x ∉ G' → CStep H1 G1 H' G' := by
    intro H' G' cs hxg
    refine ⟨fun a o e h => cs.fr a o ?_ h, cs.gx, fun a h => (cs.gn a h).imp_right fun z => ?_, fun a h => cs.tr a ?_⟩
    · show (if a = x then none else _) = _
      rw [if_neg (ne_of_none e hx)]
      exact up a o e
    · have z2 : (if a = x then none else upd (upd H1 dx (.own x)) x (.ins C dx []) a) = none := z
      by_cases q : a = x
      · exact absurd (q ▸ h) hxg
      · rw [if_neg q] at z2
        cases e : H1 a with
        | none => rfl
        | some o =>
          rw [up a o e] at z2
          cases z2
    · show (if a = x then none else _) ≠ none
      cases e : H1 a with
      | none => exact absurd e h
      | some o =>
        rw [if_neg (ne_of_none e hx), up a o e]
        intro z
        cases z
  refine ⟨Oc c σ env1, x, C, dx, vs, ds, w1, G1, _, _, ?_, rfl, upd_same, mg, cf, nx.2, nOx, p1.go (fun a o e _ => up a o e) hok (fun _ _ e => e), ?_, hw1, fun v H' d w' G' cs hxg wr pr ev q' => ⟨ev, ?_⟩, fun cls d' H' y w' G' cs hxg wr ex rx => ?_⟩
  · rw [List.length_cons, hlen, ar]
    exact hl
  · refine ⟨r1.wl, r1.nd, fun n kc a e1 e2 => ?_, fun a z => ?_⟩
    · obtain ⟨h, n1⟩ := r1.call.st n kc a e1 e2
      obtain ⟨o, ho, _⟩ := h.at_
      exact ⟨h.go (by rw [ho]; exact up a o ho) (fun a o e _ => up a o e) (fun a o h e => hok a o (oc_ok.mp h) e) (fun _ _ e => e), fun z => z.elim n1 fun z => ne_of_none ho hx z⟩
    · rcases z with z | z
      · have := r1.call.ot a z
        cases e : H1 a with
        | none => exact absurd e this
        | some o =>
          rw [up a o e]
          intro z
          cases z
      · subst z
        rw [upd_same]
        intro z
        cases z
  · obtain ⟨r2, s2⟩ := r1.back (cst cs hxg) wr
    exact q _ H' d env1 w' G' r2 (s1.trans s2) (pr.ok fun a => oc_ok.mp) (fun z => nomatch z) q'
  · obtain ⟨r2, s2⟩ := r1.back (cst cs hxg) wr
    obtain ⟨C, d2, fvs, e1, e2, e3, e4, e5⟩ := ex
    exact ⟨y, env1, w', G', r2, ⟨C, d2, fvs, e1, e2, e3, e4, e5.ok fun a => oc_ok.mp⟩, rx⟩
end
end Py

set_option Elab.async false
set_option linter.all false
set_option maxRecDepth 100000
set_option maxHeartbeats 4000000
/-! PyF: comparisons, tests, built-ins. -/
namespace Py
open PySem PySem.Spec PyProof.Rows L2
section
variable {G : Gam} {c : Ct} {R : Exn → Fm → W → Prop} {sc : Scope} {k : Nat} {X : Cx} {pos : Pos}
theorem OpR.ex {X : Cx} {f : Value → Value → Sem Value} {ι : Type} {r : ι → R2} (h : ∀ i, OpR X f (r i)) : OpR X f (fun x y H Q => ∃ i, r i x y H Q) := by
  intro pins s σ H x y v u Q I rx ry hq
  obtain ⟨i, hq⟩ := hq
  exact h i pins s σ H x y v u Q I rx ry hq
theorem OpR.exP {X : Cx} {f : Value → Value → Sem Value} {p : Prop} {r : R2} (h : p → OpR X f r) : OpR X f (fun x y H Q => p ∧ r x y H Q) := by
  intro pins s σ H x y v u Q I rx ry hq
  obtain ⟨i, hq⟩ := hq
  exact h i pins s σ H x y v u Q I rx ry hq
/-- == or != by an own def -/
def rEqs (G : Gam) (c : Ct) (X : Cx) (k : Nat) (neg : Bool) : R2 := fun x y H Q => ∃ z : Fe × Addr × Addr × FuncData × List Str × Nat,
  (z.1 ∈ G.eqs ∧ k = z.2.2.2.2.2 + 1 ∧ EqF X.prog X.w c.m X.base z.2.2.2.2.2 z.1 z.2.1 z.2.2.1 z.2.2.2.1 z.2.2.2.2.1) ∧ rOwn z.2.1 neg (spOf c.m z.2.2.2.2.1.length z.1.sp) E0 x y H Q
theorem op_eqs (ok : XOk G c R sc k X) : OpR X (compareOp .Eq) (rEqs G c X k false) := by
  refine OpR.ex fun ⟨e, C, f, fd, ps, j⟩ => OpR.exP fun ⟨h1, h2, h⟩ => ?_
  have F := h.ok
  rw [← ok.K, ← ok.mg] at F
  have hr := ok.room
  subst h2
  refine op_ownEq F (hr.mono (Nat.le_succ _)) ?_ ?_ ?_ passL
  · rw [ok.K]; exact h.eq
  · rw [ok.K]; exact h.fn
  · rw [ok.K]; exact h.bd
theorem op_nes (ok : XOk G c R sc k X) : OpR X (compareOp .NotEq) (rEqs G c X k true) := by
  refine OpR.ex fun ⟨e, C, f, fd, ps, j⟩ => OpR.exP fun ⟨h1, h2, h⟩ => ?_
  have F := h.ok
  rw [← ok.K, ← ok.mg] at F
  have hr := ok.room
  subst h2
  refine op_ownNe F hr ?_ ?_ ?_ ?_ ?_ passL
  · rw [ok.K]; exact h.eq
  · rw [ok.K]; exact h.fn
  · rw [ok.K]; exact h.ne
  · rw [ok.K]; exact h.ob
  · rw [ok.K]; exact h.bd
theorem eqs_ok (ok : XOk G c R sc k X) {neg : Bool} {σ : L2.St} {H : Hp} {env : Fm} {w : W} {Gh : List Addr} {x y : D} {v1 v2 : V} {sp : Spec} {Q : VK} {Q' : Bool → W → Prop} (r : Rel c σ H env w Gh) (he : eqSpec G x = some sp)
    (p1 : Rep c.m H (Okk c.O σ env Gh) Gh v1 x) (p2 : Rep c.m H (Okk c.O σ env Gh) Gh v2 y) (hs : sameC x y = true) (hw : sp [x, y] w (fun d w => match d with
    | .bl b => Q' (if neg then !b else b) w
    | _ => False) (fun _ _ => False)) (q : ∀ d H' w' G', Rel c σ H' env w' G' → Step σ env Gh H env G' H' → Q' d w' → Q (.bl d) H') : rEqs G c X k neg v1 v2 H Q := by
  cases p1 <;> try (cases hs)
  cases p2 <;> try (cases hs)
  rename_i a1 C1 dx1 fv1 n1 fs1 o1 h1 m1 cf1 nf1 rf1 a2 C2 dx2 fv2 n2 fs2 o2 h2 m2 cf2 nf2 rf2
  have en : n1 = n2 := of_decide_eq_true hs
  subst en
  rw [m1] at m2
  cases m2
  replace he : (G.eqs.find? fun e => e.nm == n1).map Fe.sp = some sp := he
  cases e1 : G.eqs.find? fun e => e.nm == n1 with
  | none => rw [e1] at he; cases he
  | some e =>
    rw [e1] at he
    have hsp : e.sp = sp := Option.some.inj he
    subst hsp
    have hm := List.mem_of_find?_eq_some e1
    have hn0 := List.find?_some e1
    have hn : e.nm = n1 := beq_iff_eq.mp hn0
    obtain ⟨j, ek, C, f, fd, ps, h⟩ := ok.eqs e hm
    have hC : C = C1 := by
      have := h.mg
      rw [hn, m1] at this
      cases this
      rfl
    subst hC
    refine ⟨⟨e, C, f, fd, ps, j⟩, ⟨hm, ek, h⟩, a1, a2, dx1, dx2, fv1, fv2, rfl, rfl, h1, h2, ?_⟩
    refine ⟨Oc c σ env, [_, _], w, Gh, _, _, h.two.symm, .cons (Rep.ok (.obj o1 h1 m1 cf1 nf1 rf1) fun a => oc_ok.mpr) (.cons (Rep.ok (.obj o2 h2 m1 cf2 nf2 rf2) fun a => oc_ok.mpr) .nil), r.call, hw, fun v H' d w' G' cs wr pr q' => ?_, fun cls d' H' x w' G' cs wr ex rx => rx.elim⟩
    obtain ⟨r2, s2⟩ := r.back cs wr
    cases pr <;> first | exact q'.elim | skip
    exact ⟨_, rfl, q _ H' w' G' r2 s2 q'⟩
theorem wpCmp_plain {o : Cmp} {x y : D} {env : Fm} {w : W} {Q : Bool → Fm → W → Prop} (h : wpCmp G o x y env w Q) (n : ¬ (eqSpec G x ≠ none ∧ (o = .eq ∨ o = .ne))) : cmpD o x y fun b => Q b env w := by
  unfold wpCmp at h
  cases e : eqSpec G x with
  | none =>
    rw [e] at h
    cases o <;> exact h
  | some sp =>
    rw [e] at h
    cases o <;> first | exact h | exact absurd ⟨(by rw [e]; intro z; cases z), (by first | exact Or.inl rfl | exact Or.inr rfl)⟩ n
theorem cmp_core (ok : XOk G c R sc k X) {o : Cmp} {op : CmpOp} {a b : E} {x y : Expr} (ho : cmpB o op = true) (ha : PE X x (tE G c R a)) (hb : PE X y (tE G c R b)) (hbk : PE X y (tPk G c R b)) :
    ∃ (r2 : R2) (ta tb : TE), OpR X (compareOp op) r2 ∧ PE X x ta ∧ PE X y tb ∧ ∀ (σ : L2.St) (H : Hp) (Q : VK) (env : Fm) (w : W) (Gh : List Addr) (Q' : Bool → Fm → W → Prop), Rel c σ H env w Gh → doCmp G o (baseOf b) (wpE G R a) (wpE G R b) env w Q' →
      (∀ t H' env' w' G', Rel c σ H' env' w' G' → Step σ env Gh H env' G' H' → Q' t env' w' → Q (.bl t) H') → tOp r2 ta tb σ H Q := by
  obtain ⟨r2, hr2, h2⟩ := cmpD_ok ok ho
  cases hin : isIn o with
  | true =>
    refine ⟨r2, _, _, hr2, ha, hbk, fun σ H Q env w Gh Q' r hw q => ?_⟩
    unfold doCmp at hw
    rw [hin] at hw
    refine ⟨env, w, Gh, _, r, hw, fun v1 H1 d1 env1 w1 G1 r1 s1 p1 fr1 hw1 => ?_⟩
    refine ⟨env1, w1, G1, _, r1, hw1, fun v2 H2 d2 env2 w2 G2 r2 s2 p2 hw2 => ?_⟩
    have hw3 := wpCmp_plain hw2 (fun z => by rcases z.2 with z | z <;> (subst z; cases hin))
    exact h2 H2 _ G2 v1 v2 d1 _ _ Q (p1.step s2 r1) (r2.resP p2) (.inl hin) hw3 fun b hb => q _ H2 env2 w2 G2 r2 (s1.trans s2) hb
  | false =>
    have plain : ∀ {σ : L2.St} {H : Hp} {env : Fm} {w : W} {Gh : List Addr} {x y : D} {v1 v2 : V} {Q : VK} {Q' : Bool → Fm → W → Prop}, Rel c σ H env w Gh → Rep c.m H (Okk c.O σ env Gh) Gh v1 x → Rep c.m H (Okk c.O σ env Gh) Gh v2 y →
        (cmpD o x y fun b => Q' b env w) → (∀ d H' w' G', Rel c σ H' env w' G' → Step σ env Gh H env G' H' → Q' d env w' → Q (.bl d) H') → r2 v1 v2 H Q := by
      intro σ H env w Gh x y v1 v2 Q Q' r p1 p2 hw q
      exact h2 H _ Gh v1 v2 x y _ Q p1 (.rep p2) (.inr p2) hw fun b hb => q b H w Gh r Step.rfl' hb
    have key : ∀ {r3 : R2}, OpR X (compareOp op) r3 → (∀ {σ : L2.St} {H : Hp} {env : Fm} {w : W} {Gh : List Addr} {x y : D} {v1 v2 : V} {Q : VK} {Q' : Bool → Fm → W → Prop}, Rel c σ H env w Gh → Rep c.m H (Okk c.O σ env Gh) Gh v1 x → Rep c.m H (Okk c.O σ env Gh) Gh v2 y →
        wpCmp G o x y env w Q' → (∀ d H' w' G', Rel c σ H' env w' G' → Step σ env Gh H env G' H' → Q' d env w' → Q (.bl d) H') → (r2 v1 v2 H Q ∨ r3 v1 v2 H Q)) →
        ∃ (r2 : R2) (ta tb : TE), OpR X (compareOp op) r2 ∧ PE X x ta ∧ PE X y tb ∧ ∀ (σ : L2.St) (H : Hp) (Q : VK) (env : Fm) (w : W) (Gh : List Addr) (Q' : Bool → Fm → W → Prop), Rel c σ H env w Gh → doCmp G o (baseOf b) (wpE G R a) (wpE G R b) env w Q' →
          (∀ t H' env' w' G', Rel c σ H' env' w' G' → Step σ env Gh H env' G' H' → Q' t env' w' → Q (.bl t) H') → tOp r2 ta tb σ H Q := by
      intro r3 hr3 hh
      refine ⟨_, _, _, hr2.or hr3, ha, hb, fun σ H Q env w Gh Q' r hw q => ?_⟩
      unfold doCmp at hw
      rw [hin] at hw
      refine ⟨env, w, Gh, _, r, hw, fun v1 H1 d1 env1 w1 G1 r1 s1 p1 fr1 hw1 => ?_⟩
      refine ⟨env1, w1, G1, _, r1, hw1, fun v2 H2 d2 env2 w2 G2 r2 s2 p2 fr2 hw2 => ?_⟩
      exact hh r2 (p1.step s2 r1) p2 hw2 fun d H' w' G' r3 s3 hq => q _ H' env2 w' G' r3 ((s1.trans s2).trans s3) hq
    by_cases hq : o = .eq ∨ o = .ne
    · rcases hq with hq | hq
      · subst hq
        cases op <;> first | cases ho | skip
        refine key (op_eqs ok) fun {σ H env w Gh x y v1 v2 Q Q'} r p1 p2 hw q => ?_
        cases e : eqSpec G x with
        | none => exact .inl (plain r p1 p2 (wpCmp_plain hw fun z => z.1 e) q)
        | some sp =>
          unfold wpCmp at hw
          rw [e] at hw
          exact .inr (eqs_ok (Q' := fun d w => Q' d env w) ok r e p1 p2 hw.1 hw.2 q)
      · subst hq
        cases op <;> first | cases ho | skip
        refine key (op_nes ok) fun {σ H env w Gh x y v1 v2 Q Q'} r p1 p2 hw q => ?_
        cases e : eqSpec G x with
        | none => exact .inl (plain r p1 p2 (wpCmp_plain hw fun z => z.1 e) q)
        | some sp =>
          unfold wpCmp at hw
          rw [e] at hw
          exact .inr (eqs_ok (Q' := fun d w => Q' d env w) ok r e p1 p2 hw.1 hw.2 q)
    · exact key hr2 fun r p1 p2 hw q => .inl (plain r p1 p2 (wpCmp_plain hw fun z => hq z.2) q)
theorem s_cmp (ok : XOk G c R sc k X) {o : Cmp} {op : CmpOp} {a b : E} {x y : Expr} (ho : cmpB o op = true) (hset : isSet y = false) (ha : PE X x (tE G c R a)) (hb : PE X y (tE G c R b)) (hbk : PE X y (tPk G c R b)) :
    PE X (.Compare x [op] [y] pos) (tE G c R (.cmp o a b)) ∧ PT X (.Compare x [op] [y] pos) (tC' G c R (.cmp o a b)) := by
  obtain ⟨r2, ta, tb, h1, h2, h3, h⟩ := cmp_core ok ho ha hb hbk
  refine ⟨(pe_cmpR h1 h2 h3 (mark_ok hset)).imp fun σ H Q ⟨env, w, Gh, Q', r, hw, q⟩ => ?_, (pt_cmpR h1 h2 h3 (mark_ok hset)).imp fun σ H Q ⟨env, w, Gh, Q', r, hw, q⟩ => ?_⟩
  · exact h σ H Q env w Gh _ r hw fun t H' env' w' G' r' s' hq => q _ H' _ env' w' G' r' s' (.bl t) (fun z => nomatch z) hq
  · exact h σ H _ env w Gh _ r hw fun t H' env' w' G' r' s' hq => ⟨t, rfl, q t H' env' w' G' r' s' hq⟩
theorem s_cmp2 (ok : XOk G c R sc k X) {o o' : Cmp} {op op' : CmpOp} {a b d : E} {x y z : Expr} (ho : cmpB o op = true) (ho' : cmpB o' op' = true) (hset : isSet y = false) (hset' : isSet z = false) (ha : PE X x (tE G c R a)) (hb : PE X y (tE G c R b)) (hd : PE X z (tE G c R d)) :
    PE X (.Compare x [op, op'] [y, z] pos) (tE G c R (.cmp2 o o' a b d)) ∧ PT X (.Compare x [op, op'] [y, z] pos) (tC' G c R (.cmp2 o o' a b d)) := by
  obtain ⟨r2, hr2, h2⟩ := cmpD_ok ok ho
  obtain ⟨r3, hr3, h3⟩ := cmpD_ok ok ho'
  have core : ∀ (σ : L2.St) (H : Hp) (Q : VK) (env : Fm) (w : W) (Gh : List Addr) (Q' : Bool → Fm → W → Prop), Rel c σ H env w Gh → doCmp2 o o' (wpE G R a) (wpE G R b) (wpE G R d) env w Q' →
      (∀ t H' env' w' G', Rel c σ H' env' w' G' → Step σ env Gh H env' G' H' → Q' t env' w' → Q (.bl t) H') → tChain r2 r3 (tE G c R a) (tE G c R b) (tE G c R d) σ H Q := by
    intro σ H Q env w Gh Q' r hw q
    refine ⟨env, w, Gh, _, r, hw, fun v1 H1 d1 env1 w1 G1 r1 s1 p1 fr1 hw1 => ?_⟩
    refine ⟨env1, w1, G1, _, r1, hw1, fun v2 H2 d2 env2 w2 G2 r2 s2 p2 fr2 hw2 => ?_⟩
    refine h2 H2 _ G2 v1 v2 d1 d2 _ _ (p1.step s2 r1) (.rep p2) (.inr p2) hw2 fun t ht => ⟨t, rfl, ?_⟩
    cases t with
    | false => exact q _ H2 env2 w2 G2 r2 (s1.trans s2) ht
    | true =>
      refine ⟨env2, w2, G2, _, r2, ht, fun v3 H3 d3 env3 w3 G3 r3 s3 p3 fr3 hw3 => ?_⟩
      exact h3 H3 _ G3 v2 v3 d2 d3 _ _ (p2.step s3 r2) (.rep p3) (.inr p3) hw3 fun t ht => q _ H3 env3 w3 G3 r3 ((s1.trans s2).trans s3) ht
  refine ⟨(pe_chain hr2 hr3 ha hb hd (hm := (mark_ok hset' : behindInMarks op' z = false))).imp fun σ H Q ⟨env, w, Gh, Q', r, hw, q⟩ => ?_, (pt_chain hr2 hr3 ha hb hd (hm := (mark_ok hset' : behindInMarks op' z = false))).imp fun σ H Q ⟨env, w, Gh, Q', r, hw, q⟩ => ?_⟩
  · exact core σ H Q env w Gh _ r hw fun t H' env' w' G' r' s' hq => q _ H' _ env' w' G' r' s' (.bl t) (fun z => nomatch z) hq
  · exact core σ H _ env w Gh _ r hw fun t H' env' w' G' r' s' hq => ⟨t, rfl, q t H' env' w' G' r' s' hq⟩

/-! ### tests -/
theorem res_noh {σ : L2.St} {H : Hp} {env : Fm} {w : W} {Gh : List Addr} {v : V} {d : D} {okf : Addr → Prop} (r : Rel c σ H env w Gh) (p : Pk c.m H okf Gh v d) (n : Nat) : res w d ≠ .h n := by
  cases d with
  | h m =>
    obtain ⟨a, rfl, e⟩ := p.hnd
    have hl : m < w.length := by
      rw [r.wl]
      exact (List.getElem?_eq_some_iff.mp e).1
    show (match w[m]? with | some c => c.toD | none => .h m) ≠ _
    rw [List.getElem?_eq_getElem hl]
    cases w[m] <;> (intro z; cases z)
  | _ => intro z; cases z
theorem tru_of {σ : L2.St} {H : Hp} {env : Fm} {w : W} {Gh : List Addr} {v : V} {d : D} {b : Bool} {K : PySem.W.Frag} {okf : Addr → Prop} (p : Pk c.m H okf Gh v d) (h : truD d = some b) : TruV K v H b := by
  cases d with
  | non =>
    cases h
    obtain rfl := p.non
    rfl
  | bl x =>
    cases h
    obtain rfl := p.bl
    rfl
  | int i =>
    cases h
    obtain rfl := p.int
    rfl
  | tup xs =>
    obtain ⟨a, vs, rfl, h1, r1⟩ := p.tup
    have e := Option.some.inj h
    refine .inr (.inl ⟨vs, .inl (.inl h1), ?_⟩)
    rw [← e]
    cases r1 <;> rfl
  | lst xs =>
    obtain ⟨a, vs, rfl, h1, r1⟩ := p.lst
    have e := Option.some.inj h
    refine .inl ⟨vs, .inl (.inl h1), ?_⟩
    rw [← e]
    cases r1 <;> rfl
  | str z => cases h
  | obj n fs => cases h
  | h n => cases h
  | scr ns => cases h
theorem plainT_ok {e : Expr} {env : PySem.Env} (h : plainT e = true) : ∀ whole, isTrue e env whole = (do let v ← whole; standAt e.pos; holding [v] (truthy v)) := by
  intro whole
  cases e <;> first | rfl | skip
  · cases h
  · rename_i op x p
    cases op <;> first | rfl | cases h
  · cases h
  · cases h
/-- a test by its value's truth -/
theorem s_tst {e : E} {x : Expr} (hp : plainT x = true) (hc : wpC G R e = tst (wpE G R e)) (h : PE X x (tE G c R e)) : PT X x (tC' G c R e) := by
  refine (pt_truth h (plainT_ok hp)).imp fun σ H Q ⟨env, w, Gh, Q', r, hw, q⟩ => ?_
  rw [hc] at hw
  refine ⟨env, w, Gh, _, r, hw, fun v1 H1 d1 env1 w1 G1 r1 s1 p1 fr1 hw1 => ?_⟩
  have p2 := r1.resP (.rep p1)
  cases e : truD (res w1 d1) with
  | none => simp only [e] at hw1
  | some b =>
    simp only [e] at hw1
    exact ⟨b, tru_of (env := env1) (w := w1) (σ := σ) p2 e, q b H1 env1 w1 G1 r1 s1 hw1⟩
theorem s_tstV {i : Nat} {x : Expr} (hp : plainT x = true) (h : PE X x (tPk G c R (.v i))) : PT X x (tC' G c R (.v i)) := by
  refine (pt_truth h (plainT_ok hp)).imp fun σ H Q ⟨env, w, Gh, Q', r, hw, q⟩ => ?_
  replace hw : getS env i fun d => match truD (res w d) with
    | some b => Q' b env w
    | none => False := hw
  refine ⟨env, w, Gh, fun d env w => match truD (res w d) with
    | some b => Q' b env w
    | none => False, r, hw, fun v1 H1 d1 env1 w1 G1 r1 s1 p1 hw1 => ?_⟩
  have p2 := r1.resP p1
  cases e : truD (res w1 d1) with
  | none => simp only [e] at hw1
  | some b =>
    simp only [e] at hw1
    exact ⟨b, tru_of (env := env1) (w := w1) (σ := σ) p2 e, q b H1 env1 w1 G1 r1 s1 hw1⟩
/-! ### and, or, not, if -/
theorem s_not {a : E} {x : Expr} (ha : PT X x (tC' G c R a)) : PT X (.UnaryOp .Not x pos) (tC' G c R (.not_ a)) := by
  refine (pt_not ha).imp fun σ H Q ⟨env, w, Gh, Q', r, hw, q⟩ => ?_
  exact ⟨env, w, Gh, _, r, hw, fun b H1 env1 w1 G1 r1 s1 h1 => q (!b) H1 env1 w1 G1 r1 s1 h1⟩
theorem s_ife {t a b : E} {z x y : Expr} (ht : PT X z (tC' G c R t)) (ha : PE X x (tE G c R a)) (hb : PE X y (tE G c R b)) : PE X (.IfExp z x y pos) (tE G c R (.ife t a b)) := by
  refine (pe_ifExp ht ha hb).imp fun σ H Q ⟨env, w, Gh, Q', r, hw, q⟩ => ?_
  replace hw : wpC G R t env w fun r env w => if r = true then wpE G R a env w Q' else wpE G R b env w Q' := hw
  refine ⟨env, w, Gh, _, r, hw, fun b' H1 env1 w1 G1 r1 s1 h1 => ?_⟩
  cases b' with
  | true => exact ⟨env1, w1, G1, Q', r1, h1, fun v H2 d env2 w2 G2 r2 s2 p2 fr2 h2 => q v H2 d env2 w2 G2 r2 (s1.trans s2) p2 (fun z => nomatch z) h2⟩
  | false => exact ⟨env1, w1, G1, Q', r1, h1, fun v H2 d env2 w2 G2 r2 s2 p2 fr2 h2 => q v H2 d env2 w2 G2 r2 (s1.trans s2) p2 (fun z => nomatch z) h2⟩
def tCAnd (G : Gam) (c : Ct) (R : RS) (es : Es) : TT := fun σ H Q => ∃ env w Gh Q', Rel c σ H env w Gh ∧ wpCAnd G R es env w Q' ∧
  ∀ b H' env' w' Gh', Rel c σ H' env' w' Gh' → Step σ env Gh H env' Gh' H' → Q' b env' w' → Q b H'
def tCOr (G : Gam) (c : Ct) (R : RS) (es : Es) : TT := fun σ H Q => ∃ env w Gh Q', Rel c σ H env w Gh ∧ wpCOr G R es env w Q' ∧
  ∀ b H' env' w' Gh', Rel c σ H' env' w' Gh' → Step σ env Gh H env' Gh' H' → Q' b env' w' → Q b H'
theorem s_and1 {a : E} {x : Expr} (ha : PT X x (tC' G c R a)) : PW X (.BoolOp .And [x] pos) (tCAnd G c R (.cons a .nil)) :=
  (pw_and1 ha).imp fun σ H Q ⟨env, w, Gh, Q', r, hw, q⟩ => ⟨env, w, Gh, Q', r, hw, q⟩
theorem s_and {a b : E} {es : Es} {x y : Expr} {xs : List Expr} (ha : PT X x (tC' G c R a)) (hr : PW X (.BoolOp .And (y :: xs) pos) (tCAnd G c R (.cons b es))) : PW X (.BoolOp .And (x :: y :: xs) pos) (tCAnd G c R (.cons a (.cons b es))) := by
  refine (pw_and ha hr).imp fun σ H Q ⟨env, w, Gh, Q', r, hw, q⟩ => ?_
  replace hw : wpC G R a env w fun r env w => if r = true then wpCAnd G R (.cons b es) env w Q' else Q' false env w := hw
  refine ⟨env, w, Gh, _, r, hw, fun b' H1 env1 w1 G1 r1 s1 h1 => ?_⟩
  cases b' with
  | true => exact ⟨env1, w1, G1, Q', r1, h1, fun b H2 env2 w2 G2 r2 s2 h2 => q b H2 env2 w2 G2 r2 (s1.trans s2) h2⟩
  | false => exact q false H1 env1 w1 G1 r1 s1 h1
theorem s_or1 {a : E} {x : Expr} (ha : PT X x (tC' G c R a)) : PW X (.BoolOp .Or [x] pos) (tCOr G c R (.cons a .nil)) :=
  (pw_or1 ha).imp fun σ H Q ⟨env, w, Gh, Q', r, hw, q⟩ => ⟨env, w, Gh, Q', r, hw, q⟩
theorem s_or {a b : E} {es : Es} {x y : Expr} {xs : List Expr} (ha : PT X x (tC' G c R a)) (hr : PW X (.BoolOp .Or (y :: xs) pos) (tCOr G c R (.cons b es))) : PW X (.BoolOp .Or (x :: y :: xs) pos) (tCOr G c R (.cons a (.cons b es))) := by
  refine (pw_or ha hr).imp fun σ H Q ⟨env, w, Gh, Q', r, hw, q⟩ => ?_
  replace hw : wpC G R a env w fun r env w => if r = true then Q' true env w else wpCOr G R (.cons b es) env w Q' := hw
  refine ⟨env, w, Gh, _, r, hw, fun b' H1 env1 w1 G1 r1 s1 h1 => ?_⟩
  cases b' with
  | true => exact q true H1 env1 w1 G1 r1 s1 h1
  | false => exact ⟨env1, w1, G1, Q', r1, h1, fun b H2 env2 w2 G2 r2 s2 h2 => q b H2 env2 w2 G2 r2 (s1.trans s2) h2⟩
/-- .. as values -/
def tAndD (G : Gam) (c : Ct) (R : RS) (es : Es) : TE := fun σ H Q => ∃ env w Gh Q', Rel c σ H env w Gh ∧ wpAnd G R es env w Q' ∧
  ∀ v H' d env' w' Gh', Rel c σ H' env' w' Gh' → Step σ env Gh H env' Gh' H' → Rep c.m H' (Okk c.O σ env' Gh') Gh' v d → Q' d env' w' → Q v H'
def tOrD (G : Gam) (c : Ct) (R : RS) (es : Es) : TE := fun σ H Q => ∃ env w Gh Q', Rel c σ H env w Gh ∧ wpOr G R es env w Q' ∧
  ∀ v H' d env' w' Gh', Rel c σ H' env' w' Gh' → Step σ env Gh H env' Gh' H' → Rep c.m H' (Okk c.O σ env' Gh') Gh' v d → Q' d env' w' → Q v H'
theorem s_vand1 {a : E} {x : Expr} (ha : PE X x (tE G c R a)) : PE X (.BoolOp .And [x] pos) (tAndD G c R (.cons a .nil)) :=
  (pe_one ha).imp fun σ H Q ⟨env, w, Gh, Q', r, hw, q⟩ => ⟨env, w, Gh, Q', r, hw, fun v H' d env' w' Gh' r' s p _ h => q v H' d env' w' Gh' r' s p h⟩
theorem s_vor1 {a : E} {x : Expr} (ha : PE X x (tE G c R a)) : PE X (.BoolOp .Or [x] pos) (tOrD G c R (.cons a .nil)) :=
  (pe_one ha).imp fun σ H Q ⟨env, w, Gh, Q', r, hw, q⟩ => ⟨env, w, Gh, Q', r, hw, fun v H' d env' w' Gh' r' s p _ h => q v H' d env' w' Gh' r' s p h⟩
theorem s_vand {a b : E} {es : Es} {x y : Expr} {xs : List Expr} (ha : PE X x (tE G c R a)) (hr : PE X (.BoolOp .And (y :: xs) pos) (tAndD G c R (.cons b es))) : PE X (.BoolOp .And (x :: y :: xs) pos) (tAndD G c R (.cons a (.cons b es))) := by
  refine (pe_and ha hr).imp fun σ H Q ⟨env, w, Gh, Q', r, hw, q⟩ => ?_
  replace hw : wpE G R a env w fun d env w => match d with
    | .bl r => if r = true then wpAnd G R (.cons b es) env w Q' else Q' (.bl false) env w
    | _ => False := hw
  refine ⟨env, w, Gh, _, r, hw, fun v1 H1 d1 env1 w1 G1 r1 s1 p1 fr1 h1 => ?_⟩
  cases p1 <;> first | exact h1.elim | skip
  rename_i b'
  refine ⟨b', rfl, ?_⟩
  cases b' with
  | true => exact ⟨env1, w1, G1, Q', r1, h1, fun v H2 d env2 w2 G2 r2 s2 p2 h2 => q v H2 d env2 w2 G2 r2 (s1.trans s2) p2 h2⟩
  | false => exact q _ H1 _ env1 w1 G1 r1 s1 (.bl false) h1
theorem s_vor {a b : E} {es : Es} {x y : Expr} {xs : List Expr} (ha : PE X x (tE G c R a)) (hr : PE X (.BoolOp .Or (y :: xs) pos) (tOrD G c R (.cons b es))) : PE X (.BoolOp .Or (x :: y :: xs) pos) (tOrD G c R (.cons a (.cons b es))) := by
  refine (pe_or ha hr).imp fun σ H Q ⟨env, w, Gh, Q', r, hw, q⟩ => ?_
  replace hw : wpE G R a env w fun d env w => match d with
    | .bl r => if r = true then Q' (.bl true) env w else wpOr G R (.cons b es) env w Q'
    | _ => False := hw
  refine ⟨env, w, Gh, _, r, hw, fun v1 H1 d1 env1 w1 G1 r1 s1 p1 fr1 h1 => ?_⟩
  cases p1 <;> first | exact h1.elim | skip
  rename_i b'
  refine ⟨b', rfl, ?_⟩
  cases b' with
  | true => exact q _ H1 _ env1 w1 G1 r1 s1 (.bl true) h1
  | false => exact ⟨env1, w1, G1, Q', r1, h1, fun v H2 d env2 w2 G2 r2 s2 p2 h2 => q v H2 d env2 w2 G2 r2 (s1.trans s2) p2 h2⟩
end
end Py

set_option Elab.async false
set_option linter.all false
set_option maxRecDepth 100000
set_option maxHeartbeats 4000000
/-! PyG: built-ins, isinstance, list.pop, list(range(n)). -/
namespace Py
open PySem PySem.Spec PyProof.Rows L2
section
variable {G : Gam} {c : Ct} {R : Exn → Fm → W → Prop} {sc : Scope} {k : Nat} {X : Cx} {pos : Pos}
theorem s_notV {a : E} {x : Expr} (ha : PE X x (tE G c R a)) : PE X (.UnaryOp .Not x pos) (tE G c R (.not_ a)) := by
  refine (pe_notT ha).imp fun σ H Q ⟨env, w, Gh, Q', r, hw, q⟩ => ?_
  replace hw : wpE G R a env w fun d env w => match truD (res w d) with
    | some b => Q' (.bl (!b)) env w
    | none => False := hw
  refine ⟨env, w, Gh, _, r, hw, fun v1 H1 d1 env1 w1 G1 r1 s1 p1 fr1 hw1 => ?_⟩
  have p2 := r1.resP (.rep p1)
  cases e : truD (res w1 d1) with
  | none => simp only [e] at hw1
  | some b =>
    simp only [e] at hw1
    exact ⟨b, tru_of (env := env1) (w := w1) (σ := σ) p2 e, q _ H1 _ env1 w1 G1 r1 s1 (.bl (!b)) (fun z => nomatch z) hw1⟩
/-- one argument, peeked at -/
def tPkA (G : Gam) (c : Ct) (R : RS) (a : E) : TA := tCons (tPk G c R a) tNil
theorem s_pkA {a : E} {x : Expr} (hs : isStar x = false) (h : PE X x (tPk G c R a)) : PA X [x] (tPkA G c R a) := pa_cons h pa_nil (star_ok hs)
/-- a built-in of one argument, by what it does to data -/
theorem b1_core {r : List V → Hp → VK → Prop} {b : B1} (hf : ∀ (H : Hp) (v : V) (σ : L2.St) (env : Fm) (w : W) (Gh : List Addr) (d : D) (Q' : D → Prop) (Q : VK), Rel c σ H env w Gh → Pk c.m H (Okk c.O σ env Gh) Gh v d → b1D b d Q' →
      (∀ v' H' d', Rel c σ H' env w Gh → Step σ env Gh H env Gh H' → Rep c.m H' (Okk c.O σ env Gh) Gh v' d' → (b = .list → FreshL c σ H H' env w Gh v' d') → Q' d' → Q v' H') → r [v] H Q)
    {a : E} {x e : Expr} (hpe : PE X e (tCB r (tPkA G c R a))) : PE X e (tE G c R (.b1 b a)) := by
  refine hpe.imp fun σ H Q ⟨env, w, Gh, Q', r, hw, q⟩ => ?_
  replace hw : pkD (baseOf a) (wpE G R a) env w fun d env w => b1D b (res w d) fun y => Q' y env w := hw
  refine ⟨env, w, Gh, _, r, hw, fun v1 H1 d1 env1 w1 G1 r1 s1 p1 hw1 => ?_⟩
  refine hf H1 v1 σ env1 w1 G1 _ _ Q r1 (r1.resP p1) hw1 fun v' H' d' r2 s2 p2 fr hq => ?_
  refine q v' H' d' env1 w1 G1 r2 (s1.trans s2) p2 (fun z1 z2 => ?_) hq
  cases b <;> try (cases z1)
  exact (fr rfl).before s1
theorem ref_lst {K : PySem.W.Frag} {H : Hp} {a : Addr} {xs : List V} (h : H a = some (.lst xs)) : SqL K H a xs := .inl (.inl h)
theorem ref_tup {K : PySem.W.Frag} {H : Hp} {a : Addr} {xs : List V} (h : H a = some (.tup xs)) : SqT K H a xs := .inl (.inl h)
theorem s_b1 (ok : XOk G c R sc k X) {b : B1} {a : E} {x : Expr} {p : Pos} (hg : glB sc (b1N b) = true) (hs : isStar x = false) (ha : PE X x (tPk G c R a)) : PE X (.Call (.Name (b1N b) p) [x] [] pos) (tE G c R (.b1 b a)) := by
  have hgl := ok.gl _ hg
  have hA := s_pkA hs ha
  have st : starEach [x] X.env = (false, eval x X.env) :: starEach [] X.env := star_ok hs
  cases b with
  | len =>
    refine b1_core (fun H v σ env w Gh d Q' Q r p hw q => ?_) (x := x) (pe_callB (call_len_seq.or call_len_str) hgl (ok.bltX (by decide)) boot_len hA (he := st))
    cases d <;> first | exact hw.elim | skip
    · obtain rfl := p.str
      exact .inr ⟨_, rfl, hw.1, q _ H _ r Step.rfl' (.int _) (fun z => nomatch z) hw.2⟩
    · rename_i xs
      obtain ⟨a, vs, rfl, h1, r1⟩ := p.tup
      refine .inl ⟨a, vs, rfl, .inr (ref_tup h1), q _ H (.int vs.length) r Step.rfl' (.int _) (fun z => nomatch z) ?_⟩
      rw [r1.length]
      exact hw
    · rename_i xs
      obtain ⟨a, vs, rfl, h1, r1⟩ := p.lst
      refine .inl ⟨a, vs, rfl, .inl (ref_lst h1), q _ H (.int vs.length) r Step.rfl' (.int _) (fun z => nomatch z) ?_⟩
      rw [r1.length]
      exact hw
  | tuple =>
    refine b1_core (fun H v σ env w Gh d Q' Q r p hw q => ?_) (x := x) (pe_callTy call_tuple_of hgl (ok.bltX (by decide)) boot_tuple hA (he := st))
    cases d <;> first | exact hw.elim | skip
    · rename_i xs
      obtain ⟨a, vs, rfl, h1, r1⟩ := p.tup
      exact ⟨a, vs, rfl, .inr ⟨ref_tup h1, q _ H (.tup xs) r Step.rfl' (.tup h1 r1) (fun z => nomatch z) hw⟩⟩
    · rename_i xs
      obtain ⟨a, vs, rfl, h1, r1⟩ := p.lst
      refine ⟨a, vs, rfl, .inl ⟨ref_lst h1, fun l nl => ?_⟩⟩
      have s : Step σ env Gh H env Gh (upd H l (.tup vs)) := step_new nl
      exact q _ _ (.tup xs) (r.new nl) s (.tup upd_same (r1.step s r)) (fun z => nomatch z) hw
  | list =>
    refine b1_core (fun H v σ env w Gh d Q' Q r p hw q => ?_) (x := x) (pe_callTy call_list_of hgl (ok.bltX (by decide)) boot_list hA (he := st))
    cases d <;> first | exact hw.elim | skip
    · rename_i xs
      obtain ⟨a, vs, rfl, h1, r1⟩ := p.tup
      refine ⟨a, vs, rfl, .inr (ref_tup h1), fun l nl => ?_⟩
      have s : Step σ env Gh H env Gh (upd H l (.lst vs)) := step_new nl
      exact q _ _ (.lst xs) (r.new nl) s (.lst (r.okNew nl) upd_same (r1.step s r)) (fun _ => ⟨l, H, _, _, rfl, rfl, nl, nl, r, rfl, r1⟩) hw
    · rename_i xs
      obtain ⟨a, vs, rfl, h1, r1⟩ := p.lst
      refine ⟨a, vs, rfl, .inl (ref_lst h1), fun l nl => ?_⟩
      have s : Step σ env Gh H env Gh (upd H l (.lst vs)) := step_new nl
      exact q _ _ (.lst xs) (r.new nl) s (.lst (r.okNew nl) upd_same (r1.step s r)) (fun _ => ⟨l, H, _, _, rfl, rfl, nl, nl, r, rfl, r1⟩) hw
  | sum =>
    refine b1_core (fun H v σ env w Gh d Q' Q r p hw q => ?_) (x := x) (pe_callB (cr_sum ok.calm) hgl (ok.bltX (by decide)) boot_sum hA (he := st))
    cases d <;> first | exact hw.elim | skip
    rename_i xs
    obtain ⟨a, vs, rfl, h1, r1⟩ := p.lst
    replace hw : (match intsOf xs with
      | some ns => Q' (.int ns.sum)
      | none => False) := hw
    cases e : intsOf xs with
    | none => simp only [e] at hw
    | some ns =>
      simp only [e] at hw
      refine ⟨a, ns, rfl, ref_lst ?_, q _ H (.int ns.sum) r Step.rfl' (.int _) (fun z => nomatch z) hw⟩
      rw [← r1.intsV e]
      exact h1
  | all =>
    refine b1_core (fun H v σ env w Gh d Q' Q r p hw q => ?_) (x := x) (pe_callB (cr_all ok.calm) hgl (ok.bltX (by decide)) boot_all hA (he := st))
    cases d <;> first | exact hw.elim | skip
    rename_i xs
    obtain ⟨a, vs, rfl, h1, r1⟩ := p.lst
    replace hw : (match blsOf xs with
      | some ns => Q' (.bl (ns.all id))
      | none => False) := hw
    cases e : blsOf xs with
    | none => simp only [e] at hw
    | some ns =>
      simp only [e] at hw
      refine ⟨a, ns, rfl, ref_lst ?_, q _ H (.bl (ns.all id)) r Step.rfl' (.bl _) (fun z => nomatch z) hw⟩
      rw [← r1.blsV e]
      exact h1
  | any =>
    refine b1_core (fun H v σ env w Gh d Q' Q r p hw q => ?_) (x := x) (pe_callB (cr_any ok.calm) hgl (ok.bltX (by decide)) boot_any hA (he := st))
    cases d <;> first | exact hw.elim | skip
    rename_i xs
    obtain ⟨a, vs, rfl, h1, r1⟩ := p.lst
    replace hw : (match blsOf xs with
      | some ns => Q' (.bl (ns.any id))
      | none => False) := hw
    cases e : blsOf xs with
    | none => simp only [e] at hw
    | some ns =>
      simp only [e] at hw
      refine ⟨a, ns, rfl, ref_lst ?_, q _ H (.bl (ns.any id)) r Step.rfl' (.bl _) (fun z => nomatch z) hw⟩
      rw [← r1.blsV e]
      exact h1
  | abs =>
    refine b1_core (fun H v σ env w Gh d Q' Q r p hw q => ?_) (x := x) (pe_callB call_abs hgl (ok.bltX (by decide)) boot_abs hA (he := st))
    cases d <;> first | exact hw.elim | skip
    obtain rfl := p.int
    exact ⟨_, rfl, q _ H _ r Step.rfl' (.int _) (fun z => nomatch z) hw⟩
  | int =>
    refine b1_core (fun H v σ env w Gh d Q' Q r p hw q => ?_) (x := x) (pe_callTy call_int1 hgl (ok.bltX (by decide)) boot_int hA (he := st))
    cases d <;> first | exact hw.elim | skip
    · obtain rfl := p.bl
      exact .inr ⟨_, rfl, q _ H _ r Step.rfl' (.int _) (fun z => nomatch z) hw⟩
    · obtain rfl := p.int
      exact .inl ⟨_, rfl, q _ H _ r Step.rfl' (.int _) (fun z => nomatch z) hw⟩
  | max =>
    refine b1_core (fun H v σ env w Gh d Q' Q r p hw q => ?_) (x := x) (pe_callB (cr_max ok.calm) hgl (ok.bltX (by decide)) boot_max hA (he := st))
    cases d <;> first | exact hw.elim | skip
    rename_i xs
    obtain ⟨a, vs, rfl, h1, r1⟩ := p.lst
    replace hw : (match intsOf xs with
      | some ns => 0 < ns.length ∧ ∀ m, m ∈ ns → (∀ y, y ∈ ns → y ≤ m) → Q' (.int m)
      | none => False) := hw
    cases e : intsOf xs with
    | none => simp only [e] at hw
    | some ns =>
      simp only [e] at hw
      refine ⟨a, ns, rfl, ref_lst ?_, hw.1, fun m m1 m2 => q _ H (.int m) r Step.rfl' (.int _) (fun z => nomatch z) (hw.2 m m1 m2)⟩
      rw [← r1.intsV e]
      exact h1
  | min =>
    refine b1_core (fun H v σ env w Gh d Q' Q r p hw q => ?_) (x := x) (pe_callB (cr_min ok.calm) hgl (ok.bltX (by decide)) boot_min hA (he := st))
    cases d <;> first | exact hw.elim | skip
    rename_i xs
    obtain ⟨a, vs, rfl, h1, r1⟩ := p.lst
    replace hw : (match intsOf xs with
      | some ns => 0 < ns.length ∧ ∀ m, m ∈ ns → (∀ y, y ∈ ns → m ≤ y) → Q' (.int m)
      | none => False) := hw
    cases e : intsOf xs with
    | none => simp only [e] at hw
    | some ns =>
      simp only [e] at hw
      refine ⟨a, ns, rfl, ref_lst ?_, hw.1, fun m m1 m2 => q _ H (.int m) r Step.rfl' (.int _) (fun z => nomatch z) (hw.2 m m1 m2)⟩
      rw [← r1.intsV e]
      exact h1
  | str =>
    refine b1_core (fun H v σ env w Gh d Q' Q r p hw q => ?_) (x := x) (pe_callTy call_str_int hgl (ok.bltX (by decide)) boot_str hA (he := st))
    cases d <;> first | exact hw.elim | skip
    obtain rfl := p.int
    exact ⟨_, rfl, hw.1, q _ H _ r Step.rfl' (.str _) (fun z => nomatch z) hw.2⟩
theorem s_b2 (ok : XOk G c R sc k X) {b : B2} {a d : E} {x y : Expr} {p : Pos} (hg : glB sc (b2N b) = true) (hs : isStar x = false) (hs2 : isStar y = false) (ha : PE X x (tE G c R a)) (hd : PE X y (tE G c R d)) : PE X (.Call (.Name (b2N b) p) [x, y] [] pos) (tE G c R (.b2 b a d)) := by
  have hgl := ok.gl _ hg
  have hA := pa_cons ha (pa_cons hd pa_nil (star_ok hs2)) (star_ok hs)
  have st : starEach [x, y] X.env = (false, eval x X.env) :: starEach [y] X.env := star_ok hs
  have pl : (backTo pos (starEach [y] X.env)).any (·.1) = false := star_plain fun e he => by rw [List.mem_singleton.mp he]; exact hs2
  cases b with
  | max =>
    refine (pe_callB (call_max2 ok.calm) hgl (ok.bltX (by decide)) boot_max hA (he := st) (hpl := pl)).imp fun σ H Q ⟨env, w, Gh, Q', r, hw, q⟩ => ?_
    refine ⟨env, w, Gh, _, r, hw, fun v1 H1 d1 env1 w1 G1 r1 s1 p1 fr1 hw1 => ?_⟩
    refine ⟨env1, w1, G1, _, r1, hw1, fun v2 H2 d2 env2 w2 G2 r2 s2 p2 fr2 hw2 => ?_⟩
    cases p1 <;> cases p2 <;> first | exact hw2.elim | exact ⟨_, _, rfl, q _ H2 _ env2 w2 G2 r2 (s1.trans s2) (.int _) (fun z => nomatch z) hw2⟩
  | min =>
    refine (pe_callB (call_min2 ok.calm) hgl (ok.bltX (by decide)) boot_min hA (he := st) (hpl := pl)).imp fun σ H Q ⟨env, w, Gh, Q', r, hw, q⟩ => ?_
    refine ⟨env, w, Gh, _, r, hw, fun v1 H1 d1 env1 w1 G1 r1 s1 p1 fr1 hw1 => ?_⟩
    refine ⟨env1, w1, G1, _, r1, hw1, fun v2 H2 d2 env2 w2 G2 r2 s2 p2 fr2 hw2 => ?_⟩
    cases p1 <;> cases p2 <;> first | exact hw2.elim | exact ⟨_, _, rfl, q _ H2 _ env2 w2 G2 r2 (s1.trans s2) (.int _) (fun z => nomatch z) hw2⟩
end
end Py

set_option Elab.async false
set_option linter.all false
set_option maxRecDepth 100000
set_option maxHeartbeats 4000000
/-! PyH: isinstance; changes of mutable places; list.pop. -/
namespace Py
open PySem PySem.Spec PyProof.Rows L2
section
variable {G : Gam} {c : Ct} {R : Exn → Fm → W → Prop} {sc : Scope} {k : Nat} {X : Cx} {pos : Pos}
/-! ### isinstance -/
def tyS : Ty → String
  | .int => "int" | .bool => "bool" | .str => "str" | .list => "list" | .tuple => "tuple"
theorem ty_name (ok : XOk G c R sc k X) {t : Ty} {p : Pos} (hg : glB sc (tyN t) = true) : PE X (.Name (tyN t) p) (tC (.ty (tyS t))) := by
  have hgl := ok.gl _ hg
  cases t
  · exact pe_bltn hgl (ok.bltX (by decide)) boot_int rfl
  · exact pe_bltn hgl (ok.bltX (by decide)) boot_bool rfl
  · exact pe_bltn hgl (ok.bltX (by decide)) (by decide +kernel) rfl
  · exact pe_bltn hgl (ok.bltX (by decide)) boot_list rfl
  · exact pe_bltn hgl (ok.bltX (by decide)) boot_tuple rfl
theorem kt_non (ty : Ty) : kitB "NoneType" (tyS ty) = some (isTD1 (D.non) ty) := by cases ty <;> decide +kernel
theorem kt_bl (ty : Ty) : kitB "bool" (tyS ty) = some (isTD1 (D.bl false) ty) := by cases ty <;> decide +kernel
theorem kt_int (ty : Ty) : kitB "int" (tyS ty) = some (isTD1 (D.int 0) ty) := by cases ty <;> decide +kernel
theorem kt_str (ty : Ty) : kitB "str" (tyS ty) = some (isTD1 (D.str Str.empty) ty) := by cases ty <;> decide +kernel
theorem kt_tup (ty : Ty) : kitB "tuple" (tyS ty) = some (isTD1 (D.tup []) ty) := by cases ty <;> decide +kernel
theorem kt_lst (ty : Ty) : kitB "list" (tyS ty) = some (isTD1 (D.lst []) ty) := by cases ty <;> decide +kernel
theorem ty_of {H : Hp} {okf : Addr → Prop} {Gh : List Addr} {v : V} {d : D} (p : Pk c.m H okf Gh v d) (nh : ∀ n, d ≠ .h n) : ∃ t, TyX c.m.K H v t ∧ (∀ ty, PySem.W.kitOne c.m.K t (.type (tyS ty)) = some (isTD1 d ty)) ∧
    ((∃ C n fs, t = .ref C ∧ d = .obj n fs ∧ ClF c.m C n) ∨ (∃ T, t = .type T ∧ T ∈ ["NoneType", "int", "bool", "str", "list", "tuple"] ∧ ∀ n fs, d ≠ .obj n fs)) := by
  cases d with
  | non =>
    obtain rfl := p.non
    exact ⟨_, .base .non, fun ty => (kit_ty (kt_non ty)).trans (by cases ty <;> rfl), .inr ⟨_, rfl, by decide, fun _ _ z => nomatch z⟩⟩
  | bl b =>
    obtain rfl := p.bl
    exact ⟨_, .base (.bl b), fun ty => (kit_ty (kt_bl ty)).trans (by cases ty <;> rfl), .inr ⟨_, rfl, by decide, fun _ _ z => nomatch z⟩⟩
  | int i =>
    obtain rfl := p.int
    exact ⟨_, .base (.int i), fun ty => (kit_ty (kt_int ty)).trans (by cases ty <;> rfl), .inr ⟨_, rfl, by decide, fun _ _ z => nomatch z⟩⟩
  | str s =>
    obtain rfl := p.str
    exact ⟨_, .base (.str s), fun ty => (kit_ty (kt_str ty)).trans (by cases ty <;> rfl), .inr ⟨_, rfl, by decide, fun _ _ z => nomatch z⟩⟩
  | tup xs =>
    obtain ⟨a, vs, rfl, h1, _⟩ := p.tup
    exact ⟨_, .base (.tup h1), fun ty => (kit_ty (kt_tup ty)).trans (by cases ty <;> rfl), .inr ⟨_, rfl, by decide, fun _ _ z => nomatch z⟩⟩
  | lst xs =>
    obtain ⟨a, vs, rfl, h1, _⟩ := p.lst
    exact ⟨_, .base (.lst h1), fun ty => (kit_ty (kt_lst ty)).trans (by cases ty <;> rfl), .inr ⟨_, rfl, by decide, fun _ _ z => nomatch z⟩⟩
  | obj n fs =>
    obtain ⟨a, C, dx, fvs, rfl, h1, m1, cf, nf, rf⟩ := p.obj
    refine ⟨_, .base (.ins h1 cf.cls cf.ha cf.hn cf.htk cf.hm), fun ty => ?_, .inl ⟨C, n, fs, rfl, rfl, cf⟩⟩
    cases ty <;> exact cf.insT _ (by decide)
  | h n => exact absurd rfl (nh n)
  | scr ns =>
    obtain ⟨a, rfl, h1⟩ := p.scr
    rcases h1 with ⟨o, h1⟩ | ⟨o, its, n, h1, h2, _⟩
    · exact ⟨_, .base (.frz h1), fun ty => (kit_ty (kt_lst ty)).trans (by cases ty <;> rfl), .inr ⟨_, rfl, by decide, fun _ _ z => nomatch z⟩⟩
    · exact ⟨_, .kList h1 h2, fun ty => (kit_ty (kt_lst ty)).trans (by cases ty <;> rfl), .inr ⟨_, rfl, by decide, fun _ _ z => nomatch z⟩⟩
theorem kitAny_of {t : Value} {d : D} (h : ∀ ty, PySem.W.kitOne c.m.K t (.type (tyS ty)) = some (isTD1 d ty)) : ∀ ts : List Ty, PySem.W.kitAny c.m.K t (ts.map fun x => Value.type (tyS x)) = some (isTD d ts)
  | [] => rfl
  | x :: ts => by
    show (match PySem.W.kitOne c.m.K t (.type (tyS x)) with
      | some true => some true
      | some false => PySem.W.kitAny c.m.K t (ts.map fun x => Value.type (tyS x))
      | none => none) = some (isTD1 d x || isTD d ts)
    rw [h x]
    cases isTD1 d x with
    | true => rfl
    | false =>
      rw [kitAny_of h ts]
      rfl
theorem clsV_tys : ∀ ts : List Ty, Paired ClsV (ts.map fun x => V.ty (tyS x)) (ts.map fun x => Value.type (tyS x))
  | [] => .nil
  | x :: ts => .cons (.ty _) (clsV_tys ts)
theorem ty_names (ok : XOk G c R sc k X) : ∀ {ts : List Ty} {es : List Expr}, chkTys sc ts es = true → ∃ t : TA, PA X es t ∧ ∀ σ H Q, Q (ts.map fun x => V.ty (tyS x)) H → t σ H Q
  | [], [], _ => ⟨_, pa_nil, fun _ _ _ q => q⟩
  | t :: ts, e :: es, h => by
    cases e <;> try (cases h)
    rename_i x p
    have h1 := Bool.and_eq_true_iff.mp (show ((decide (tyN t = x) && glB sc x) && chkTys sc ts es) = true from h)
    have h2 := Bool.and_eq_true_iff.mp h1.1
    have e1 := of_decide_eq_true h2.1
    subst e1
    obtain ⟨tt, ht, hq⟩ := ty_names ok h1.2
    exact ⟨_, pa_cons (ty_name ok h2.2) ht rfl, fun σ H Q q => hq σ H _ q⟩
  | [], _ :: _, h => by cases h
  | _ :: _, [], h => by cases h
theorem Pk.new {σ : L2.St} {H : Hp} {env : Fm} {w : W} {Gh : List Addr} {v : V} {d : D} (p : Pk c.m H (Okk c.O σ env Gh) Gh v d) (r : Rel c σ H env w Gh) {q : Addr} {o : HO} (hq : H q = none) : Pk c.m (upd H q o) (Okk c.O σ env Gh) Gh v d := by
  have s : Step σ env Gh H env Gh (upd H q o) := step_new hq
  cases p with
  | rep h => exact .rep (h.step s r)
  | cell h =>
    obtain ⟨u, hu, _⟩ := h.at_
    exact .cell (h.go (upd_ne (ne_of_none hu hq)) (s.stay r) s.okk s.gget)
theorem s_isT (ok : XOk G c R sc k X) {a : E} {ts : List Ty} {x y : Expr} {p : Pos} (hg : glB sc "isinstance" = true) (hs : isStar x = false) (ha : PE X x (tPk G c R a)) (hy : chkTy sc ts y = true) : PE X (.Call (.Name "isinstance" p) [x, y] [] pos) (tE G c R (.isT a ts)) := by
  have hgl := ok.gl _ hg
  have st : starEach [x, y] X.env = (false, eval x X.env) :: starEach [y] X.env := star_ok hs
  cases y <;> try (cases hy)
  · -- a name
    rename_i n p2
    cases ts with
    | nil => cases hy
    | cons t ts =>
      cases ts with
      | cons _ _ => cases hy
      | nil =>
        have h2 := Bool.and_eq_true_iff.mp (show (decide (tyN t = n) && glB sc n) = true from hy)
        have e1 := of_decide_eq_true h2.1
        subst e1
        refine (pe_callB call_isi hgl (ok.bltX (by decide)) boot_isinstance (pa_cons ha (pa_cons (ty_name ok h2.2) pa_nil rfl) st) (he := st) (hpl := rfl)).imp fun σ H Q ⟨env, w, Gh, Q', r, hw, q⟩ => ?_
        replace hw : pkD (baseOf a) (wpE G R a) env w fun d env w => Q' (.bl (isTD (res w d) [t])) env w := hw
        refine ⟨env, w, Gh, _, r, hw, fun v1 H1 d1 env1 w1 G1 r1 s1 p1 hw1 => ?_⟩
        obtain ⟨tv, h1, h3, _⟩ := ty_of (r1.resP p1) (res_noh r1 p1)
        refine ⟨v1, .ty (tyS t), tv, _, _, rfl, .ty _, by rw [ok.K]; exact h1, by rw [ok.K]; exact h3 t, ?_⟩
        have e2 : isTD (res w1 d1) [t] = isTD1 (res w1 d1) t := by
          show (isTD1 _ _ || false) = _
          rw [Bool.or_false]
        rw [← e2]
        exact q _ H1 _ env1 w1 G1 r1 s1 (.bl _) (fun z => nomatch z) hw1
  · -- names in brackets
    rename_i es n p2
    have hy2 := Bool.and_eq_true_iff.mp (show (decide (ts.length ≤ 9) && chkTys sc ts es) = true from hy)
    obtain ⟨tt, ht, hq⟩ := ty_names ok hy2.2
    refine (pe_callB call_isiT hgl (ok.bltX (by decide)) boot_isinstance (pa_cons ha (pa_cons (pe_tup ht) pa_nil rfl) st) (he := st) (hpl := rfl)).imp fun σ H Q ⟨env, w, Gh, Q', r, hw, q⟩ => ?_
    replace hw : pkD (baseOf a) (wpE G R a) env w fun d env w => Q' (.bl (isTD (res w d) ts)) env w := hw
    refine ⟨env, w, Gh, _, r, hw, fun v1 H1 d1 env1 w1 G1 r1 s1 p1 hw1 => ?_⟩
    refine hq _ _ _ ⟨?_, fun tp ntp => ?_⟩
    · rw [List.length_map, sizeLine_eq]
      have := of_decide_eq_true hy2.1
      omega
    · have p2 := (r1.resP p1).new r1 (o := .tup (ts.map fun x => V.ty (tyS x))) ntp
      obtain ⟨tv, h1, h3, _⟩ := ty_of p2 (res_noh r1 p1)
      have s : Step σ env1 G1 H1 env1 G1 (upd H1 tp (.tup (ts.map fun x => V.ty (tyS x)))) := step_new ntp
      exact ⟨v1, tp, _, tv, _, _, rfl, upd_same, clsV_tys ts, by rw [ok.K]; exact h1, by rw [ok.K]; exact kitAny_of h3 ts, q _ _ _ env1 w1 G1 (r1.new ntp) (s1.trans s) (.bl _) (fun z => nomatch z) hw1⟩
theorem s_isC (ok : XOk G c R sc k X) {a : E} {i : Nat} {e : Fe} {x : Expr} {p p2 : Pos} (hg : glB sc "isinstance" = true) (hs : isStar x = false) (ha : PE X x (tPk G c R a)) (he : G.cls[i]? = some e) (hg2 : glB sc e.nm = true) (hp : plainN e.nm = true) :
    PE X (.Call (.Name "isinstance" p) [x, .Name e.nm p2] [] pos) (tE G c R (.isC a i)) := by
  have hgl := ok.gl _ hg
  have st : starEach [x, .Name e.nm p2] X.env = (false, eval x X.env) :: starEach [.Name e.nm p2] X.env := star_ok hs
  obtain ⟨j, ek, hC⟩ := ok.cls e (List.mem_of_getElem? he)
  obtain ⟨C, f, fd, ps, mg, M, cf, hcn, ar, F, bd, hTy⟩ := hC.ex
  refine (pe_callB call_isi hgl (ok.bltX (by decide)) boot_isinstance (pa_cons ha (pa_cons (pe_glob (v := .ref C) (ok.gl _ hg2) (by rw [ok.mg]; exact mg) rfl (plainN_ok hp).1) pa_nil rfl) st) (he := st) (hpl := rfl)).imp fun σ H Q ⟨env, w, Gh, Q', r, hw, q⟩ => ?_
  replace hw : (match G.cls[i]? with
    | some e => pkD (baseOf a) (wpE G R a) env w fun d env w => Q' (.bl (isCD e.nm (res w d))) env w
    | none => False) := hw
  rw [he] at hw
  refine ⟨env, w, Gh, _, r, hw, fun v1 H1 d1 env1 w1 G1 r1 s1 p1 hw1 => ?_⟩
  obtain ⟨tv, h1, h3, h4⟩ := ty_of (r1.resP p1) (res_noh r1 p1)
  refine ⟨v1, .ref C, tv, _, isCD e.nm (res w1 d1), rfl, .own C, by rw [ok.K]; exact h1, ?_, q _ H1 _ env1 w1 G1 r1 s1 (.bl _) (fun z => nomatch z) hw1⟩
  rw [ok.K]
  rcases h4 with ⟨C', n, fs, rfl, e2, cf'⟩ | ⟨T, rfl, hT, e2⟩
  · rw [e2]
    exact cf'.ins e.nm C hcn mg
  · have e3 : isCD e.nm (res w1 d1) = false := by
      cases e4 : res w1 d1 <;> first | rfl | exact absurd e4 (e2 _ _)
    rw [e3]
    exact hTy T hT
end
/-! ### changes -/
section
variable {c : Ct} {σ : L2.St} {H : Hp} {env : Fm} {w : W} {G : List Addr} {a : Addr} {o : HO}
theorem Rel.stayU (r : Rel c σ H env w G) (ha : Own σ env a ∨ a ∈ G) : ∀ b u, H b = some u → (Okk c.O σ env G b ∨ Imm u) → upd H a o b = some u := fun b u e h => by
  have hn : b ≠ a := fun z => by
    subst z
    rcases h with h | h
    · rcases ha with x | x
      · exact h.2.1 x
      · exact h.2.2 x
    · rcases ha with x | x
      · obtain ⟨u2, e2, n⟩ := r.ownAt x
        rw [e] at e2
        cases e2
        exact n h
      · obtain ⟨u2, e2, n⟩ := r.gAt x
        rw [e] at e2
        cases e2
        exact n h
  rw [upd_ne hn]
  exact e
theorem own_set {i : Nat} {k k' : Cell} (e : env[i]? = some (.own k)) (b : Addr) : Own σ (env.set i (.own k')) b ↔ Own σ env b := by
  constructor
  · rintro ⟨j, q, q1, q2⟩
    by_cases ij : i = j
    · subst ij
      exact ⟨i, k, e, q2⟩
    · rw [get_set_ne ij] at q1
      exact ⟨j, q, q1, q2⟩
  · rintro ⟨j, q, q1, q2⟩
    by_cases ij : i = j
    · subst ij
      exact ⟨i, k', List.getElem?_set_self (List.getElem?_eq_some_iff.mp e).1, q2⟩
    · exact ⟨j, q, by rw [get_set_ne ij]; exact q1, q2⟩
theorem okk_set {i : Nat} {k k' : Cell} {O : Addr → Prop} (e : env[i]? = some (.own k)) (b : Addr) : Okk O σ (env.set i (.own k')) G b ↔ Okk O σ env G b := by
  unfold Okk
  rw [own_set e]
/-- an own place is changed -/
theorem Rel.chgOwn (r : Rel c σ H env w G) {i : Nat} {k k' : Cell} (e : env[i]? = some (.own k)) (e1 : σ[i]? = some (some (.ref a))) (h : CellR c.m (upd H a o) (Okk c.O σ env G) G a k') :
    Rel c σ (upd H a o) (env.set i (.own k')) w G ∧ Step σ env G H (env.set i (.own k')) G (upd H a o) := by
  have oa : Own σ env a := ⟨i, k, e, e1⟩
  obtain ⟨b0, eb, _, nG, nO⟩ := r.own i k e
  rw [e1] at eb
  cases eb
  obtain ⟨u0, hu0, _⟩ := r.ownAt oa
  have hok : ∀ b u, Okk c.O σ env G b → H b = some u → Okk c.O σ (env.set i (.own k')) G b := fun b _ h _ => (okk_set e b).mpr h
  have tr : ∀ b, H b ≠ none → upd H a o b ≠ none := fun b hb => by
    by_cases q : b = a
    · subst q
      rw [upd_same]
      intro z
      cases z
    · rw [upd_ne q]
      exact hb
  have s : Step σ env G H (env.set i (.own k')) G (upd H a o) := ⟨fun b u e1 h1 h2 => by
    rw [upd_ne fun z => h1 (by rw [z]; exact oa)]
    exact e1, fun b h => (own_set e b).mp h, ⟨[], (List.append_nil G).symm⟩, fun _ h => .inl h, tr⟩
  refine ⟨⟨by rw [List.length_set]; exact r.len, fun j d q => ?_, fun j q q1 => ?_, fun j j' k1 k2 b q1 q2 q3 q4 => ?_, r.wl, r.nd, fun n q b q1 q2 => ?_, fun b u q1 q2 q3 => ?_, r.gx, r.gn, r.sf, fun b z => tr b (r.ot b z), fun x z => tr x (r.sx x z)⟩, s⟩
  · by_cases ij : i = j
    · subst ij
      rw [List.getElem?_set_self (List.getElem?_eq_some_iff.mp e).1] at q
      cases q
    · rw [get_set_ne ij] at q
      obtain ⟨v, q1, q2⟩ := r.val j d q
      exact ⟨v, q1, q2.go (r.stayU (.inl oa)) hok fun _ _ e => e⟩
  · by_cases ij : i = j
    · subst ij
      rw [List.getElem?_set_self (List.getElem?_eq_some_iff.mp e).1] at q1
      cases q1
      exact ⟨a, e1, h.ok fun b hb => (okk_set e b).mpr hb, nG, nO⟩
    · rw [get_set_ne ij] at q1
      obtain ⟨b, q2, q3, q4⟩ := r.own j q q1
      have nb : b ≠ a := fun z => by
        subst z
        exact ij (r.inj i j k q b e q1 e1 q2)
      exact ⟨b, q2, q3.go (upd_ne nb) (r.stayU (.inl oa)) hok fun _ _ e => e, q4⟩
  · have f : ∀ (m : Nat) (q : Cell), (env.set i (.own k'))[m]? = some (.own q) → ∃ q', env[m]? = some (.own q') := fun m q z => by
      by_cases im : i = m
      · subst im
        exact ⟨k, e⟩
      · rw [get_set_ne im] at z
        exact ⟨q, z⟩
    obtain ⟨k1', z1⟩ := f j k1 q1
    obtain ⟨k2', z2⟩ := f j' k2 q2
    exact r.inj j j' k1' k2' b z1 z2 q3 q4
  · obtain ⟨q3, q4⟩ := r.st n q b q1 q2
    have nb : b ≠ a := fun z => nG (z ▸ List.mem_of_getElem? q2)
    exact ⟨q3.go (upd_ne nb) (r.stayU (.inl oa)) hok fun _ _ e => e, q4⟩
  · obtain ⟨q4, q5⟩ := r.fr b u q1 q2 q3
    refine ⟨?_, fun z => q5 ((own_set e b).mp z)⟩
    rw [upd_ne fun z => q5 (by rw [z]; exact oa)]
    exact q4
/-- a place behind a handle is changed -/
theorem Rel.chgHnd (r : Rel c σ H env w G) {n : Nat} {k k' : Cell} (ew : w[n]? = some k) (eg : G[n]? = some a) (h : CellR c.m (upd H a o) (Okk c.O σ env G) G a k') :
    Rel c σ (upd H a o) env (w.set n k') G ∧ Step σ env G H env G (upd H a o) := by
  have ag : a ∈ G := List.mem_of_getElem? eg
  obtain ⟨u0, hu0, _⟩ := r.gAt ag
  obtain ⟨_, nO⟩ := r.st n k a ew eg
  have noa : ¬ Own σ env a := fun ⟨j, q, q1, q2⟩ => by
    obtain ⟨b, q3, _, q4, _⟩ := r.own j q q1
    rw [q2] at q3
    cases q3
    exact q4 ag
  have hok : ∀ b u, Okk c.O σ env G b → H b = some u → Okk c.O σ env G b := fun b _ h _ => h
  have tr : ∀ b, H b ≠ none → upd H a o b ≠ none := fun b hb => by
    by_cases q : b = a
    · subst q
      rw [upd_same]
      intro z
      cases z
    · rw [upd_ne q]
      exact hb
  have s : Step σ env G H env G (upd H a o) := ⟨fun b u e1 h1 h2 => by
    rw [upd_ne fun z => h2 (by rw [z]; exact ag)]
    exact e1, fun b h => h, ⟨[], (List.append_nil G).symm⟩, fun _ h => .inl h, tr⟩
  refine ⟨⟨r.len, fun j d q => ?_, fun j q q1 => ?_, r.inj, by rw [List.length_set]; exact r.wl, r.nd, fun m q b q1 q2 => ?_, fun b u q1 q2 q3 => ?_, r.gx, r.gn, r.sf, fun b z => tr b (r.ot b z), fun x z => tr x (r.sx x z)⟩, s⟩
  · obtain ⟨v, q1, q2⟩ := r.val j d q
    exact ⟨v, q1, q2.go (r.stayU (.inr ag)) hok fun _ _ e => e⟩
  · obtain ⟨b, q2, q3, q4⟩ := r.own j q q1
    have nb : b ≠ a := fun z => by
      subst z
      exact q4.1 ag
    exact ⟨b, q2, q3.go (upd_ne nb) (r.stayU (.inr ag)) hok fun _ _ e => e, q4⟩
  · by_cases nm : n = m
    · subst nm
      rw [List.getElem?_set_self (List.getElem?_eq_some_iff.mp ew).1] at q1
      cases q1
      rw [eg] at q2
      cases q2
      exact ⟨h, nO⟩
    · rw [get_set_ne nm] at q1
      obtain ⟨q3, q4⟩ := r.st m q b q1 q2
      have nb : b ≠ a := fun z => by
        subst z
        exact nm ((List.getElem?_inj (List.getElem?_eq_some_iff.mp eg).1 r.nd).mp (eg.trans q2.symm))
      exact ⟨q3.go (upd_ne nb) (r.stayU (.inr ag)) hok fun _ _ e => e, q4⟩
  · obtain ⟨q4, q5⟩ := r.fr b u q1 q2 q3
    refine ⟨?_, q5⟩
    rw [upd_ne fun z => ?_]
    · exact q4
    · subst z
      rcases r.gn b ag with z | z
      · exact q2 z
      · rw [q1] at z
        cases z
/-- what chgL says, in the heap -/
theorem chgL_ok (r : Rel c σ H env w G) {i : Option Nat} {d : D} {f : List D → List D} {okp : List D → Prop} {Q : Fm → W → Prop} (hw : chgL env w i d f okp Q) {a : Addr} (p : Pk c.m H (Okk c.O σ env G) G (.ref a) d)
    (hi : ∀ j, i = some j → σ[j]? = some (some (.ref a)) ∧ getS env j fun d' => d' = d) :
    ∃ (vs : List V) (xs : List D), res w d = .lst xs ∧ H a = some (.lst vs) ∧ Reps c.m H (Okk c.O σ env G) G vs xs ∧ okp xs ∧ (Own σ env a ∨ a ∈ G) ∧
      ∀ vs', (∀ o, Reps c.m (upd H a o) (Okk c.O σ env G) G vs' (f xs)) → ∃ env' w', Q env' w' ∧ Rel c σ (upd H a (.lst vs')) env' w' G ∧ Step σ env G H env' G (upd H a (.lst vs')) := by
  unfold chgL at hw
  cases d <;> first | exact hw.elim | skip
  · rename_i xs
    cases i with
    | none => exact hw.elim
    | some j =>
      obtain ⟨e1, e2⟩ := hi j rfl
      simp only at hw
      cases e : env[j]? with
      | none => simp only [e] at hw
      | some s =>
        rw [e] at hw
        cases s with
        | none => exact hw.elim
        | val d => exact hw.elim
        | own kc =>
          cases kc with
          | obj _ _ => exact hw.elim
          | lst ys =>
            have exy : ys = xs := by
              unfold getS at e2
              rw [e] at e2
              exact D.lst.inj e2
            subst exy
            obtain ⟨a2, e3, cr, n1, n2⟩ := r.own j _ e
            rw [e1] at e3
            cases e3
            cases cr with
            | lst h rp =>
              refine ⟨_, ys, rfl, h, rp, hw.1, .inl ⟨j, _, e, e1⟩, fun vs' hr => ?_⟩
              obtain ⟨r2, s2⟩ := r.chgOwn (o := .lst vs') (k' := .lst (f ys)) e e1 (.lst upd_same (hr _))
              exact ⟨_, _, hw.2, r2, s2⟩
  · rename_i n
    obtain ⟨a2, e1, eg⟩ := p.hnd
    cases e1
    simp only at hw
    cases e : w[n]? with
    | none => simp only [e] at hw
    | some kc =>
      rw [e] at hw
      cases kc with
      | obj _ _ => exact hw.elim
      | lst xs =>
        obtain ⟨cr, n1⟩ := r.st n _ a e eg
        cases cr with
        | lst h rp =>
          refine ⟨_, xs, by show (match w[n]? with | some c => c.toD | none => .h n) = _; rw [e]; rfl, h, rp, hw.1, .inr (List.mem_of_getElem? eg), fun vs' hr => ?_⟩
          obtain ⟨r2, s2⟩ := r.chgHnd (o := .lst vs') (k' := .lst (f xs)) e eg (.lst upd_same (hr _))
          exact ⟨_, _, hw.2, r2, s2⟩

theorem Reps.stayU {c : Ct} {σ : L2.St} {H : Hp} {env : Fm} {w : W} {G : List Addr} {a : Addr} (r : Rel c σ H env w G) (ha : Own σ env a ∨ a ∈ G) {vs : List V} {xs : List D} (h : Reps c.m H (Okk c.O σ env G) G vs xs) (o : HO) : Reps c.m (upd H a o) (Okk c.O σ env G) G vs xs :=
  h.go (r.stayU ha) (fun _ _ h _ => h) fun _ _ e => e
end
section
variable {G : Gam} {c : Ct} {R : Exn → Fm → W → Prop} {sc : Scope} {k : Nat} {X : Cx} {pos : Pos}
theorem Rep.stepU {σ : L2.St} {H : Hp} {env env' : Fm} {w : W} {Gh : List Addr} {a : Addr} {o : HO} {v : V} {d : D} (h : Rep c.m H (Okk c.O σ env Gh) Gh v d) (r : Rel c σ H env w Gh) (s : Step σ env Gh H env' Gh (upd H a o)) : Rep c.m (upd H a o) (Okk c.O σ env' Gh) Gh v d := h.step s r
/-- list.pop as data tells it -/
theorem pop_ok {σ : L2.St} {H : Hp} {env : Fm} {w : W} {Gh : List Addr} {i : Option Nat} {d : D} {l : Option Int} {Q' : D → Fm → W → Prop} {a : Addr} (r : Rel c σ H env w Gh) (hw : popD env w i d l Q') (p : Pk c.m H (Okk c.O σ env Gh) Gh (.ref a) d)
    (hi : ∀ j, i = some j → σ[j]? = some (some (.ref a)) ∧ getS env j fun d' => d' = d) :
    ∃ (vs : List V) (m : Nat) (y : V) (dy : D), H a = some (.lst vs) ∧ vs[m]? = some y ∧ (match l with
      | none => m = vs.length - 1
      | some j => ixN vs.length j = some m ∧ -(2 ^ 63) ≤ j ∧ j < 2 ^ 63) ∧
      ∃ env' w', Q' dy env' w' ∧ Rel c σ (upd H a (.lst (match l with | none => vs.dropLast | some _ => vs.eraseIdx m))) env' w' Gh ∧ Step σ env Gh H env' Gh (upd H a (.lst (match l with | none => vs.dropLast | some _ => vs.eraseIdx m))) ∧
        Rep c.m (upd H a (.lst (match l with | none => vs.dropLast | some _ => vs.eraseIdx m))) (Okk c.O σ env' Gh) Gh y dy := by
  unfold popD at hw
  cases e : res w d <;> simp only [e] at hw
  rename_i xs
  cases l with
  | none =>
    simp only at hw
    cases e2 : xs[xs.length - 1]? with
    | none => simp only [e2] at hw
    | some dy =>
      simp only [e2] at hw
      obtain ⟨vs, xs', h1, h2, h3, _, ho, h5⟩ := chgL_ok r hw p hi
      rw [e] at h1
      cases h1
      obtain ⟨y, hy, py⟩ := h3.get e2
      obtain ⟨env', w', hq, r2, s2⟩ := h5 vs.dropLast fun o => (h3.dropLast).stayU r ho o
      rw [← h3.length] at hy
      exact ⟨vs, _, y, dy, h2, hy, rfl, env', w', hq, r2, s2, py.step s2 r⟩
  | some j =>
    simp only at hw
    cases e1 : ixN xs.length j with
    | none => simp only [e1] at hw
    | some m =>
      simp only [e1] at hw
      cases e2 : xs[m]? with
      | none => simp only [e2] at hw
      | some dy =>
        simp only [e2] at hw
        obtain ⟨⟨b1, b2⟩, hw⟩ := hw
        obtain ⟨vs, xs', h1, h2, h3, _, ho, h5⟩ := chgL_ok r hw p hi
        rw [e] at h1
        cases h1
        obtain ⟨y, hy, py⟩ := h3.get e2
        obtain ⟨env', w', hq, r2, s2⟩ := h5 (vs.eraseIdx m) fun o => (h3.eraseIdx m).stayU r ho o
        rw [← h3.length] at e1
        exact ⟨vs, m, y, dy, h2, hy, ⟨e1, b1, b2⟩, env', w', hq, r2, s2, py.step s2 r⟩
theorem s_pop0 {a : E} {x : Expr} {apos : Pos} (hs : noSuper x = true) (hl : (apos.endLine == pos.line) = true) (ha : PE X x (tBaseL G c R a)) : PE X (.Call (.Attribute x "pop" apos) [] [] pos) (tE G c R (.pop a .none)) := by
  refine (pe_bm0 PySem.F.plainAttrs_list PySem.F.slot_list_pop PySem.F.type_list_pop mt_pop ha (attr_base hs) hl).imp fun σ H Q ⟨env, w, Gh, Q', r, hw, q⟩ => ?_
  replace hw : pkThenL (baseOf a) (wpE G R a) (wpEo G R .none) env w fun d l env w => popD env w (baseOf a) d l Q' := hw
  refine ⟨_, env, w, Gh, _, _, r, hw, fun v1 H1 env1 w1 G1 Q2 r1 s1 il hw1 back => ?_⟩
  obtain ⟨ad, vs0, rfl, hl0⟩ := il
  obtain ⟨d, pd, hi, hw2⟩ := back none H1 env1 w1 G1 r1 Step.rfl' hw1
  obtain ⟨vs, m, y, dy, h1, h2, h3, env', w', hq, r2, s2, py⟩ := pop_ok r1 hw2 pd hi
  replace h3 : m = vs.length - 1 := h3
  subst h3
  exact ⟨.inl ⟨rfl, vs0, ref_lst hl0⟩, ad, vs, y, rfl, rfl, h1, h2, q y _ dy env' w' G1 r2 (s1.trans s2) py (fun z => nomatch z) hq⟩
theorem s_pop1 {a b : E} {x y : Expr} {apos : Pos} (hs : noSuper x = true) (hl : (apos.endLine == pos.line) = true) (hst : isStar y = false) (ha : PE X x (tBaseL G c R a)) (hb : PE X y (tE G c R b)) : PE X (.Call (.Attribute x "pop" apos) [y] [] pos) (tE G c R (.pop a (.some b))) := by
  have st : starEach [y] X.env = (false, eval y X.env) :: starEach [] X.env := star_ok hst
  refine (pe_bm PySem.F.plainAttrs_list PySem.F.slot_list_pop PySem.F.type_list_pop mt_popAt ha (pa_cons hb pa_nil st) (attr_base hs) (by rw [st]; rfl) hl st rfl).imp fun σ H Q ⟨env, w, Gh, Q', r, hw, q⟩ => ?_
  replace hw : pkThenL (baseOf a) (wpE G R a) (wpEo G R (.some b)) env w fun d l env w => popD env w (baseOf a) d l Q' := hw
  refine ⟨_, env, w, Gh, _, _, r, hw, fun v1 H1 env1 w1 G1 Q2 r1 s1 il hw1 back => ?_⟩
  obtain ⟨ad, vs0, rfl, hl0⟩ := il
  refine ⟨.inl ⟨rfl, vs0, ref_lst hl0⟩, env1, w1, G1, _, r1, hw1, fun v2 H2 d2 env2 w2 G2 r2 s2 p2 fr2 hw2 => ?_⟩
  cases p2 <;> first | exact hw2.elim | skip
  rename_i j
  obtain ⟨d, pd, hi, hw3⟩ := back (some j) H2 env2 w2 G2 r2 s2 hw2
  obtain ⟨vs, m, y, dy, h1, h2, h3, env', w', hq, r3, s3, py⟩ := pop_ok r2 hw3 pd hi
  replace h3 : ixN vs.length j = some m ∧ -(2 ^ 63) ≤ j ∧ j < 2 ^ 63 := h3
  exact ⟨ad, vs, j, m, y, rfl, rfl, h1, h3.2.1, h3.2.2, (ixN_seq h3.1).1, h2, q y _ dy env' w' G2 r3 ((s1.trans s2).trans s3) py (fun z => nomatch z) hq⟩
theorem s_rangeL (ok : XOk G c R sc k X) {a : E} {x : Expr} {p p2 pos2 : Pos} (hg : glB sc "list" = true) (hg2 : glB sc "range" = true) (hs : isStar x = false) (ha : PE X x (tE G c R a)) : PE X (.Call (.Name "list" p) [.Call (.Name "range" p2) [x] [] pos2] [] pos) (tE G c R (.rangeL a)) := by
  refine (pe_listRg ok.calm (ok.gl _ hg) (ok.bltX (by decide)) (prg_1 (ok.gl _ hg2) (ok.bltX (by decide)) ha (star_ok hs))).imp fun σ H Q ⟨env, w, Gh, Q', r, hw, q⟩ => ?_
  replace hw : wpE G R a env w fun x env w => match x with
    | .int n => (n ≤ 16777216 ∧ 0 ≤ n) ∧ Q' (.lst (rangeD 0 n)) env w
    | _ => False := hw
  refine ⟨env, w, Gh, _, r, hw, fun v1 H1 d1 env1 w1 G1 r1 s1 p1 fr1 hw1 => ?_⟩
  cases p1 <;> first | exact hw1.elim | skip
  rename_i n
  obtain ⟨⟨b1, b2⟩, hw1⟩ := hw1
  refine ⟨n, rfl, RgOk.of_le (Int.le_refl 0) b1 (by decide) b2, fun l nl => ?_⟩
  have s : Step σ env1 G1 H1 env1 G1 (upd H1 l (.lst (rgV 0 n))) := step_new nl
  have key : ∀ (H : Hp) (m : List Nat), Reps c.m H (Okk c.O σ env1 G1) G1 (m.map fun i => V.int (0 + (i : Nat))) (m.map fun i => D.int (0 + (i : Nat))) := by
    intro H m
    induction m with
    | nil => exact .nil
    | cons x m ih => exact .cons (.int _) ih
  exact q _ _ _ env1 w1 G1 (r1.new nl) (s1.trans s) (.lst (r1.okNew nl) upd_same (key _ _)) (fun _ _ => ⟨l, H1, _, _, rfl, rfl, s1.none_of nl, nl, r1, rfl, key _ _⟩) hw1
end
end Py

set_option Elab.async false
set_option linter.all false
set_option maxRecDepth 100000
set_option maxHeartbeats 4000000
/-! PyI: what a loop walks, by plain data. -/
namespace Py
open PySem PySem.Spec PyProof.Rows L2
/-- from statement to statement: the slots may change -/
structure SStep (σ : L2.St) (env : Fm) (G : List Addr) (H : Hp) (σ' : L2.St) (env' : Fm) (G' : List Addr) (H' : Hp) : Prop where
  fr : ∀ a o, H a = some o → ¬ Own σ env a → a ∉ G → H' a = some o
  own : ∀ a, H a ≠ none → Own σ' env' a → Own σ env a
  gx : ∃ l, G' = G ++ l
  gn : ∀ a, a ∈ G' → a ∈ G ∨ H a = none
  tr : ∀ a, H a ≠ none → H' a ≠ none
section
variable {c c' : Ct} {σ σ' σ1 σ2 : L2.St} {H H' H1 H2 : Hp} {env env' env1 env2 : Fm} {w w' : W} {G G' G1 G2 : List Addr}
theorem Step.ss (s : Step σ env G H env' G' H') : SStep σ env G H σ env' G' H' := ⟨s.fr, fun a _ h => s.own a h, s.gx, s.gn, s.tr⟩
theorem SStep.rfl' : SStep σ env G H σ env G H := Step.rfl'.ss
theorem SStep.trans (s : SStep σ env G H σ1 env1 G1 H1) (t : SStep σ1 env1 G1 H1 σ2 env2 G2 H2) : SStep σ env G H σ2 env2 G2 H2 where
  fr := fun a o e h1 h2 => t.fr a o (s.fr a o e h1 h2) (fun z => h1 (s.own a (by rw [e]; intro n; cases n) z)) fun z => (s.gn a z).elim h2 fun n => by rw [e] at n; cases n
  own := fun a n h => s.own a n (t.own a (s.tr a n) h)
  gx := by
    obtain ⟨l, rfl⟩ := s.gx
    obtain ⟨m, rfl⟩ := t.gx
    exact ⟨l ++ m, List.append_assoc ..⟩
  gn := fun a h => (t.gn a h).elim (s.gn a) fun n => by
    by_cases q : H a = none
    · exact .inr q
    · exact absurd n (s.tr a q)
  tr := fun a h => t.tr a (s.tr a h)
theorem SStep.stay (s : SStep σ env G H σ' env' G' H') (r : Rel c σ H env w G) : ∀ a o, H a = some o → (Okk c.O σ env G a ∨ Imm o) → H' a = some o := fun a o e h => by
  rcases h with h | h
  · exact s.fr a o e h.2.1 h.2.2
  · refine s.fr a o e (fun z => ?_) fun z => ?_
    · obtain ⟨o', e', n⟩ := r.ownAt z
      rw [e] at e'
      cases e'
      exact n h
    · obtain ⟨o', e', n⟩ := r.gAt z
      rw [e] at e'
      cases e'
      exact n h
theorem SStep.okk (s : SStep σ env G H σ' env' G' H') {O O' : Addr → Prop} (ho : ∀ a, O' a → O a ∨ H a = none) : ∀ a o, Okk O σ env G a → H a = some o → Okk O' σ' env' G' a := fun a o h e =>
  ⟨fun z => (ho a z).elim h.1 (fun n => by rw [e] at n; cases n), fun z => h.2.1 (s.own a (by rw [e]; intro n; cases n) z), fun z => (s.gn a z).elim h.2.2 fun n => by rw [e] at n; cases n⟩
theorem SStep.gget (s : SStep σ env G H σ' env' G' H') : ∀ (n : Nat) (a : Addr), G[n]? = some a → G'[n]? = some a := fun n a e => by
  obtain ⟨l, rfl⟩ := s.gx
  rw [List.getElem?_append_left (List.getElem?_eq_some_iff.mp e).1]
  exact e
theorem Rep.ss {O' : Addr → Prop} {v : V} {d : D} (h : Rep c.m H (Okk c.O σ env G) G v d) (s : SStep σ env G H σ' env' G' H') (ho : ∀ a, O' a → c.O a ∨ H a = none) (r : Rel c σ H env w G) : Rep c.m H' (Okk O' σ' env' G') G' v d := h.go (s.stay r) (s.okk ho) s.gget
theorem Reps.ss {O' : Addr → Prop} {v : List V} {d : List D} (h : Reps c.m H (Okk c.O σ env G) G v d) (s : SStep σ env G H σ' env' G' H') (ho : ∀ a, O' a → c.O a ∨ H a = none) (r : Rel c σ H env w G) : Reps c.m H' (Okk O' σ' env' G') G' v d := h.go (s.stay r) (s.okk ho) s.gget
end

/-- the items that J yields, whatever is done to the slots meanwhile -/
structure ItD (c : Ct) (J : It) (ds : List D) (σ : L2.St) (env : Fm) (G : List Addr) (H : Hp) : Prop where
  go : ∀ (c' : Ct) (σ' : L2.St) (env' : Fm) (w' : W) (G' : List Addr) (H' : Hp), c'.m = c.m → (∀ a, c'.O a → c.O a ∨ H a = none) → Rel c' σ' H' env' w' G' → SStep σ env G H σ' env' G' H' → ∀ i, i < ds.length → J.go i H'
  stop : ∀ (c' : Ct) (σ' : L2.St) (env' : Fm) (w' : W) (G' : List Addr) (H' : Hp), c'.m = c.m → (∀ a, c'.O a → c.O a ∨ H a = none) → Rel c' σ' H' env' w' G' → SStep σ env G H σ' env' G' H' → J.stop ds.length H'
  yld : ∀ (c' : Ct) (σ' : L2.St) (env' : Fm) (w' : W) (G' : List Addr) (H' : Hp), c'.m = c.m → (∀ a, c'.O a → c.O a ∨ H a = none) → Rel c' σ' H' env' w' G' → SStep σ env G H σ' env' G' H' → ∀ i x H'', i < ds.length → J.yld i H' x H'' →
    ∃ d, ds[i]? = some d ∧ Rel c' σ' H'' env' w' G' ∧ Step σ' env' G' H' env' G' H'' ∧ Rep c'.m H'' (Okk c'.O σ' env' G') G' x d
section
variable {c : Ct} {σ : L2.St} {H : Hp} {env : Fm} {w : W} {G : List Addr} {K : PySem.W.Frag}
/-- items that stand -/
theorem itd_same {J : It} {ds : List D} {vs : List V} (r : Rel c σ H env w G) (h : Reps c.m H (Okk c.O σ env G) G vs ds) {P : Hp → Prop} (hP : ∀ {σ' : L2.St} {env' : Fm} {G' : List Addr} {H' : Hp}, SStep σ env G H σ' env' G' H' → P H')
    (hgo : ∀ H' i, P H' → i < vs.length → J.go i H') (hstop : ∀ H', P H' → J.stop vs.length H') (hy : ∀ i H' x H'', P H' → i < vs.length → J.yld i H' x H'' → H'' = H' ∧ vs[i]? = some x) : ItD c J ds σ env G H where
  go := fun c' σ' env' w' G' H' hm ho r' s i hi => hgo H' i (hP s) (by rw [h.length]; exact hi)
  stop := fun c' σ' env' w' G' H' hm ho r' s => by rw [← h.length]; exact hstop H' (hP s)
  yld := fun c' σ' env' w' G' H' hm ho r' s i x H'' hi y => by
    obtain ⟨e, hx⟩ := hy i H' x H'' (hP s) (by rw [h.length]; exact hi) y
    subst e
    obtain ⟨d, e1, p⟩ := h.getV hx
    refine ⟨d, e1, r', Step.rfl', ?_⟩
    rw [hm]
    exact p.ss s ho r
theorem itd_list {a : Addr} {vs : List V} {ds : List D} (r : Rel c σ H env w G) (ha : H a = some (.lst vs)) (oa : Okk c.O σ env G a) (h : Reps c.m H (Okk c.O σ env G) G vs ds) : ItD c (Itl K a) ds σ env G H :=
  itd_same r h (P := fun H' => H' a = some (.lst vs)) (fun s => s.fr a _ ha oa.2.1 oa.2.2) (fun H' i p hi => ⟨vs, vs[i], .inl (.inl p), List.getElem?_eq_getElem hi⟩) (fun H' p => ⟨vs, .inl (.inl p), Nat.le_refl _⟩)
    fun i H' x H'' p hi y => ⟨y.1, y.2 vs (.inl (.inl p))⟩
theorem itd_tup {a : Addr} {vs : List V} {ds : List D} (r : Rel c σ H env w G) (ha : H a = some (.tup vs)) (h : Reps c.m H (Okk c.O σ env G) G vs ds) : ItD c (Itt K a) ds σ env G H :=
  itd_same r h (P := fun H' => H' a = some (.tup vs)) (fun s => s.stay r a _ ha (.inr True.intro)) (fun H' i p hi => ⟨vs, vs[i], .inl (.inl p), List.getElem?_eq_getElem hi⟩) (fun H' p => ⟨vs, .inl (.inl p), Nat.le_refl _⟩)
    fun i H' x H'' p hi y => ⟨y.1, y.2 vs (.inl (.inl p))⟩
theorem rev_get {α : Type} {vs : List α} {i : Nat} (hi : i < vs.length) : vs.reverse[i]? = vs[vs.length - 1 - i]? := List.getElem?_reverse hi
theorem itd_rev {a : Addr} {vs : List V} {ds : List D} (r : Rel c σ H env w G) (ha : H a = some (.lst vs)) (oa : Okk c.O σ env G a) (h : Reps c.m H (Okk c.O σ env G) G vs ds) : ItD c (Itv K a vs.length) ds.reverse σ env G H :=
  itd_same r h.reverse (P := fun H' => H' a = some (.lst vs)) (fun s => s.fr a _ ha oa.2.1 oa.2.2)
    (fun H' i p hi => by
      rw [List.length_reverse] at hi
      exact ⟨hi, vs, vs[vs.length - 1 - i]'(by omega), .inl (.inl p), List.getElem?_eq_getElem (by omega)⟩)
    (fun H' p => by rw [List.length_reverse]; exact Nat.le_refl _)
    fun i H' x H'' p hi y => ⟨y.1, by rw [List.length_reverse] at hi; rw [rev_get hi]; exact y.2 vs (.inl (.inl p))⟩
theorem itd_revT {a : Addr} {vs : List V} {ds : List D} (r : Rel c σ H env w G) (ha : H a = some (.tup vs)) (h : Reps c.m H (Okk c.O σ env G) G vs ds) : ItD c (RT.ItvT K a vs.length) ds.reverse σ env G H :=
  itd_same r h.reverse (P := fun H' => H' a = some (.tup vs)) (fun s => s.stay r a _ ha (.inr True.intro))
    (fun H' i p hi => by
      rw [List.length_reverse] at hi
      exact ⟨hi, vs, vs[vs.length - 1 - i]'(by omega), .inl (.inl p), List.getElem?_eq_getElem (by omega)⟩)
    (fun H' p => by rw [List.length_reverse]; exact Nat.le_refl _)
    fun i H' x H'' p hi y => ⟨y.1, by rw [List.length_reverse] at hi; rw [rev_get hi]; exact y.2 vs (.inl (.inl p))⟩
theorem reps_map {f : Nat → V} {g : Nat → D} {H : Hp} {m : Mo} {ok : Addr → Prop} (h : ∀ i, Rep m H ok G (f i) (g i)) : ∀ l : List Nat, Reps m H ok G (l.map f) (l.map g)
  | [] => .nil
  | x :: l => .cons (h x) (reps_map h l)
theorem itd_range {lo : Int} {n : Nat} (r : Rel c σ H env w G) : ItD c (Itr lo n) ((List.range n).map fun i => D.int (lo + (i : Nat))) σ env G H :=
  itd_same (vs := (List.range n).map fun i => V.int (lo + (i : Nat))) r (reps_map (fun i => .int _) _) (P := fun _ => True) (fun _ => trivial)
    (fun H' i _ hi => by rw [List.length_map, List.length_range] at hi; exact hi) (fun H' _ => by rw [List.length_map, List.length_range]; exact Nat.le_refl _)
    fun i H' x H'' _ hi y => by
      rw [List.length_map, List.length_range] at hi
      refine ⟨y.1, ?_⟩
      rw [y.2, List.getElem?_map, List.getElem?_range hi]
      rfl
theorem itd_rangeR {n : Int} (r : Rel c σ H env w G) : ItD c (Itc (0 + (((n - 0).toNat : Nat) : Int) - 1) (-1) (n - 0).toNat) (rangeD 0 n).reverse σ env G H := by
  have hl : ((List.range (n - 0).toNat).map fun i => V.int (0 + (i : Nat))).length = (n - 0).toNat := by rw [List.length_map, List.length_range]
  refine itd_same (vs := ((List.range (n - 0).toNat).map fun i => V.int (0 + (i : Nat))).reverse) r (Reps.reverse (reps_map (g := fun i => D.int (0 + (i : Nat))) (fun i => .int _) _)) (P := fun _ => True) (fun _ => trivial)
    (fun H' i _ hi => by rw [List.length_reverse, hl] at hi; exact hi) (fun H' _ => by rw [List.length_reverse, hl]; exact Nat.le_refl _)
    fun i H' x H'' _ hi y => ?_
  rw [List.length_reverse] at hi
  refine ⟨y.1, ?_⟩
  rw [rev_get hi, hl, y.2]
  rw [hl] at hi
  rw [List.getElem?_map, List.getElem?_range (by omega)]
  show some (V.int _) = some (V.int _)
  congr 2
  omega
theorem reps_str {m : Mo} {ok : Addr → Prop} : ∀ l : List Nat, Reps m H ok G (l.map fun c => V.str ⟨#[c]⟩) (l.map fun c => D.str ⟨#[c]⟩)
  | [] => .nil
  | x :: l => .cons (.str _) (reps_str l)
theorem itd_str {z : Str} (r : Rel c σ H env w G) : ItD c (Its z) (z.cps.toList.map fun c => D.str ⟨#[c]⟩) σ env G H :=
  itd_same (vs := z.cps.toList.map fun c => V.str ⟨#[c]⟩) r (reps_str _) (P := fun _ => True) (fun _ => trivial)
    (fun H' i _ hi => by
      rw [List.length_map, Array.length_toList] at hi
      exact hi) (fun H' _ => by
      rw [List.length_map, Array.length_toList]
      exact Nat.le_refl _)
    fun i H' x H'' _ hi y => by
      obtain ⟨e, ch, e1, e2⟩ := y
      refine ⟨e, ?_⟩
      rw [e2, List.getElem?_map, Array.getElem?_toList, e1]
      rfl
/-- a new pair at each turn -/
theorem itd_enum {J : It} {ds : List D} {vs : List V} (r : Rel c σ H env w G) (h : Reps c.m H (Okk c.O σ env G) G vs ds) {P : Hp → Prop} (hP : ∀ {σ' : L2.St} {env' : Fm} {G' : List Addr} {H' : Hp}, SStep σ env G H σ' env' G' H' → P H')
    (hgo : ∀ H' i, P H' → i < vs.length → J.go i H') (hstop : ∀ H', P H' → J.stop vs.length H')
    (hy : ∀ i H' x H'', P H' → i < vs.length → J.yld i H' x H'' → ∃ T y, x = .ref T ∧ H' T = none ∧ H'' = upd H' T (.tup [.int (i : Nat), y]) ∧ vs[i]? = some y) : ItD c J (enumD ds) σ env G H := by
  have el : (enumD ds).length = ds.length := by unfold enumD; rw [List.length_map, List.length_range]
  refine ⟨fun c' σ' env' w' G' H' hm ho r' s i hi => hgo H' i (hP s) (by rw [h.length, ← el]; exact hi), fun c' σ' env' w' G' H' hm ho r' s => by rw [el, ← h.length]; exact hstop H' (hP s), fun c' σ' env' w' G' H' hm ho r' s i x H'' hi y0 => ?_⟩
  rw [el] at hi
  obtain ⟨T, y, rfl, hT, rfl, hv⟩ := hy i H' x H'' (hP s) (by rw [h.length]; exact hi) y0
  obtain ⟨d, e1, p⟩ := h.getV hv
  have st : Step σ' env' G' H' env' G' (upd H' T (.tup [.int (i : Nat), y])) := step_new hT
  refine ⟨.tup [.int (i : Nat), d], ?_, r'.new hT, st, .tup upd_same (.cons (.int _) (.cons ?_ .nil))⟩
  · unfold enumD
    rw [List.getElem?_map, List.getElem?_range hi]
    show some (D.tup [.int (i : Nat), ds.getD i .non]) = _
    rw [List.getD_eq_getElem?_getD, e1]
    rfl
  · refine Rep.step (c := c') ?_ st r'
    rw [hm]
    exact p.ss s ho r
end
end Py
namespace L2
open PySem PySem.Spec PyProof.Rows
theorem PI.imp {X : Cx} {tg e : Expr} {t t' : TI} (h : PI X tg e t) (f : ∀ σ H Q, t' σ H Q → t σ H Q) : PI X tg e t' :=
  ⟨fun pins s σ H Q I q => h.run pins s σ H Q I (f σ H Q q)⟩
end L2
namespace Py
open PySem PySem.Spec PyProof.Rows L2
/-! ### the rules -/
section
variable {G : Gam} {c : Ct} {R : Exn → Fm → W → Prop} {sc : Scope} {k : Nat} {X : Cx} {pos : Pos} {tg : Expr}
def tI (G : Gam) (c : Ct) (R : Exn → Fm → W → Prop) (it : I) : TI := fun σ H Q => ∃ env w Gh Q', Rel c σ H env w Gh ∧ wpI G R it env w Q' ∧
  ∀ J H' ds env' w' Gh', Rel c σ H' env' w' Gh' → Step σ env Gh H env' Gh' H' → ItD c J ds σ env' Gh' H' → Q' ds env' w' → Q J H'
/-- a list, a tuple or a text -/
def iAny (K : PySem.W.Frag) (tl : TE) : TI := fun σ H R => tl σ H fun x H1 => (∃ a, x = .ref a ∧ (∃ xs, SqL K H1 a xs) ∧ R (Itl K a) H1) ∨ (∃ a, x = .ref a ∧ (∃ xs, SqT K H1 a xs) ∧ R (Itt K a) H1) ∨ (∃ z, x = .str z ∧ R (Its z) H1)
theorem pi_any {l : Expr} {tl : TE} (hl : PE X l tl) : PI X tg l (iAny X.K tl) := by
  refine ⟨fun pins s σ H R I h => ?_⟩
  refine thn (hl.run pins s σ H _ I h) fun v s1 ⟨x, H1, I1, r1, q1⟩ => ?_
  rcases q1 with ⟨a, e, ⟨xs, hq⟩, q⟩ | ⟨a, e, ⟨xs, hq⟩, q⟩ | ⟨z, e, q⟩
  · subst e
    cases r1
    obtain ⟨its, rv, p, hz⟩ := I1.list hq
    refine wpAny_pyIter_list p.isList ?_
    exact pi_one (tk := s1.toks) I1 _ (turn_list a _) ⟨_, Heap.get?_push_size _ rfl, rfl, rfl⟩ q
  · subst e
    cases r1
    obtain ⟨its, rv, p, hz⟩ := I1.tuple hq
    refine wpAny_pyIter_tuple (show s1.heap.IsTuple a its.toArray from p) ?_
    exact pi_one (tk := s1.toks) I1 _ (turn_tuple a _) ⟨_, Heap.get?_push_size _ rfl, rfl, rfl⟩ q
  · subst e
    obtain ⟨t, rfl⟩ := r1
    cases ha : z.cps.all (· < 128)
    · exact wpAny_pyIter_wide ha (pi_one (tk := s1.toks) I1 _ (turn_str _ z t "str_iterator" (.inr rfl)) ⟨_, Heap.get?_push_size _ rfl, rfl, rfl⟩ q)
    · exact wpAny_pyIter_ascii ha (pi_one (tk := s1.toks) I1 _ (turn_str _ z t "str_ascii_iterator" (.inl rfl)) ⟨_, Heap.get?_push_size _ rfl, rfl, rfl⟩ q)
theorem s_Ie {a : E} {x : Expr} (ha : PE X x (tE G c R a)) : PI X tg x (tI G c R (.e a)) := by
  refine (pi_any ha).imp fun σ H Q ⟨env, w, Gh, Q', r, hw, q⟩ => ?_
  replace hw : wpE G R a env w fun d env w => itemsD d fun xs => Q' xs env w := hw
  refine ⟨env, w, Gh, _, r, hw, fun v1 H1 d1 env1 w1 G1 r1 s1 p1 fr1 hw1 => ?_⟩
  cases p1 <;> first | exact hw1.elim | skip
  · exact .inr (.inr ⟨_, rfl, q _ H1 _ env1 w1 G1 r1 s1 (itd_str r1) hw1⟩)
  · rename_i a vs ds h1 rp
    exact .inr (.inl ⟨a, rfl, ⟨vs, .inl (.inl h1)⟩, q _ H1 _ env1 w1 G1 r1 s1 (itd_tup r1 h1 rp) hw1⟩)
  · rename_i a vs ds oa h1 rp
    exact .inl ⟨a, rfl, ⟨vs, .inl (.inl h1)⟩, q _ H1 _ env1 w1 G1 r1 s1 (itd_list r1 h1 oa rp) hw1⟩
theorem s_range1 (ok : XOk G c R sc k X) {a : E} {x : Expr} {p : Pos} (hg : glB sc "range" = true) (hs : isStar x = false) (ha : PE X x (tE G c R a)) : PI X tg (.Call (.Name "range" p) [x] [] pos) (tI G c R (.range1 a)) := by
  have st : starEach [x] X.env = (false, eval x X.env) :: starEach [] X.env := star_ok hs
  refine (pi_range1 (ok.gl _ hg) (ok.bltX (by decide)) (pa_cons ha pa_nil st) st).imp fun σ H Q ⟨env, w, Gh, Q', r, hw, q⟩ => ?_
  replace hw : wpE G R a env w fun d env w => match d with
    | .int n => small62 n ∧ Q' (rangeD 0 n) env w
    | _ => False := hw
  refine ⟨env, w, Gh, _, r, hw, fun v1 H1 d1 env1 w1 G1 r1 s1 p1 fr1 hw1 => ?_⟩
  cases p1 <;> first | exact hw1.elim | skip
  rename_i n
  obtain ⟨⟨b1, b2⟩, hw1⟩ := hw1
  refine ⟨n, rfl, b1, b2, q _ H1 _ env1 w1 G1 r1 s1 ?_ hw1⟩
  have := itd_range (lo := 0) (n := (n - 0).toNat) r1
  rw [Int.sub_zero] at this
  unfold rangeD
  rw [Int.sub_zero]
  exact this
theorem s_range2 (ok : XOk G c R sc k X) {a b : E} {x y : Expr} {p : Pos} (hg : glB sc "range" = true) (hs : isStar x = false) (hs2 : isStar y = false) (ha : PE X x (tE G c R a)) (hb : PE X y (tE G c R b)) : PI X tg (.Call (.Name "range" p) [x, y] [] pos) (tI G c R (.range2 a b)) := by
  have st : starEach [x, y] X.env = (false, eval x X.env) :: starEach [y] X.env := star_ok hs
  have st2 : starEach [y] X.env = (false, eval y X.env) :: starEach [] X.env := star_ok hs2
  refine (pi_range2 (ok.gl _ hg) (ok.bltX (by decide)) (pa_cons ha (pa_cons hb pa_nil st2) st) (by rw [st, st2]; rfl) (by rw [st2]; rfl)).imp fun σ H Q ⟨env, w, Gh, Q', r, hw, q⟩ => ?_
  replace hw : wpE G R a env w fun x env w => wpE G R b env w fun y env w => match x, y with
    | .int i, .int j => (small62 i ∧ small62 j) ∧ Q' (rangeD i j) env w
    | _, _ => False := hw
  refine ⟨env, w, Gh, _, r, hw, fun v1 H1 d1 env1 w1 G1 r1 s1 p1 fr1 hw1 => ?_⟩
  refine ⟨env1, w1, G1, _, r1, hw1, fun v2 H2 d2 env2 w2 G2 r2 s2 p2 fr2 hw2 => ?_⟩
  cases p1 <;> first | exact hw2.elim | skip
  cases p2 <;> first | exact hw2.elim | skip
  rename_i i j
  obtain ⟨⟨⟨b1, b2⟩, b3, b4⟩, hw2⟩ := hw2
  exact ⟨i, j, rfl, ⟨b1, b2, b3, b4⟩, q _ H2 _ env2 w2 G2 r2 (s1.trans s2) (itd_range r2) hw2⟩
theorem s_rev (ok : XOk G c R sc k X) {a : E} {x : Expr} {p : Pos} (hg : glB sc "reversed" = true) (hs : isStar x = false) (ha : PE X x (tE G c R a)) : PI X tg (.Call (.Name "reversed" p) [x] [] pos) (tI G c R (.rev a)) := by
  refine (RT.pi_revA (ok.gl _ hg) (ok.bltX (by decide)) ha (star_ok hs)).imp fun σ H Q ⟨env, w, Gh, Q', r, hw, q⟩ => ?_
  replace hw : wpE G R a env w fun d env w => match seqOf d with
    | some xs => Q' xs.reverse env w
    | none => False := hw
  refine ⟨env, w, Gh, _, r, hw, fun v1 H1 d1 env1 w1 G1 r1 s1 p1 fr1 hw1 => ?_⟩
  cases p1 <;> first | exact hw1.elim | skip
  · rename_i a vs ds h1 rp
    exact ⟨a, vs, rfl, .inr ⟨.inl (.inl h1), q _ H1 _ env1 w1 G1 r1 s1 (itd_revT r1 h1 rp) hw1⟩⟩
  · rename_i a vs ds oa h1 rp
    exact ⟨a, vs, rfl, .inl ⟨.inl (.inl h1), q _ H1 _ env1 w1 G1 r1 s1 (itd_rev r1 h1 oa rp) hw1⟩⟩
theorem s_revR (ok : XOk G c R sc k X) {a : E} {x : Expr} {p p2 pos2 : Pos} (hg : glB sc "reversed" = true) (hg2 : glB sc "range" = true) (hs : isStar x = false) (ha : PE X x (tE G c R a)) : PI X tg (.Call (.Name "reversed" p) [.Call (.Name "range" p2) [x] [] pos2] [] pos) (tI G c R (.revR a)) := by
  refine (pi_revR (ok.gl _ hg) (ok.bltX (by decide)) (prg_1 (ok.gl _ hg2) (ok.bltX (by decide)) ha (star_ok hs))).imp fun σ H Q ⟨env, w, Gh, Q', r, hw, q⟩ => ?_
  replace hw : wpE G R a env w fun d env w => match d with
    | .int n => small62 n ∧ Q' (rangeD 0 n).reverse env w
    | _ => False := hw
  refine ⟨env, w, Gh, _, r, hw, fun v1 H1 d1 env1 w1 G1 r1 s1 p1 fr1 hw1 => ?_⟩
  cases p1 <;> first | exact hw1.elim | skip
  rename_i n
  obtain ⟨⟨b1, b2⟩, hw1⟩ := hw1
  exact ⟨n, rfl, by decide, by decide, b1, b2, q _ H1 _ env1 w1 G1 r1 s1 (itd_rangeR r1) hw1⟩
end
end Py

set_option Elab.async false
set_option linter.all false
set_option maxRecDepth 100000
set_option maxHeartbeats 4000000
/-! PyJ: enumerate of a list or a tuple. -/
namespace PySem
open Sem (wp)
open AutoSeq1 (wpAny_loadPart')
theorem py_meets_enumerate_new1 {v : Value} {o : Obj} {H : Heap → Prop} (B : Begins v o H) :
    Meets (Builtin.«enumerate.__new__» ⟨[.type "enumerate", v], []⟩) (fun _ R s => H s.heap ∧
      R (.ok (.ret (.ref (s.heap.push o).objs.size))) { s with heap := (s.heap.push o).push { cls := .type "enumerate", data := .fields #[.none, .bool false, .ref s.heap.objs.size, rawInt 0, .none, .none] } }) :=
  .of_wp fun prog w A R s h => by
    obtain ⟨hp, g, d, tk, os⟩ := s; obtain ⟨h1, h⟩ := h
    have hsub := sub_enumerate
    have q1 : ∀ {A' : Around} {E : Value → Shared → Prop} {Q : Value → Shared → Prop}, Q (.ref hp.objs.size) ⟨hp.push o, g, d, tk, os⟩ → wpAny (model prog w) A' (pyIter v) Q E ⟨hp, g, d, tk, os⟩ :=
      fun q => B.iter prog w _ _ ⟨hp, g, d, tk, os⟩ _ h1 q
    wp_walk using q1
    refine wpAny_stack_any fun st => wpAny_pure ?_
    split
    · rename_i c _ _ _ _ _
      cases (c == Value.type "enumerate")
      · wp_walk using q1
        exact ⟨_, rfl, h⟩
      · wp_walk using q1
        exact ⟨_, rfl, h⟩
    · wp_walk using q1
      exact ⟨_, rfl, h⟩
section
variable {prog : Program} {w : World} {A : Around} {E : Value → Shared → Prop} {s : Shared}
theorem py_enum_begins1 {v : Value} {o : Obj} {H : Heap → Prop} {Q : Value → Shared → Prop} (B : Begins v o H) (h1 : H s.heap)
    (h : ∀ h', IsEnum h' (s.heap.objs.size + 1) s.heap.objs.size 0 .none → h'.get? s.heap.objs.size = some o → h'.objs.size = s.heap.objs.size + 2 →
      (∀ b o, s.heap.get? b = some o → h'.get? b = some o) → Q (.ref (s.heap.objs.size + 1)) { s with heap := h' }) :
    wpAny (model prog w) A (call (.type "enumerate") [v]) Q E s := by
  refine callType_new F.called_enumerate (by decide) (F.typeCall_enumerate_1 _) (F.newCall_enumerate_1 _) (fun obj => F.args_object_init_2 obj _) F.entry_enumerate_new
    (py_meets_enumerate_new1 B) ⟨h1, ?_⟩
  have hz : (s.heap.push o).objs.size = s.heap.objs.size + 1 := Heap.size_push ..
  show _ ∧ _
  rw [hz]
  have he : IsEnum ((s.heap.push o).push { cls := .type "enumerate", data := .fields #[.none, .bool false, .ref s.heap.objs.size, rawInt 0, .none, .none] }) (s.heap.objs.size + 1) s.heap.objs.size 0 .none := by
    have := Heap.get?_push_size (s.heap.push o) (o := { cls := .type "enumerate", data := .fields #[.none, .bool false, .ref s.heap.objs.size, rawInt 0, .none, .none] }) rfl
    rw [hz] at this; exact this
  refine ⟨⟨_, he, rfl⟩, h _ he (Heap.get?_push_of_some _ (Heap.get?_push_size _ B.free)) (by rw [Heap.size_push, hz]) fun b o x => Heap.get?_push_of_some _ (Heap.get?_push_of_some _ x)⟩
end
end PySem
namespace L2
open PySem PySem.Spec PyProof.Rows
/-- the tuple at a, each item in a new pair -/
def IteT (K : PySem.W.Frag) (a : Addr) : It :=
  ⟨fun i H => ∃ (xs : List V) (x : V), SqT K H a xs ∧ xs[i]? = some x, fun i H v H' => ∃ T x, v = .ref T ∧ H T = none ∧ H' = upd H T (.tup [.int (i : Nat), x]) ∧ ∀ xs, SqT K H a xs → xs[i]? = some x, fun i H => ∃ xs : List V, SqT K H a xs ∧ xs.length ≤ i⟩
theorem turn_enumT {P : Program} {w : World} {K : PySem.W.Frag} {elts : List Expr} {kk : Nat} {tpos : Pos} (a e it : Addr) :
    Turn P w K (.Tuple elts kk tpos) (IteT K a) [e, it] e (fun i h => (∃ old, IsEnum h e it ((i : Nat) : Int) old) ∧ h.IsTupleIter it a i ∧ e ≠ it ∧ a ≠ it ∧ e ≠ a) where
  mem := by simp
  obj := fun i h st b hb => by
    obtain ⟨⟨old, he⟩, ⟨o, ho, hc, hd⟩, _⟩ := st
    have e' : b = e ∨ b = it := by simpa using hb
    rcases e' with z | z
    · rw [z]; exact ⟨_, he, fun v q => nomatch q⟩
    · rw [z]; exact ⟨o, ho, fun v q => by rw [hd] at q; cases q⟩
  keep := fun i h h' st k => let ⟨⟨old, he⟩, hi, hne⟩ := st; ⟨⟨old, k e (by simp) _ he⟩, hi.at fun o q => k it (by simp) o q, hne⟩
  item := by
    intro X hP hw hK hc i pins s σ H E I hf st hg
    subst hP hw hK
    obtain ⟨⟨old, he⟩, hit, hne, hai, hea⟩ := st
    obtain ⟨xs, x, hq, hx⟩ := hg
    obtain ⟨its, rv, p, hz⟩ := I.tuple hq
    obtain ⟨u, hu, ru⟩ := rv.get hx
    have hT0 : s.heap.IsTuple a its.toArray := p
    have hel : e < s.heap.objs.size := Heap.lt_size he
    have hil : it < s.heap.objs.size := by obtain ⟨_, q, _⟩ := hit; exact Heap.lt_size q
    have hlt : i < its.toArray.size := by
      have := (List.getElem?_eq_some_iff.mp hu).1
      simpa using this
    have hh1 : X.A.in1.handled = none := I.ok.hd hc
    refine wpAny_pyNext_enum_itemD (Draws.tuple hh1 it a hai its.toArray) he ⟨hit, hT0⟩ hlt hne (by simp [hne, hea]) fun y h' tk hP ho st' hT hsz hk => ?_
    have hyu : y = u := by
      have h2 : its.toArray[i]? = some u := by simpa using hu
      rw [h2] at hP
      exact (Option.some.inj hP).symm
    subst hyu
    refine ⟨_, rfl, wpAny_letOwnedTupleGo_enum (s := { s with heap := h', toks := tk + 1 }) ho fun h'' he' sb => ?_⟩
    have hT2 : h''.get? s.heap.objs.size = some { cls := .type "tuple", data := .seq #[.int i tk, y] } := (sb.2 _ (Nat.ne_of_gt hel)).trans hT
    have new : ObjOk X.prog X.w (upd H s.heap.objs.size (.tup [.int (i : Nat), x])) h'' s.heap.objs.size (.tup [.int (i : Nat), x]) :=
      ⟨by show 2 ≤ sizeLine; decide, [.int i tk, y], .cons ⟨_, rfl⟩ (.cons ru .nil), ⟨_, hT2, rfl, _, rfl⟩⟩
    have I1 : Inv X pins σ (upd H s.heap.objs.size (.tup [.int (i : Nat), x])) { s with heap := h'', toks := tk + 1 } :=
      I.turnedNew (ch := [e, it]) (fun b ob hb q => (sb.2 b (fun z => hb (by simp [z]))).trans (hk b ob (fun z => hb (by simp [z])) (fun z => hb (by simp [z])) q)) hf (Nat.le_refl _) new
    refine ⟨.ref s.heap.objs.size, _, I1, rfl, ⟨_, x, rfl, I.hok.fresh (Nat.le_refl _), rfl, fun ys hy => by rw [I.tuple_inj hy hq]; exact hx⟩, ⟨⟨y, ?_⟩, st'.1.at fun o q => (sb.2 it (Ne.symm hne)).trans q, hne, hai, hea⟩, fun b hb => ?_⟩
    · have e1 : ((i + 1 : Nat) : Int) = (i : Int) + 1 := by omega
      rw [e1]; exact he'
    · have hb' : b < s.heap.objs.size := by
        have e' : b = e ∨ b = it := by simpa using hb
        rcases e' with z | z
        · rw [z]; exact hel
        · rw [z]; exact hil
      rw [upd_ne (Nat.ne_of_lt hb')]
      exact (hf b hb).1
  done := by
    intro X hP hw hK hc i pins s σ H E I hf st hg
    subst hP hw hK
    obtain ⟨⟨old, he⟩, hit, hne, hai, hea⟩ := st
    obtain ⟨xs, hq, hx⟩ := hg
    obtain ⟨its, rv, p, hz⟩ := I.tuple hq
    obtain ⟨f0, f1, f2, f3, f4, f5⟩ := hf it (by simp)
    have hT0 : s.heap.IsTuple a its.toArray := p
    have hl := rv.length
    have hh1 : X.A.in1.handled = none := I.ok.hd hc
    have hTy : s.TypeIs (.ref e) "enumerate" := ⟨_, he, rfl⟩
    unfold pyNext
    refine wpAny_bind (wpAny_attempt (wpAny_callSpecial?_slot (name := Str.ofString "__next__") hTy F.slot_enumerate_next
      (wpAny_call_entry F.slot_enumerate_next hTy F.entry_enumerate_next ?_ (F.args_enumerate_next_1 _))))
    show wpAny _ _ (field (.ref e) 2 >>= _) _ _ _
    refine wpAny_bind (wpAny_field he rfl (x := .ref it) rfl ?_)
    refine wpAny_bind (wpAny_nextOf_tuple_end hh1 hit hT0 (by simp; omega) fun h' x eb hx' => ?_)
    obtain ⟨o, ho, hc2⟩ := hx'
    refine wpAny_bind (wpAny_isInstance (T := "StopIteration") (b := true) ⟨o, ho, hc2⟩ isSubtype_stop ?_)
    exact wpAny_pure ⟨rfl, I.turned (t' := s.toks) (fun b o hb q => eb b o hb q) f0 f1 f3 f4 f5⟩
  self := fun A i s Q E st h => let ⟨⟨_, he⟩, _⟩ := st; wpAny_pyIter_enum he h
def iEnumA (K : PySem.W.Frag) (te : TE) : TI := fun σ H R => te σ H fun v H1 => ∃ a xs, v = .ref a ∧ ((SqL K H1 a xs ∧ R (Ite K a) H1) ∨ (SqT K H1 a xs ∧ R (IteT K a) H1))
theorem pi_enumA {X : Cx} {e : Expr} {te : TE} {p pos tpos : Pos} {elts : List Expr} {kk : Nat} (hg : Gl X "enumerate") (hm : X.mg "enumerate" = none) (he : PE X e te) (hs : starEach [e] X.env = (false, eval e X.env) :: starEach [] X.env) :
    PI X (.Tuple elts kk tpos) (.Call (.Name "enumerate" p) [e] [] pos) (iEnumA X.K te) := by
  refine ⟨fun pins s σ H R I h => ?_⟩
  refine Call_ (ld_blt I hg hm boot_enumerate (PyProof.Rows.callWith_type1 (args_cons (thn (he.run pins s σ H _ I h) fun u s1 ⟨v, H1, I1, r1, q1⟩ => args_nil ?_) hs) hs rfl))
  obtain ⟨a, xs, ex, q1⟩ := q1
  subst ex
  obtain rfl : u = Value.ref a := r1
  have fresh : ∀ b, b ∈ [s1.heap.objs.size + 1, s1.heap.objs.size] → FpOk X pins H1 b := fun b hb => by
    have e' : b = s1.heap.objs.size + 1 ∨ b = s1.heap.objs.size := by simpa using hb
    have hle : s1.heap.objs.size ≤ b := by
      rcases e' with z | z
      · rw [z]; exact Nat.le_add_right _ _
      · rw [z]; exact Nat.le_refl _
    exact I1.fpOk hle (I1.hok.fresh hle)
  rcases q1 with ⟨hq, q⟩ | ⟨hq, q⟩
  · obtain ⟨its, rv, p', hz⟩ := I1.list hq
    refine call_enumerate_list p'.isList fun h' he' hit hsz hk => wpAny_pyIter_enum he' ?_
    exact ⟨s1.heap.objs.size + 1, [s1.heap.objs.size + 1, s1.heap.objs.size], _, _, H1, rfl, I1.kept (t' := s1.toks) hk, turn_enum a (s1.heap.objs.size + 1) s1.heap.objs.size, ⟨⟨.none, he'⟩, hit, Nat.succ_ne_self _⟩, fresh, q⟩
  · obtain ⟨its, rv, p', hz⟩ := I1.tuple hq
    have hT0 : s1.heap.IsTuple a its.toArray := p'
    have hlt : a < s1.heap.objs.size := by obtain ⟨_, y, _⟩ := hT0; exact Heap.lt_size y
    refine py_enum_begins1 (begins_tuple a its.toArray) hT0 fun h' he' hit hsz hk => wpAny_pyIter_enum he' ?_
    exact ⟨s1.heap.objs.size + 1, [s1.heap.objs.size + 1, s1.heap.objs.size], _, _, H1, rfl, I1.kept (t' := s1.toks) hk, turn_enumT a (s1.heap.objs.size + 1) s1.heap.objs.size, ⟨⟨.none, he'⟩, ⟨_, hit, rfl, rfl⟩, Nat.succ_ne_self _, Nat.ne_of_lt hlt, Ne.symm (Nat.ne_of_lt (Nat.lt_succ_of_lt hlt))⟩, fresh, q⟩
end L2
namespace Py
open PySem PySem.Spec PyProof.Rows L2
section
variable {G : Gam} {c : Ct} {R : Exn → Fm → W → Prop} {sc : Scope} {k : Nat} {X : Cx} {pos : Pos}
theorem s_enum (ok : XOk G c R sc k X) {a : E} {x : Expr} {p tpos : Pos} {elts : List Expr} {kk : Nat} (hg : glB sc "enumerate" = true) (hs : isStar x = false) (ha : PE X x (tE G c R a)) : PI X (.Tuple elts kk tpos) (.Call (.Name "enumerate" p) [x] [] pos) (tI G c R (.enum a)) := by
  refine (pi_enumA (ok.gl _ hg) (ok.bltX (by decide)) ha (star_ok hs)).imp fun σ H Q ⟨env, w, Gh, Q', r, hw, q⟩ => ?_
  replace hw : wpE G R a env w fun d env w => match seqOf d with
    | some xs => Q' (enumD xs) env w
    | none => False := hw
  refine ⟨env, w, Gh, _, r, hw, fun v1 H1 d1 env1 w1 G1 r1 s1 p1 fr1 hw1 => ?_⟩
  cases p1 <;> first | exact hw1.elim | skip
  · rename_i a vs ds h1 rp
    refine ⟨a, vs, rfl, .inr ⟨.inl (.inl h1), q _ H1 _ env1 w1 G1 r1 s1 ?_ hw1⟩⟩
    exact itd_enum r1 rp (P := fun H' => H' a = some (.tup vs)) (fun s => s.stay r1 a _ h1 (.inr True.intro)) (fun H' i p hi => ⟨vs, vs[i], .inl (.inl p), List.getElem?_eq_getElem hi⟩) (fun H' p => ⟨vs, .inl (.inl p), Nat.le_refl _⟩)
      fun i H' x H'' p hi y => by
        obtain ⟨T, z, e1, e2, e3, e4⟩ := y
        exact ⟨T, z, e1, e2, e3, e4 vs (.inl (.inl p))⟩
  · rename_i a vs ds oa h1 rp
    refine ⟨a, vs, rfl, .inl ⟨.inl (.inl h1), q _ H1 _ env1 w1 G1 r1 s1 ?_ hw1⟩⟩
    exact itd_enum r1 rp (P := fun H' => H' a = some (.lst vs)) (fun s => s.fr a _ h1 oa.2.1 oa.2.2) (fun H' i p hi => ⟨vs, vs[i], .inl (.inl p), List.getElem?_eq_getElem hi⟩) (fun H' p => ⟨vs, .inl (.inl p), Nat.le_refl _⟩)
      fun i H' x H'' p hi y => by
        obtain ⟨T, z, e1, e2, e3, e4⟩ := y
        exact ⟨T, z, e1, e2, e3, e4 vs (.inl (.inl p))⟩
end
end Py

set_option Elab.async false
set_option linter.all false
set_option maxRecDepth 100000
set_option maxHeartbeats 4000000
/-! PyK: slots set and forgotten; targets; comprehensions. -/
namespace Py
open PySem PySem.Spec PyProof.Rows L2
theorem set_get {α : Type} {l : List α} {i j : Nat} {x y : α} (h : (l.set i x)[j]? = some y) : (i = j ∧ y = x ∧ i < l.length) ∨ (i ≠ j ∧ l[j]? = some y) := by
  by_cases e : i = j
  · subst e
    by_cases hl : i < l.length
    · rw [List.getElem?_set_self hl] at h
      cases h
      exact .inl ⟨rfl, rfl, hl⟩
    · rw [List.getElem?_eq_none (by rw [List.length_set]; omega)] at h
      cases h
  · rw [get_set_ne e] at h
    exact .inr ⟨e, h⟩
section
variable {c c' : Ct} {σ σ' : L2.St} {H H' H1 : Hp} {env env' : Fm} {w w' : W} {G G' : List Addr}
theorem own_setV {i : Nat} {s : Slot} {v : Option V} (hs : ∀ k, s ≠ .own k) {a : Addr} (h : Own (σ.set i v) (env.set i s) a) : Own σ env a := by
  obtain ⟨j, k, e1, e2⟩ := h
  rcases set_get e1 with ⟨e, e3, _⟩ | ⟨ne, e1⟩
  · exact absurd e3.symm (hs k)
  · rcases set_get e2 with ⟨e, _⟩ | ⟨_, e2⟩
    · exact absurd e ne
    · exact ⟨j, k, e1, e2⟩
/-- a slot gets a value, or nothing -/
theorem Rel.setV (r : Rel c σ H env w G) {i : Nat} {s : Slot} {v : Option V} (hi : ∀ x, c.B.sf = some x → i ≠ 0) (hs : ∀ k, s ≠ .own k) (hv : ∀ d, s = .val d → ∃ u, v = some u ∧ Rep c.m H (Okk c.O σ env G) G u d) :
    Rel c (σ.set i v) H (env.set i s) w G ∧ SStep σ env G H (σ.set i v) (env.set i s) G H := by
  have st : SStep σ env G H (σ.set i v) (env.set i s) G H := ⟨fun _ _ e _ _ => e, fun a _ h => own_setV hs h, ⟨[], (List.append_nil G).symm⟩, fun _ h => .inl h, fun _ h => h⟩
  have cell : ∀ b k', CellR c.m H (Okk c.O σ env G) G b k' → CellR c.m H (Okk c.O (σ.set i v) (env.set i s) G) G b k' := fun b k' q => q.go rfl (st.stay r) (st.okk fun a h => .inl h) st.gget
  refine ⟨⟨by rw [List.length_set, List.length_set]; exact r.len, fun j d q => ?_, fun j k' q => ?_, fun j j' k1 k2 b q1 q2 q3 q4 => ?_, r.wl, r.nd, fun n k' b q1 q2 => ?_, fun b o q1 q2 q3 => ?_, r.gx, r.gn, fun x h => ?_, r.ot, r.sx⟩, st⟩
  · rcases set_get q with ⟨e, e3, hl⟩ | ⟨ne, q⟩
    · subst e
      obtain ⟨u, e1, p⟩ := hv d e3.symm
      subst e1
      exact ⟨u, List.getElem?_set_self (by rw [← r.len]; exact hl), p.ss st (fun a h => .inl h) r⟩
    · obtain ⟨u, e1, p⟩ := r.val j d q
      exact ⟨u, by rw [get_set_ne ne]; exact e1, p.ss st (fun a h => .inl h) r⟩
  · rcases set_get q with ⟨e, e3, _⟩ | ⟨ne, q⟩
    · exact absurd e3.symm (hs k')
    · obtain ⟨b, q1, q2, q3⟩ := r.own j k' q
      exact ⟨b, by rw [get_set_ne ne]; exact q1, cell b k' q2, q3⟩
  · rcases set_get q1 with ⟨e, e3, _⟩ | ⟨n1, q1⟩
    · exact absurd e3.symm (hs k1)
    · rcases set_get q2 with ⟨e, e3, _⟩ | ⟨n2, q2⟩
      · exact absurd e3.symm (hs k2)
      · rw [get_set_ne n1] at q3
        rw [get_set_ne n2] at q4
        exact r.inj j j' k1 k2 b q1 q2 q3 q4
  · obtain ⟨q3, q4⟩ := r.st n k' b q1 q2
    exact ⟨cell b k' q3, q4⟩
  · obtain ⟨q4, q5⟩ := r.fr b o q1 q2 q3
    exact ⟨q4, fun z => q5 (own_setV hs z)⟩
  · rw [get_set_ne (hi x h)]
    exact r.sf x h
/-- a slot gets a list of its own -/
theorem Rel.setO (r : Rel c σ H1 env w G) {i : Nat} {a : Addr} {vs : List V} {xs : List D} (hi : ∀ x, c.B.sf = some x → i ≠ 0) (ha : H1 a = none) (p : Reps c.m H1 (Okk c.O σ env G) G vs xs) :
    Rel c (σ.set i (some (.ref a))) (upd H1 a (.lst vs)) (env.set i (.own (.lst xs))) w G ∧ SStep σ env G H1 (σ.set i (some (.ref a))) (env.set i (.own (.lst xs))) G (upd H1 a (.lst vs)) := by
  have own : ∀ b, Own (σ.set i (some (.ref a))) (env.set i (.own (.lst xs))) b → Own σ env b ∨ b = a := fun b ⟨j, k, e1, e2⟩ => by
    rcases set_get e1 with ⟨e, e3, hl⟩ | ⟨ne, e1⟩
    · subst e
      rw [List.getElem?_set_self (by rw [← r.len]; exact hl)] at e2
      cases e2
      exact .inr rfl
    · rw [get_set_ne ne] at e2
      exact .inl ⟨j, k, e1, e2⟩
  have st : SStep σ env G H1 (σ.set i (some (.ref a))) (env.set i (.own (.lst xs))) G (upd H1 a (.lst vs)) := by
    have s := step_new (σ := σ) (env := env) (G := G) (o := .lst vs) ha
    refine ⟨s.fr, fun b n h => ?_, s.gx, s.gn, s.tr⟩
    rcases own b h with z | z
    · exact z
    · subst z
      exact absurd ha n
  have na := r.notNew ha
  have cell : ∀ b k', CellR c.m H1 (Okk c.O σ env G) G b k' → CellR c.m (upd H1 a (.lst vs)) (Okk c.O (σ.set i (some (.ref a))) (env.set i (.own (.lst xs))) G) G b k' := fun b k' q => by
    obtain ⟨o, ho, _⟩ := q.at_
    exact q.go (upd_ne (ne_of_none ho ha)) (st.stay r) (st.okk fun a h => .inl h) st.gget
  refine ⟨⟨by rw [List.length_set, List.length_set]; exact r.len, fun j d q => ?_, fun j k' q => ?_, fun j j' k1 k2 b q1 q2 q3 q4 => ?_, r.wl, r.nd, fun n k' b q1 q2 => ?_, fun b o q1 q2 q3 => ?_, r.gx, r.gn, fun x h => ?_, fun b h => st.tr b (r.ot b h), fun x h => st.tr x (r.sx x h)⟩, st⟩
  · rcases set_get q with ⟨e, e3, hl⟩ | ⟨ne, q⟩
    · cases e3
    · obtain ⟨u, e1, p⟩ := r.val j d q
      exact ⟨u, by rw [get_set_ne ne]; exact e1, p.ss st (fun a h => .inl h) r⟩
  · rcases set_get q with ⟨e, e3, hl⟩ | ⟨ne, q⟩
    · subst e
      cases e3
      exact ⟨a, List.getElem?_set_self (by rw [← r.len]; exact hl), .lst upd_same (p.ss st (fun a h => .inl h) r), na.2, fun z => r.ot a z ha⟩
    · obtain ⟨b, q1, q2, q3⟩ := r.own j k' q
      exact ⟨b, by rw [get_set_ne ne]; exact q1, cell b k' q2, q3⟩
  · have noA : ∀ {j : Nat} {k : Cell}, env[j]? = some (.own k) → σ[j]? ≠ some (some (.ref a)) := fun {j k} z1 z2 => na.1 ⟨j, k, z1, z2⟩
    rcases set_get q1 with ⟨e, e3, h1⟩ | ⟨n1, q1⟩
    · subst e
      rw [List.getElem?_set_self (by rw [← r.len]; exact h1)] at q3
      cases q3
      rcases set_get q2 with ⟨e, e3, _⟩ | ⟨n2, q2⟩
      · exact e
      · rw [get_set_ne n2] at q4
        exact absurd q4 (noA q2)
    · rw [get_set_ne n1] at q3
      rcases set_get q2 with ⟨e, e3, h2⟩ | ⟨n2, q2⟩
      · subst e
        rw [List.getElem?_set_self (by rw [← r.len]; exact h2)] at q4
        cases q4
        exact absurd q3 (noA q1)
      · rw [get_set_ne n2] at q4
        exact r.inj j j' k1 k2 b q1 q2 q3 q4
  · obtain ⟨q3, q4⟩ := r.st n k' b q1 q2
    exact ⟨cell b k' q3, q4⟩
  · obtain ⟨q4, q5⟩ := r.fr b o q1 q2 q3
    refine ⟨by rw [upd_ne (ne_of_none q4 ha)]; exact q4, fun z => ?_⟩
    rcases own b z with z | z
    · exact q5 z
    · subst z
      rw [ha] at q4
      cases q4
  · rw [get_set_ne (hi x h)]
    exact r.sf x h
end

/-! ### targets -/
def setsV (σ : L2.St) : List Nat → List V → L2.St
  | i :: l, v :: vs => setsV (σ.set i (some v)) l vs
  | _, _ => σ
theorem setsD_fold : ∀ (l : List Nat) (ds : List D) (env : Fm), (l.zip ds).foldl (fun e p => e.set p.1 (.val p.2)) env = setsD env l ds
  | [], _, _ => by simp [setsD]
  | _ :: _, [], _ => rfl
  | i :: l, d :: ds, env => by
    show (l.zip ds).foldl _ (env.set i (.val d)) = _
    rw [setsD_fold l ds]
    rfl
theorem wipe_set {σ : L2.St} {i : Nat} {v : Option V} : ∀ {vs : List Nat}, i ∈ vs → wipe (σ.set i v) vs = wipe σ vs
  | j :: vs, h => by
    show (wipe (σ.set i v) vs).set j none = (wipe σ vs).set j none
    by_cases e : i ∈ vs
    · rw [wipe_set e]
    · have ij : i = j := (List.mem_cons.mp h).resolve_right e
      subst ij
      have key : ∀ (vs : List Nat) (σ : L2.St), i ∉ vs → wipe (σ.set i v) vs = (wipe σ vs).set i v := by
        intro vs
        induction vs with
        | nil => intro σ _; rfl
        | cons k vs ih =>
          intro σ h
          have h1 : i ≠ k := fun e => h (e ▸ List.mem_cons_self ..)
          have h2 : i ∉ vs := fun e => h (List.mem_cons_of_mem _ e)
          show (wipe (σ.set i v) vs).set k none = ((wipe σ vs).set k none).set i v
          rw [ih σ h2, List.set_comm _ _ h1]
      rw [key vs σ e, List.set_set]
theorem wipe_sets {vs : List Nat} : ∀ {l : List Nat} {us : List V} {σ : L2.St}, (∀ i, i ∈ l → i ∈ vs) → wipe (setsV σ l us) vs = wipe σ vs
  | [], _, _, _ => rfl
  | _ :: _, [], _, _ => rfl
  | i :: l, u :: us, σ, h => by
    show wipe (setsV (σ.set i (some u)) l us) vs = _
    rw [wipe_sets fun j hj => h j (List.mem_cons_of_mem _ hj), wipe_set (h i (List.mem_cons_self ..))]
def gT (K : PySem.W.Frag) (t : T) : TG := match t with
  | .n i => gName i
  | .t l => fun v σ H Q => ∃ a xs, v = .ref a ∧ (SqT K H a xs ∨ SqL K H a xs) ∧ xs.length = l.length ∧ Q (setsV σ l xs) H
def T.sl : T → List Nat
  | .n i => [i]
  | .t l => l
section
variable {G : Gam} {c : Ct} {R : Exn → Fm → W → Prop} {sc : Scope} {k : Nat} {X : Cx} {pos : Pos}
theorem s_tgs (ok : XOk G c R sc k X) : ∀ {l : List Nat} {es : List Expr}, chkNs G.N sc l es = true → PGs X es (fun vs σ H Q => vs.length = l.length ∧ Q (setsV σ l vs) H) ∧ (assignEach es X.env).length = l.length ∧ (assignEach es X.env).findIdx? (·.1) = none
  | [], [], _ => by
    refine ⟨⟨fun pins s σ H vs us Q I r h => pgs_nil.run pins s σ H vs us Q I r ?_⟩, rfl, rfl⟩
    obtain ⟨h1, h2⟩ := h
    cases vs with
    | nil => exact ⟨rfl, h2⟩
    | cons _ _ => cases h1
  | i :: l, .Name x p :: es, h => by
    have h1 := Bool.and_eq_true_iff.mp (show (nameIs G.N i x && locB sc x && chkNs G.N sc l es) = true from h)
    have h2 := Bool.and_eq_true_iff.mp h1.1
    obtain ⟨a1, a2, a3⟩ := s_tgs ok h1.2
    obtain ⟨l1, l2⟩ := ok.loc x h2.2
    refine ⟨⟨fun pins s σ H vs us Q I r hq => (pgs_cons (pg_name ok.ndX (ok.at_ h2.1) l1 l2) a1).run pins s σ H vs us Q I r ?_⟩, congrArg Nat.succ a2, ?_⟩
    · obtain ⟨q1, q2⟩ := hq
      cases vs with
      | nil => cases q1
      | cons v vs => exact ⟨v, vs, rfl, Nat.succ.inj q1, q2⟩
    · show List.findIdx? (·.1) ((false, _) :: assignEach es X.env) = none
      rw [List.findIdx?_cons, a3]
      rfl
theorem s_tg (ok : XOk G c R sc k X) {t : T} {e : Expr} (h : chkT G.N sc t e = true) : PG X e (gT X.K t) := by
  cases t with
  | n i =>
    cases e <;> try (cases h)
    rename_i x p
    have h2 := Bool.and_eq_true_iff.mp (show (nameIs G.N i x && locB sc x) = true from h)
    obtain ⟨l1, l2⟩ := ok.loc x h2.2
    exact pg_name ok.ndX (ok.at_ h2.1) l1 l2
  | t l =>
    cases e <;> try (cases h)
    obtain ⟨a1, a2, a3⟩ := s_tgs ok (show chkNs G.N sc l _ = true from h)
    refine ⟨fun pins s σ H v u Q I r hq => ?_⟩
    obtain ⟨a, xs, e1, e2 | e2, e3, e4⟩ := hq
    · exact (pg_tup ok.calm a1 a2 a3).run pins s σ H v u Q I r ⟨a, xs, e1, e2, e3, e3, e4⟩
    · exact (pg_lst ok.calm a1 a2 a3).run pins s σ H v u Q I r ⟨a, xs, e1, e2, e3, e3, e4⟩
end
section
variable {c c' : Ct} {σ σ' : L2.St} {H H' H1 : Hp} {env env' : Fm} {w w' : W} {G G' : List Addr}
theorem sf_of {Gm : Gam} {i : Nat} (hsf : ∀ x, c.B.sf = some x → Gm.self = true) (h : Gm.self = true → i ≠ 0) : ∀ x, c.B.sf = some x → i ≠ 0 := fun x e => h (hsf x e)
theorem Rel.setsV : ∀ {l : List Nat} {ds : List D} {vs : List V} {σ : L2.St} {env : Fm}, Rel c σ H env w G → (∀ x, c.B.sf = some x → 0 ∉ l) → Reps c.m H (Okk c.O σ env G) G vs ds →
    Rel c (setsV σ l vs) H (setsD env l ds) w G ∧ SStep σ env G H (Py.setsV σ l vs) (setsD env l ds) G H ∧ ∀ a, Own (Py.setsV σ l vs) (setsD env l ds) a → Own σ env a
  | [], _, _, _, _, r, _, _ => by
    simp only [Py.setsV, setsD]
    exact ⟨r, SStep.rfl', fun _ h => h⟩
  | i :: l, _, _, σ, env, r, hl, .nil => ⟨r, SStep.rfl', fun _ h => h⟩
  | i :: l, d :: ds, v :: vs, σ, env, r, hl, .cons p q => by
    obtain ⟨r1, s1⟩ := r.setV (i := i) (s := .val d) (v := some v) (fun x e z => hl x e (z ▸ List.mem_cons_self ..)) (by intro k z; cases z) fun d' e => by
      cases e
      exact ⟨v, rfl, p⟩
    obtain ⟨r2, s2, o2⟩ := Rel.setsV (l := l) r1 (fun x e z => hl x e (List.mem_cons_of_mem _ z)) (q.ss s1 (fun a h => .inl h) r)
    exact ⟨r2, s1.trans s2, fun a h => own_setV (s := .val d) (by intro k z; cases z) (o2 a h)⟩
/-- a target takes a value -/
theorem bind_ok {Gm : Gam} {K : PySem.W.Frag} {t : T} {v : V} {d : D} {Q' : Fm → Prop} {Q : L2.St → Hp → Prop} (hsf : ∀ x, c.B.sf = some x → Gm.self = true) (r : Rel c σ H env w G) (p : Rep c.m H (Okk c.O σ env G) G v d) (hb : bindT Gm t d env Q')
    (q : ∀ σ' env', Rel c σ' H env' w G → SStep σ env G H σ' env' G H → (∀ a, Own σ' env' a → Own σ env a) → (∀ vs : List Nat, (∀ i, i ∈ t.sl → i ∈ vs) → wipe σ' vs = wipe σ vs) → Q' env' → Q σ' H) : gT K t v σ H Q := by
  cases t with
  | n i =>
    obtain ⟨h1, h2⟩ := hb
    obtain ⟨r1, s1⟩ := r.setV (i := i) (s := .val d) (v := some v) (sf_of hsf h1) (by intro k z; cases z) fun d' e => by
      cases e
      exact ⟨v, rfl, p⟩
    exact q _ _ r1 s1 (fun a h => own_setV (s := .val d) (by intro k z; cases z) h) (fun vs h => wipe_set (h i (List.mem_cons_self ..))) h2
  | t l =>
    cases d <;> try (exact hb.elim)
    · rename_i ds
      obtain ⟨h1, h2, h3⟩ := hb
      cases p with
      | tup ha pr =>
        rename_i a vs
        obtain ⟨r1, s1, o1⟩ := Rel.setsV (l := l) r (fun x e => h2 (hsf x e)) pr
        rw [setsD_fold] at h3
        exact ⟨a, vs, rfl, .inl (.inl (.inl ha)), by rw [pr.length]; exact h1, q _ _ r1 s1 o1 (fun us h => wipe_sets h) h3⟩
    · rename_i ds
      obtain ⟨h1, h2, h3⟩ := hb
      cases p with
      | lst oa ha pr =>
        rename_i a vs
        obtain ⟨r1, s1, o1⟩ := Rel.setsV (l := l) r (fun x e => h2 (hsf x e)) pr
        rw [setsD_fold] at h3
        exact ⟨a, vs, rfl, .inr (.inl (.inl ha)), by rw [pr.length]; exact h1, q _ _ r1 s1 o1 (fun us h => wipe_sets h) h3⟩
end
end Py

set_option Elab.async false
set_option linter.all false
set_option maxRecDepth 100000
set_option maxHeartbeats 4000000
/-! PyL: comprehensions. -/
namespace L2
open PySem PySem.Spec PyProof.Rows
theorem PE.ex {X : Cx} {e : Expr} {ι : Sort _} {t : ι → TE} (h : ∀ i, PE X e (t i)) : PE X e (fun σ H Q => ∃ i, t i σ H Q) := ⟨fun pins s σ H Q I ⟨i, q⟩ => (h i).run pins s σ H Q I q⟩
theorem PTs.ex {X : Cx} {e : List Expr} {ι : Sort _} {t : ι → TT} (h : ∀ i, PTs X e (t i)) : PTs X e (fun σ H Q => ∃ i, t i σ H Q) := ⟨fun pins s σ H Q I ⟨i, q⟩ => (h i).run pins s σ H Q I q⟩
theorem PTs.imp {X : Cx} {e : List Expr} {t t' : TT} (h : PTs X e t) (k : ∀ σ H Q, t' σ H Q → t σ H Q) : PTs X e t' := ⟨fun pins s σ H Q I q => h.run pins s σ H Q I (k σ H Q q)⟩
theorem relS_free {sc : Scope} : ∀ {names : List (Str × NameKind)} {x : Str}, names.lookup x = some .free →
    (names.map fun (n, k) => if (k == NameKind.free && sc.kind == .function && sc.names.lookup n == some .cell) then (n, NameKind.cell) else (n, k)).lookup x = some .cell ∨
    (names.map fun (n, k) => if (k == NameKind.free && sc.kind == .function && sc.names.lookup n == some .cell) then (n, NameKind.cell) else (n, k)).lookup x = some .free
  | [], _, h => by simp at h
  | (n, k) :: r, x, h => by
    have ih := @relS_free sc r x
    cases hx : x == n with
    | true =>
      simp only [List.lookup_cons, hx] at h
      cases h
      by_cases hc : (NameKind.free == NameKind.free && sc.kind == .function && sc.names.lookup n == some .cell) = true
      · left
        simp only [List.map_cons, hc, if_true, List.lookup_cons, hx]
      · right
        simp only [List.map_cons, hc, List.lookup_cons, hx, Bool.false_eq_true, if_false]
    | false =>
      simp only [List.lookup_cons, hx] at h
      have ih := ih h
      by_cases hc : (k == NameKind.free && sc.kind == .function && sc.names.lookup n == some .cell) = true
      · simp only [List.map_cons, hc, if_true, List.lookup_cons, hx]
        exact ih
      · simp only [List.map_cons, hc, Bool.false_eq_true, if_false, List.lookup_cons, hx]
        exact ih
end L2
namespace Py
open PySem PySem.Spec PyProof.Rows L2
section
variable {G : Gam} {c : Ct} {R : Exn → Fm → W → Prop} {sc : Scope} {k : Nat} {X : Cx} {pos : Pos}
theorem vis_cases {sc : Scope} {x : Str} (h : visB sc x = true) : sc.names.lookup x = some .local ∨ sc.names.lookup x = some .cell ∨ sc.names.lookup x = some .free := by
  unfold visB at h
  split at h
  · exact .inl (by assumption)
  · exact .inr (.inl (by assumption))
  · exact .inr (.inr (by assumption))
  · cases h
theorem loc_cases {sc : Scope} {x : Str} (h : locB sc x = true) : sc.names.lookup x = some .local ∨ sc.names.lookup x = some .cell := by
  unfold locB at h
  split at h
  · exact .inl (by assumption)
  · exact .inr (by assumption)
  · cases h
theorem XOk.blkOk (ok : XOk G c R sc k X) {scope : Scope} {own : List (Str × Nat)} (h : blkC G.N sc scope own = true) : BlkOk X.N X.env.scope scope own := by
  have b := blkOk_by h
  rw [ok.N]
  exact ⟨b.kind, b.uniq, b.ix, fun y hy e => ok.cap y.1 (b.free y hy e), b.own⟩
/-- in a comprehension's block -/
theorem XOk.blk (ok : XOk G c R sc k X) {c' : Ct} (hm : c'.m = c.m) (hB : c'.B = c.B) (s : Shared) (H : Hp) (C : Addr) (cl : List (Str × Addr)) (fp : List Addr) (scope : Scope) : XOk G c' noR scope k (X.blk s H scope (compEnvC scope cl C X.env) fp) where
  N := ok.N
  nd := ok.nd
  mg := by rw [hm]; exact ok.mg
  K := by rw [hm]; exact ok.K
  calm := ok.calm
  room := ok.room
  vis := fun x h => by
    rcases vis_cases h with e | e | e
    · exact .inl (lookup_relS_keep (by intro z; cases z) e)
    · exact .inr (.inl (lookup_relS_keep (by intro z; cases z) e))
    · exact .inr (relS_free e)
  loc := fun x h => by
    rcases loc_cases h with e | e
    · exact ⟨.inl (lookup_relS_keep (by intro z; cases z) e), .inr (lookup_relS_keep (by intro z; cases z) e)⟩
    · refine ⟨.inr (lookup_relS_keep (by intro z; cases z) e), .inl ?_⟩
      show (scope.names.lookup x == some .cell) = true
      rw [e]
      rfl
  gl := fun x h => lookup_relS_keep (by intro z; cases z) (of_decide_eq_true h)
  cap := fun x h => by
    rcases h with e | e
    · exact .inl (lookup_relS_keep (by intro z; cases z) e)
    · exact relS_free e
  sf := by rw [hB]; exact ok.sf
  fl := by rw [hm]; exact ok.fl
  fns := by rw [hm]; exact ok.fns
  cls := by rw [hm]; exact ok.cls
  gis := by rw [hm]; exact ok.gis
  blt := by rw [hm]; exact ok.blt
  eqs := by rw [hm]; exact ok.eqs
  tk := takes0.imp fun cls d σ H z => by
    obtain ⟨x, env, w, Gh, _, _, z⟩ := z
    exact z
end

section
variable {c c' : Ct} {σ σ' : L2.St} {H H' H1 : Hp} {env env' o : Fm} {w w' : W} {G G' G1 : List Addr}
/-- what is kept apart is nobody's -/
theorem Rel.apart (r : Rel c σ H env w G) {a : Addr} (h : c.O a) : ¬ Own σ env a ∧ a ∉ G := by
  refine ⟨fun ⟨i, k, e1, e2⟩ => ?_, fun z => ?_⟩
  · obtain ⟨b, e3, _, _, n⟩ := r.own i k e1
    rw [e2] at e3
    cases e3
    exact n h
  · obtain ⟨n, hn⟩ := List.getElem?_of_mem z
    have hl : n < w.length := by
      rw [r.wl]
      exact (List.getElem?_eq_some_iff.mp hn).1
    exact (r.st n w[n] a (List.getElem?_eq_getElem hl) hn).2 h
theorem wipe_get {σ : L2.St} : ∀ {vs : List Nat} {j : Nat}, j ∉ vs → (wipe σ vs)[j]? = σ[j]?
  | [], _, _ => rfl
  | v :: vs, j, h => by
    show ((wipe σ vs).set v none)[j]? = _
    rw [get_set_ne (fun e => h (by rw [e]; exact List.mem_cons_self ..) : v ≠ j)]
    exact wipe_get fun z => h (List.mem_cons_of_mem _ z)
theorem wipeE_get {env : Fm} : ∀ {vs : List Nat} {j : Nat}, j ∉ vs → (wipeE env vs)[j]? = env[j]?
  | [], _, _ => rfl
  | v :: vs, j, h => by
    show ((wipeE env vs).set v .none)[j]? = _
    rw [get_set_ne (fun e => h (by rw [e]; exact List.mem_cons_self ..) : v ≠ j)]
    exact wipeE_get fun z => h (List.mem_cons_of_mem _ z)
theorem wipe_wipe {σ : L2.St} {vs : List Nat} : wipe (wipe σ vs) vs = wipe σ vs := by
  apply List.ext_getElem?
  intro j
  by_cases h : j ∈ vs
  · have key : ∀ (σ : L2.St) (vs : List Nat), j ∈ vs → (wipe σ vs)[j]? = if j < σ.length then some none else none := by
      intro σ vs
      induction vs with
      | nil => intro h; cases h
      | cons v vs ih =>
        intro h
        show ((wipe σ vs).set v none)[j]? = _
        by_cases e : v = j
        · subst e
          by_cases hl : v < σ.length
          · rw [if_pos hl, List.getElem?_set_self (by rw [wipe_length]; exact hl)]
          · rw [if_neg hl, List.getElem?_eq_none (by rw [List.length_set, wipe_length]; omega)]
        · rw [get_set_ne e]
          exact ih ((List.mem_cons.mp h).resolve_left fun z => e z.symm)
    rw [key _ _ h, key _ _ h, wipe_length]
  · rw [wipe_get h]
/-- slots forgotten -/
theorem Rel.wipes (r : Rel c σ H env w G) : ∀ {vs : List Nat}, (∀ x, c.B.sf = some x → 0 ∉ vs) → Rel c (wipe σ vs) H (wipeE env vs) w G ∧ SStep σ env G H (wipe σ vs) (wipeE env vs) G H ∧ ∀ a, Own (wipe σ vs) (wipeE env vs) a → Own σ env a
  | [], _ => ⟨r, SStep.rfl', fun _ h => h⟩
  | v :: vs, h => by
    obtain ⟨r1, s1, o1⟩ := Rel.wipes r (vs := vs) fun x e z => h x e (List.mem_cons_of_mem _ z)
    obtain ⟨r2, s2⟩ := r1.setV (i := v) (s := .none) (v := none) (fun x e z => h x e (z ▸ List.mem_cons_self ..)) (by intro k z; cases z) (by intro d z; cases z)
    exact ⟨r2, s1.trans s2, fun a z => o1 a (own_setV (by intro k z; cases z) z)⟩
theorem Rel.shares : ∀ (vs : List Nat) {env : Fm}, Rel c σ H env w G → Rel c σ H (shareE env vs) w G ∧ Step σ env G H (shareE env vs) G H
  | [], _, r => ⟨r, Step.rfl'⟩
  | v :: vs, env, r => by
    obtain ⟨r1, s1⟩ := r.share v
    obtain ⟨r2, s2⟩ := Rel.shares vs r1
    exact ⟨r2, s1.trans s2⟩
theorem shareS_val {i j : Nat} {k : Cell} (h : (shareS env i)[j]? = some (.own k)) : i ≠ j ∧ env[j]? = some (.own k) := by
  unfold shareS at h
  cases e : env[i]? with
  | none =>
    simp only [e] at h
    exact ⟨(fun z => by subst z; rw [e] at h; cases h), h⟩
  | some s =>
    cases s with
    | none =>
      simp only [e] at h
      exact ⟨(fun z => by subst z; rw [e] at h; cases h), h⟩
    | val d =>
      simp only [e] at h
      exact ⟨(fun z => by subst z; rw [e] at h; cases h), h⟩
    | own k' =>
      simp only [e] at h
      rcases set_get h with ⟨_, e3, _⟩ | ⟨n, h⟩
      · cases e3
      · exact ⟨n, h⟩
theorem shareE_val : ∀ {vs : List Nat} {env : Fm} {j : Nat} {k : Cell}, (shareE env vs)[j]? = some (.own k) → j ∉ vs ∧ env[j]? = some (.own k)
  | [], _, _, _, h => ⟨by simp, h⟩
  | v :: vs, env, j, k, h => by
    obtain ⟨h1, h2⟩ := shareE_val (vs := vs) (env := shareS env v) h
    obtain ⟨h3, h4⟩ := shareS_val h2
    exact ⟨fun z => (List.mem_cons.mp z).elim (fun e => h3 e.symm) h1, h4⟩
theorem backE_get {o env : Fm} : ∀ {vs : List Nat} {j : Nat}, j ∉ vs → (backE o env vs)[j]? = env[j]?
  | [], _, _ => rfl
  | v :: vs, j, h => by
    show ((backE o env vs).set v _)[j]? = _
    rw [get_set_ne (fun e => h (by rw [e]; exact List.mem_cons_self ..) : v ≠ j)]
    exact backE_get fun z => h (List.mem_cons_of_mem _ z)
theorem backE_len {o env : Fm} : ∀ {vs : List Nat}, (backE o env vs).length = env.length
  | [] => rfl
  | v :: vs => by
    show ((backE o env vs).set v _).length = _
    rw [List.length_set, backE_len]
theorem backE_in {o env : Fm} {j : Nat} {s : Slot} : ∀ {vs : List Nat}, j ∈ vs → (backE o env vs)[j]? = some s → s = o.getD j .none
  | v :: vs, h, e => by
    rcases set_get (show ((backE o env vs).set v (o.getD v .none))[j]? = some s from e) with ⟨e1, e2, _⟩ | ⟨n, e⟩
    · subst e1
      exact e2
    · exact backE_in ((List.mem_cons.mp h).resolve_left fun z => n z.symm) e
/-- back from a block: its names are what they were; D, which was kept apart, is known again, or gone -/
theorem Rel.backs {vs : List Nat} {w1 : W} {D : Addr} {acc : List V} (r0 : Rel c σ H1 o w1 G1) (hn : ∀ j k, j ∈ vs → o[j]? ≠ some (.own k)) (hD1 : H1 D = none) (hD : H D = some (.lst acc)) (r : Rel ⟨c.m, fun a => c.O a ∨ a = D, c.B⟩ (wipe σ vs) H env w G)
    (s : SStep σ o G1 H1 (wipe σ vs) env G H) (so : ∀ a, Own (wipe σ vs) env a → Own σ o a) (K : Hp) (hK : ∀ a u, H a = some u → a ≠ D → K a = some u) :
    Rel c σ K (backE o env vs) w G ∧ (∀ {v : List V} {d : List Py.D}, Reps c.m H (Okk (fun a => c.O a ∨ a = D) (wipe σ vs) env G) G v d → Reps c.m K (Okk c.O σ (backE o env vs) G) G v d) ∧ ∀ a, Own σ (backE o env vs) a → Own σ o a := by
  have own : ∀ a, Own σ (backE o env vs) a ↔ Own (wipe σ vs) env a := fun a => by
    constructor
    · rintro ⟨j, k, e1, e2⟩
      by_cases hj : j ∈ vs
      · have := backE_in hj e1
        cases e : o[j]? with
        | none => rw [List.getD_eq_getElem?_getD, e] at this; cases this
        | some s2 =>
          rw [List.getD_eq_getElem?_getD, e] at this
          have this : Slot.own k = s2 := this
          subst this
          exact absurd e (hn j k hj)
      · rw [backE_get hj] at e1
        exact ⟨j, k, e1, by rw [wipe_get hj]; exact e2⟩
    · rintro ⟨j, k, e1, e2⟩
      obtain ⟨e2, hj⟩ := wipe_some e2
      exact ⟨j, k, by rw [backE_get hj]; exact e1, e2⟩
  have nD : ¬ Own (wipe σ vs) env D ∧ D ∉ G := r.apart (.inr rfl)
  have hok : ∀ a, Okk (fun a => c.O a ∨ a = D) (wipe σ vs) env G a → Okk c.O σ (backE o env vs) G a := fun a h => ⟨fun z => h.1 (.inl z), fun z => h.2.1 ((own a).mp z), h.2.2⟩
  have st : ∀ a u, H a = some u → (Okk (fun a => c.O a ∨ a = D) (wipe σ vs) env G a ∨ Imm u) → K a = some u := fun a u e h => hK a u e fun z => by
    subst z
    rcases h with h | h
    · exact h.1 (.inr rfl)
    · rw [hD] at e
      cases e
      exact h
  have rep : ∀ {v : V} {d : Py.D}, Rep c.m H (Okk (fun a => c.O a ∨ a = D) (wipe σ vs) env G) G v d → Rep c.m K (Okk c.O σ (backE o env vs) G) G v d := fun h => h.go st (fun a _ h _ => hok a h) fun _ _ e => e
  have rep0 : ∀ {v : V} {d : Py.D}, Rep c.m H1 (Okk c.O σ o G1) G1 v d → Rep c.m K (Okk c.O σ (backE o env vs) G) G v d := fun {v d} h => by
    refine h.go (fun a u e z => hK a u (s.stay r0 a u e z) (ne_of_none e hD1)) (fun a u z e => ?_) s.gget
    exact ⟨z.1, fun y => z.2.1 (so a ((own a).mp y)), fun y => (s.gn a y).elim z.2.2 fun n => by rw [e] at n; cases n⟩
  have cell : ∀ b k', b ≠ D → CellR c.m H (Okk (fun a => c.O a ∨ a = D) (wipe σ vs) env G) G b k' → CellR c.m K (Okk c.O σ (backE o env vs) G) G b k' := fun b k' hb q => by
    obtain ⟨u, hu, _⟩ := q.at_
    exact q.go (by rw [hu]; exact hK b u hu hb) st (fun a _ h _ => hok a h) fun _ _ e => e
  refine ⟨⟨?_, fun j d q => ?_, fun j k' q => ?_, fun j j' k1 k2 b q1 q2 q3 q4 => ?_, r.wl, r.nd, fun n k' b q1 q2 => ?_, fun b u q1 q2 q3 => ?_, r.gx, r.gn, r0.sf, fun a h => ?_, fun x h => ?_⟩, fun h => h.go st (fun a _ h _ => hok a h) fun _ _ e => e, fun a h => so a ((own a).mp h)⟩
  · rw [backE_len, r.len, wipe_length]
  · by_cases hj : j ∈ vs
    · have := backE_in hj q
      cases e : o[j]? with
      | none => rw [List.getD_eq_getElem?_getD, e] at this; cases this
      | some s2 =>
        rw [List.getD_eq_getElem?_getD, e] at this
        have this : Slot.val d = s2 := this
        subst this
        obtain ⟨v, e1, p⟩ := r0.val j d e
        exact ⟨v, e1, rep0 p⟩
    · rw [backE_get hj] at q
      obtain ⟨v, e1, p⟩ := r.val j d q
      rw [wipe_get hj] at e1
      exact ⟨v, e1, rep p⟩
  · by_cases hj : j ∈ vs
    · have := backE_in hj q
      cases e : o[j]? with
      | none => rw [List.getD_eq_getElem?_getD, e] at this; cases this
      | some s2 =>
        rw [List.getD_eq_getElem?_getD, e] at this
        have this : Slot.own k' = s2 := this
        subst this
        exact absurd e (hn j k' hj)
    · rw [backE_get hj] at q
      obtain ⟨a, e1, p, n1, n2⟩ := r.own j k' q
      rw [wipe_get hj] at e1
      exact ⟨a, e1, cell a k' (fun z => n2 (.inr z)) p, n1, fun z => n2 (.inl z)⟩
  · have f : ∀ {j : Nat} {k : Cell}, (backE o env vs)[j]? = some (.own k) → j ∉ vs ∧ env[j]? = some (.own k) := fun {j k} z => by
      by_cases hj : j ∈ vs
      · have := backE_in hj z
        cases e : o[j]? with
        | none => rw [List.getD_eq_getElem?_getD, e] at this; cases this
        | some s2 =>
          rw [List.getD_eq_getElem?_getD, e] at this
          have this : Slot.own k = s2 := this
          subst this
          exact absurd e (hn j k hj)
      · exact ⟨hj, by rw [← backE_get (o := o) hj]; exact z⟩
    obtain ⟨n1, q1⟩ := f q1
    obtain ⟨n2, q2⟩ := f q2
    exact r.inj j j' k1 k2 b q1 q2 (by rw [wipe_get n1]; exact q3) (by rw [wipe_get n2]; exact q4)
  · obtain ⟨q3, q4⟩ := r.st n k' b q1 q2
    exact ⟨cell b k' (fun z => q4 (.inr z)) q3, fun z => q4 (.inl z)⟩
  · obtain ⟨q4, q5⟩ := r.fr b u q1 q2 q3
    obtain ⟨q6, _⟩ := r0.fr b u q1 q2 q3
    exact ⟨hK b u q4 (ne_of_none q6 hD1), fun z => q5 ((own b).mp z)⟩
  · have h1 := r0.ot a h
    have h2 : H a ≠ none := r.ot a (.inl h)
    cases e : H a with
    | none => exact absurd e h2
    | some u =>
      rw [hK a u e fun z => h1 (z ▸ hD1)]
      intro z
      cases z
  · have h1 := r0.sx x h
    have h2 : H x ≠ none := r.sx x h
    cases e : H x with
    | none => exact absurd e h2
    | some u =>
      rw [hK x u e fun z => h1 (z ▸ hD1)]
      intro z
      cases z
/-- what is kept apart may be written -/
theorem Rel.updO (r : Rel c σ H env w G) {a : Addr} {u : HO} {x : HO} (h : c.O a) (hu : H a = some u) (hi : ¬ Imm u) (hB : c.B.H0 a = none) : Rel c σ (upd H a x) env w G ∧ ∀ {v : List V} {d : List D}, Reps c.m H (Okk c.O σ env G) G v d → Reps c.m (upd H a x) (Okk c.O σ env G) G v d := by
  have na := r.apart h
  have st : ∀ b u, H b = some u → (Okk c.O σ env G b ∨ Imm u) → upd H a x b = some u := fun b u' e z => by
    rw [upd_ne]
    · exact e
    · intro q
      subst q
      rcases z with z | z
      · exact z.1 h
      · rw [hu] at e
        cases e
        exact hi z
  have tr : ∀ b, H b ≠ none → upd H a x b ≠ none := fun b hb => by
    by_cases q : b = a
    · subst q
      rw [upd_same]
      intro z
      cases z
    · rw [upd_ne q]
      exact hb
  have cell : ∀ b k', b ≠ a → CellR c.m H (Okk c.O σ env G) G b k' → CellR c.m (upd H a x) (Okk c.O σ env G) G b k' := fun b k' hb q => q.go (upd_ne hb) st (fun _ _ h _ => h) fun _ _ e => e
  refine ⟨⟨r.len, fun j d q => ?_, fun j k' q => ?_, r.inj, r.wl, r.nd, fun n k' b q1 q2 => ?_, fun b o q1 q2 q3 => ?_, r.gx, r.gn, r.sf, fun b z => tr b (r.ot b z), fun y z => tr y (r.sx y z)⟩, fun q => q.go st (fun _ _ h _ => h) fun _ _ e => e⟩
  · obtain ⟨v, e1, p⟩ := r.val j d q
    exact ⟨v, e1, p.go st (fun _ _ h _ => h) fun _ _ e => e⟩
  · obtain ⟨b, e1, p, n1, n2⟩ := r.own j k' q
    exact ⟨b, e1, cell b k' (fun z => n2 (z ▸ h)) p, n1, n2⟩
  · obtain ⟨q3, q4⟩ := r.st n k' b q1 q2
    exact ⟨cell b k' (fun z => q4 (z ▸ h)) q3, q4⟩
  · obtain ⟨q4, q5⟩ := r.fr b o q1 q2 q3
    refine ⟨?_, q5⟩
    rw [upd_ne fun z => by subst z; rw [hB] at q1; cases q1]
    exact q4
end
end Py

set_option Elab.async false
set_option linter.all false
set_option maxRecDepth 100000
set_option maxHeartbeats 4000000
/-! PyM: comprehensions by plain data. -/
namespace Py
open PySem PySem.Spec PyProof.Rows L2
section
variable {G : Gam} {c : Ct} {R : Exn → Fm → W → Prop} {sc : Scope} {k : Nat} {X : Cx} {pos : Pos}
def tIfs (G : Gam) (c : Ct) (ifs : Es) : TT := fun σ H Q => ∃ env w Gh Q', Rel c σ H env w Gh ∧ wpIfs G noR ifs env w Q' ∧
  ∀ b H' env' w' Gh', Rel c σ H' env' w' Gh' → Step σ env Gh H env' Gh' H' → Q' b env' w' → Q b H'
theorem s_ifs_nil : PTs X [] (tIfs G c .nil) := pts_nil.imp fun σ H Q ⟨env, w, Gh, Q', r, hw, q⟩ => q true H env w Gh r Step.rfl' hw
theorem s_ifs_one {a : E} {x : Expr} (h : PT X x (tC' G c noR a)) : PTs X [x] (tIfs G c (.cons a .nil)) := pts_one h
theorem Rel.h0new {σ : L2.St} {H : Hp} {env : Fm} {w : W} {G : List Addr} (r : Rel c σ H env w G) {p : Addr} (hp : H p = none) : c.B.H0 p = none := by
  cases e : c.B.H0 p with
  | none => rfl
  | some u =>
    have h1 : p ∉ c.B.G0 := fun z => by
      obtain ⟨l, hl⟩ := r.gx
      exact (r.notNew hp).2 (by rw [hl]; exact List.mem_append_left _ z)
    have h2 : c.B.sf ≠ some p := fun z => r.sx p z hp
    have := (r.fr p u e h1 h2).1
    rw [hp] at this
    cases this
/-- the moment, with one more place kept apart -/
theorem Rel.keep {σ : L2.St} {H : Hp} {env : Fm} {w : W} {G : List Addr} (r : Rel c σ H env w G) {p : Addr} {o : HO} (hp : H p = none) : Rel ⟨c.m, fun a => c.O a ∨ a = p, c.B⟩ σ (upd H p o) env w G := by
  have n := r.notNew hp
  have st : ∀ b u, H b = some u → (Okk c.O σ env G b ∨ Imm u) → upd H p o b = some u := fun b u e _ => by
    rw [upd_ne (ne_of_none e hp)]
    exact e
  have hok : ∀ b u, Okk c.O σ env G b → H b = some u → Okk (fun a => c.O a ∨ a = p) σ env G b := fun b u h e => ⟨fun z => z.elim h.1 fun z => ne_of_none e hp z, h.2.1, h.2.2⟩
  have tr : ∀ b, H b ≠ none → upd H p o b ≠ none := fun b hb => by
    by_cases q : b = p
    · subst q
      exact absurd hp hb
    · rw [upd_ne q]
      exact hb
  have cell : ∀ b k', CellR c.m H (Okk c.O σ env G) G b k' → CellR c.m (upd H p o) (Okk (fun a => c.O a ∨ a = p) σ env G) G b k' := fun b k' q => by
    obtain ⟨u, hu, _⟩ := q.at_
    exact q.go (upd_ne (ne_of_none hu hp)) st hok fun _ _ e => e
  refine ⟨r.len, fun j d q => ?_, fun j k' q => ?_, r.inj, r.wl, r.nd, fun n k' b q1 q2 => ?_, fun b u q1 q2 q3 => ?_, r.gx, r.gn, r.sf, fun b z => ?_, fun y z => tr y (r.sx y z)⟩
  · obtain ⟨v, e1, h⟩ := r.val j d q
    exact ⟨v, e1, h.go st hok fun _ _ e => e⟩
  · obtain ⟨b, e1, h, n1, n2⟩ := r.own j k' q
    refine ⟨b, e1, cell b k' h, n1, fun z => z.elim n2 fun z => ?_⟩
    subst z
    exact n.1 ⟨j, k', q, e1⟩
  · obtain ⟨q3, q4⟩ := r.st n k' b q1 q2
    refine ⟨cell b k' q3, fun z => z.elim q4 fun z => ?_⟩
    obtain ⟨u, hu, _⟩ := q3.at_
    exact ne_of_none hu hp z
  · obtain ⟨q4, q5⟩ := r.fr b u q1 q2 q3
    exact ⟨by rw [upd_ne (ne_of_none q4 hp)]; exact q4, q5⟩
  · rcases z with z | z
    · exact tr b (r.ot b z)
    · subst z
      rw [upd_same]
      intro z
      cases z
theorem wipe_of_mem {σ σ' : L2.St} {vs : List Nat} (h : wipe σ' vs = wipe (wipe σ vs) vs) : wipe σ' vs = wipe σ vs := h.trans wipe_wipe
/-- the comprehension's reading -/
theorem lc_ok (hsf : ∀ x, c.B.sf = some x → G.self = true) {K : PySem.W.Frag} {elt : E} {tg : T} {it : I} {ifs : Es} {vs : List Nat} (hvs : ∀ i, i ∈ tg.sl → i ∈ vs) (hself : G.self = true → 0 ∉ vs) {σ : L2.St} {H : Hp} {Q : VK} {env : Fm} {w : W} {Gh : List Addr} {Q' : D → Fm → W → Prop}
    (r : Rel c σ H env w Gh) (hw : doComp G tg (wpI G R it) (wpIfs G noR ifs) (wpE G noR elt) vs env w Q')
    (q : ∀ v H' d env' w' Gh', Rel c σ H' env' w' Gh' → Step σ env Gh H env' Gh' H' → Rep c.m H' (Okk c.O σ env' Gh') Gh' v d → ((∃ xs, d = .lst xs) → FreshL c σ H H' env' w' Gh' v d) → Q' d env' w' → Q v H') :
    tLc (tI G c R it) (gT K tg) (fun σ H Q => ∃ O, tIfs G ⟨c.m, O, c.B⟩ ifs σ H Q) (fun σ H Q => ∃ O, tE G ⟨c.m, O, c.B⟩ noR elt σ H Q) vs σ H Q := by
  refine ⟨env, w, Gh, _, r, hw, fun J H1 ds env1 w1 G1 r1 s1 id1 hw1 D0 hD0 => ?_⟩
  rw [shareK_eq, frc_eq] at hw1
  simp only [frc_eq] at hw1
  obtain ⟨ro, so⟩ := Rel.shares vs r1
  obtain ⟨rw0, sw0, ow0⟩ := ro.wipes (vs := vs) fun x e => hself (hsf x e)
  -- at each turn
  refine ⟨fun i m H5 => m = ds.length - i ∧ i ≤ ds.length ∧ ∃ env5 w5 G5 acc vacc, Rel ⟨c.m, fun a => c.O a ∨ a = D0, c.B⟩ (wipe σ vs) H5 env5 w5 G5 ∧ SStep σ (shareE env1 vs) G1 H1 (wipe σ vs) env5 G5 H5 ∧
      (∀ a, Own (wipe σ vs) env5 a → Own σ (shareE env1 vs) a) ∧ H5 D0 = some (.lst vacc) ∧ Reps c.m H5 (Okk (fun a => c.O a ∨ a = D0) (wipe σ vs) env5 G5) G5 vacc acc ∧
      compL (fun d env w nx => bindT G tg d env fun env => wpIfs G noR ifs env w fun b env w => if b = true then wpE G noR elt env w fun y env w => nx (some y) (wipeE env vs) w else nx none (wipeE env vs) w)
        (ds.drop i) acc env5 w5 (fun acc env' w => Q' (.lst acc) (backE (shareE env1 vs) env' vs) w), ⟨_, rfl, Nat.zero_le _, ?_⟩, ?_⟩
  · refine ⟨wipeE (shareE env1 vs) vs, w1, G1, [], [], rw0.keep hD0, ?_, ow0, upd_same, .nil, hw1⟩
    have s2 := step_new (σ := wipe σ vs) (env := wipeE (shareE env1 vs) vs) (G := G1) (o := .lst []) hD0
    exact sw0.trans s2.ss
  · rintro i m H5 ⟨rfl, hi, env5, w5, G5, acc, vacc, r5, s5, o5, hD5, pr5, hc5⟩
    by_cases hlt : i < ds.length
    · refine .inr ⟨id1.go ⟨c.m, fun a => c.O a ∨ a = D0, c.B⟩ _ _ _ _ _ rfl (fun a z => z.imp_right fun z => by rw [z]; exact hD0) r5 (so.ss.trans s5) i hlt, fun H6 => ∃ m', m' = ds.length - (i + 1) ∧ i + 1 ≤ ds.length ∧ ∃ env5 w5 G5 acc vacc, Rel ⟨c.m, fun a => c.O a ∨ a = D0, c.B⟩ (wipe σ vs) H6 env5 w5 G5 ∧ SStep σ (shareE env1 vs) G1 H1 (wipe σ vs) env5 G5 H6 ∧
          (∀ a, Own (wipe σ vs) env5 a → Own σ (shareE env1 vs) a) ∧ H6 D0 = some (.lst vacc) ∧ Reps c.m H6 (Okk (fun a => c.O a ∨ a = D0) (wipe σ vs) env5 G5) G5 vacc acc ∧
          compL (fun d env w nx => bindT G tg d env fun env => wpIfs G noR ifs env w fun b env w => if b = true then wpE G noR elt env w fun y env w => nx (some y) (wipeE env vs) w else nx none (wipeE env vs) w)
            (ds.drop (i + 1)) acc env5 w5 (fun acc env' w => Q' (.lst acc) (backE (shareE env1 vs) env' vs) w), fun H6 ⟨m', e, h⟩ => ⟨m', by omega, e, h⟩, fun x H6 hy => ?_⟩
      obtain ⟨d, hd, r6, s6, p6⟩ := id1.yld ⟨c.m, fun a => c.O a ∨ a = D0, c.B⟩ _ _ _ _ _ rfl (fun a z => z.imp_right fun z => by rw [z]; exact hD0) r5 (so.ss.trans s5) i x H6 hlt hy
      have ed : ds.drop i = d :: ds.drop (i + 1) := by
        rw [List.drop_eq_getElem_cons hlt]
        congr 1
        rw [List.getElem?_eq_getElem hlt] at hd
        exact Option.some.inj hd
      rw [ed, compL] at hc5
      have nD5 := r5.apart (a := D0) (.inr rfl)
      have hD6 : H6 D0 = some (.lst vacc) := s6.fr D0 _ hD5 nD5.1 nD5.2
      have pr6 := pr5.step s6 r5
      refine bind_ok (c := ⟨c.m, fun a => c.O a ∨ a = D0, c.B⟩) hsf r6 p6 hc5 fun σ7 env7 r7 s7 o7 hwp hc7 => ⟨wipe_of_mem (hwp vs hvs), ?_⟩
      have pr7 := pr6.ss s7 (fun a h => .inl h) r6
      refine ⟨_, env7, w5, G5, _, r7, hc7, fun b H8 env8 w8 G8 r8 s8 hc8 => ?_⟩
      have nD7 := r7.apart (a := D0) (.inr rfl)
      have hD8 : H8 D0 = some (.lst vacc) := s8.fr D0 _ hD6 nD7.1 nD7.2
      have pr8 := pr7.step s8 r7
      have s58 := (s5.trans s6.ss).trans (s7.trans s8.ss)
      have o8 : ∀ a, Own σ7 env8 a → Own σ (shareE env1 vs) a := fun a h => o5 a (s6.own a (o7 a (s8.own a h)))
      have ew : wipe σ7 vs = wipe σ vs := wipe_of_mem (hwp vs hvs)
      cases b with
      | false =>
        obtain ⟨r9, s9, o9⟩ := r8.wipes (vs := vs) fun x e => hself (hsf x e)
        have pr9 := pr8.ss s9 (fun a h => .inl h) r8
        rw [ew] at r9 s9 o9 pr9
        exact ⟨_, rfl, hlt, wipeE env8 vs, w8, G8, acc, vacc, r9, s58.trans s9, fun a h => o8 a (o9 a h), hD8, pr9, hc8⟩
      | true =>
        refine ⟨_, env8, w8, G8, _, r8, hc8, fun v H9 dy env9 w9 G9 r9 s9 py _ hc9 => ?_⟩
        have nD8 := r8.apart (a := D0) (.inr rfl)
        have hD9 : H9 D0 = some (.lst vacc) := s9.fr D0 _ hD8 nD8.1 nD8.2
        have pr9 := pr8.step s9 r8
        replace hc9 : acc.length < sizeLine ∧ _ := hc9
        refine ⟨vacc, hD9, by rw [pr9.length]; exact hc9.1, ?_⟩
        have hB : c.B.H0 D0 = none := r1.h0new hD0
        obtain ⟨r10, up⟩ := r9.updO (a := D0) (x := .lst (vacc ++ [v])) (.inr rfl) hD9 (fun z => z) hB
        have pr10 := up (pr9.append (.cons py .nil))
        obtain ⟨r11, s11, o11⟩ := r10.wipes (vs := vs) fun x e => hself (hsf x e)
        have pr11 := pr10.ss s11 (fun a h => .inl h) r10
        rw [ew] at r11 s11 o11 pr11
        have s9u : SStep σ (shareE env1 vs) G1 H1 σ7 env9 G9 (upd H9 D0 (.lst (vacc ++ [v]))) := by
          have s := s58.trans s9.ss
          refine ⟨fun a u e h1 h2 => ?_, s.own, s.gx, s.gn, fun a h => ?_⟩
          · rw [upd_ne (ne_of_none e hD0)]
            exact s.fr a u e h1 h2
          · by_cases q : a = D0
            · subst q
              exact absurd hD0 h
            · rw [upd_ne q]
              exact s.tr a h
        exact ⟨_, rfl, hlt, wipeE env9 vs, w9, G9, acc ++ [dy], vacc ++ [v], r11, s9u.trans s11, fun a h => o8 a (s9.own a (o11 a h)), upd_same, pr11, hc9.2⟩
    · have e : i = ds.length := by omega
      subst e
      refine .inl ⟨id1.stop ⟨c.m, fun a => c.O a ∨ a = D0, c.B⟩ _ _ _ _ _ rfl (fun a z => z.imp_right fun z => by rw [z]; exact hD0) r5 (so.ss.trans s5), ?_⟩
      rw [List.drop_length, compL] at hc5
      replace hc5 : Q' (.lst acc) (backE (shareE env1 vs) env5 vs) w5 := hc5
      have hn : ∀ j k, j ∈ vs → (shareE env1 vs)[j]? ≠ some (.own k) := fun j k hj z => (shareE_val z).1 hj
      obtain ⟨rb, pb, ob⟩ := ro.backs hn hD0 hD5 r5 s5 o5 H5 fun _ _ e _ => e
      obtain ⟨rf, pf, _⟩ := ro.backs hn hD0 hD5 r5 s5 o5 (fun a => if a = D0 then none else H5 a) fun a u e n => by
        show (if a = D0 then none else H5 a) = some u
        rw [if_neg n]
        exact e
      have st : Step σ env Gh H (backE (shareE env1 vs) env5 vs) G5 H5 := by
        have s := (s1.trans so)
        refine ⟨fun a u e h1 h2 => ?_, fun a h => s.own a (ob a h), ?_, fun a h => ?_, fun a h => s5.tr a (s.tr a h)⟩
        · exact s5.fr a u (s.fr a u e h1 h2) (fun z => h1 (s.own a z)) fun z => (s.gn a z).elim h2 fun n => by rw [e] at n; cases n
        · obtain ⟨l, e1⟩ := s.gx
          obtain ⟨l2, e2⟩ := s5.gx
          exact ⟨l ++ l2, by rw [e2, e1, List.append_assoc]⟩
        · rcases s5.gn a h with z | z
          · exact s.gn a z
          · exact .inr (s.none_of z)
      have nO : ¬ c.O D0 := fun z => r1.ot D0 z hD0
      have nA := r5.apart (a := D0) (.inr rfl)
      have okD : Okk c.O σ (backE (shareE env1 vs) env5 vs) G5 D0 := ⟨nO, fun z => (ro.notNew hD0).1 (ob D0 z), nA.2⟩
      refine q _ H5 _ _ w5 G5 rb st (.lst okD hD5 (pb pr5)) (fun _ => ⟨D0, _, vacc, acc, rfl, rfl, s1.none_of hD0, ?_, rf, ?_, pf pr5⟩) hc5
      · show (if D0 = D0 then none else H5 D0) = none
        rw [if_pos rfl]
      · funext a
        by_cases e : a = D0
        · subst e
          rw [upd_same]
          exact hD5
        · rw [upd_ne e]
          show H5 a = if a = D0 then none else H5 a
          rw [if_neg e]
end
end Py

set_option Elab.async false
set_option linter.all false
set_option maxRecDepth 100000
set_option maxHeartbeats 4000000
/-! PyY: list(zip(..)): a zip whose tuples are kept, over any two or three iterators. -/
namespace PySem
open Sem (wp)
namespace F
theorem zip_no_len : typeLookup (.type "zip") "__len__" = pure none := am_miss_of_fast (by decide +kernel)
theorem zip_no_hint : typeLookup (.type "zip") "__length_hint__" = pure none := am_miss_of_fast (by decide +kernel)
end F
section
variable {prog : Program} {w : World} {A : Around} {E : Value → Shared → Prop} {s : Shared} {z TI TO T i1 i2 i3 : Addr} {f : Bool} {oT : Obj} {fp1 fp2 fp3 : List Addr} {n1 n2 n3 i : Nat} {P1 P2 P3 : Nat → Value → Prop} {St1 St2 St3 : Nat → Heap → Prop}
theorem zipH2_next_item {Q : Value → Shared → Prop} (S : ZipSep2 z TI TO i1 i2 fp1 fp2) (D1 : Draws prog w A i1 fp1 n1 P1 St1) (D2 : Draws prog w A i2 fp2 n2 P2 St2)
    (hz : IsZipHeld s.heap z TI TO T f) (hT : s.heap.get? T = some oT) (hTI : IsTupOf2 s.heap TI (.ref i1) (.ref i2)) (st1 : St1 i s.heap) (st2 : St2 i s.heap) (hlt1 : i < n1) (hlt2 : i < n2)
    (hQ : ∀ x1 x2 h' tk, P1 i x1 → P2 i x2 → IsZipHeld h' z TI TO T true → St1 (i + 1) h' → St2 (i + 1) h' → IsTupOf2 h' s.heap.objs.size x1 x2 → h'.objs.size = s.heap.objs.size + 1 →
      (∀ c o, c ≠ z → c ≠ i1 → c ≠ i2 → s.heap.get? c = some o → h'.get? c = some o) → Q (.ref s.heap.objs.size) { s with heap := h', toks := tk }) :
    wpAny (model prog w) A (Builtin.«zip.__next__» ⟨[.ref z], []⟩) (fun fin s' => ∃ v, fin = .done (.ret v) ∧ Q v s') E s := by
  obtain ⟨hp, g, d, tk0, os⟩ := s
  show wpAny _ _ (field (.ref z) 2 >>= _) _ _ _
  refine wpAny_bind (wpAny_field hz rfl (x := .bool false) rfl ?_)
  show wpAny _ _ (field (.ref z) 3 >>= _) _ _ _
  refine wpAny_bind (wpAny_field hz rfl (x := .ref TI) rfl ?_)
  refine wpAny_bind (wpAny_seqItems hTI rfl ?_)
  show wpAny _ _ (Builtin.SmallTypes.ownedTupleIsFree (.ref z) >>= _) _ _ _
  refine wpAny_bind (wpAny_tupleHeld_zip hz hT fun h₁ hz₁ hs₁ => ?_)
  replace hs₁ : Heap.SameBut z hp h₁ := hs₁
  simp only [Bool.false_eq_true, if_false]
  refine wpAny_bind ?_
  rw [← Array.forIn_toList]
  simp only [List.forIn_cons, List.forIn_nil]
  refine wpAny_bind (wpAny_bind (wpAny_holding ?_))
  show wpAny _ _ (Builtin.SmallTypes.nextOf (.ref i1) >>= _) _ _ ⟨h₁, g, d, tk0, os⟩
  refine wpAny_bind (D1.item i _ _ _ hlt1 (D1.over st1 hs₁ S.zf1) fun x1 p1 tk1 hx1 sn1 hp1 => wpAny_pure ?_)
  replace hp1 : Heap.SameBut i1 h₁ p1 := hp1
  refine wpAny_pure ?_
  refine wpAny_bind (wpAny_bind (wpAny_holding ?_))
  show wpAny _ _ (Builtin.SmallTypes.nextOf (.ref i2) >>= _) _ _ ⟨p1, g, d, tk1, os⟩
  refine wpAny_bind (D2.item i _ _ _ hlt2 (D2.over (D2.over st2 hs₁ S.zf2) hp1 S.sep1_2) fun x2 p2 tk2 hx2 sn2 hp2 => wpAny_pure ?_)
  replace hp2 : Heap.SameBut i2 p1 p2 := hp2
  refine wpAny_pure (wpAny_pure ?_)
  show wpAny _ _ (newTuple [x1, x2] >>= _) _ _ ⟨p2, g, d, tk2, os⟩
  refine wpAny_bind (wpAny_newTuple ?_)
  have hsz : p2.objs.size = hp.objs.size := by rw [hp2.1, hp1.1, hs₁.1]
  have hz₃ : IsZipHeld p2 z TI TO T true := hp2.extBut _ _ S.zi2 (hp1.extBut _ _ S.zi1 hz₁)
  have hk : ∀ c o, c ≠ z → c ≠ i1 → c ≠ i2 → hp.get? c = some o → p2.get? c = some o := fun c o c1 c2 c3 e => hp2.extBut _ _ c3 (hp1.extBut _ _ c2 (hs₁.extBut _ _ c1 e))
  have hj1 : St1 (i + 1) p2 := D1.over sn1 hp2 S.sep2_1
  refine wpAny_pure ⟨_, rfl, ?_⟩
  show Q (.ref p2.objs.size) ⟨_, g, d, tk2, os⟩
  have hpp : IsTupOf2 (p2.push { cls := .type "tuple", data := .seq #[x1, x2] }) p2.objs.size x1 x2 := Heap.get?_push_size _ rfl
  have hz4 : (p2.push { cls := .type "tuple", data := .seq #[x1, x2] }).objs.size = p2.objs.size + 1 := Heap.size_push ..
  rw [hsz] at hpp hz4 ⊢
  exact hQ _ _ _ _ hx1 hx2 (Heap.get?_push_of_some _ hz₃) (D1.frame _ _ _ hj1 fun b _ o e => Heap.get?_push_of_some _ e) (D2.frame _ _ _ sn2 fun b _ o e => Heap.get?_push_of_some _ e) hpp hz4 fun c o c1 c2 c3 e => Heap.get?_push_of_some _ (hk c o c1 c2 c3 e)
theorem zipH2_next_end {Q : Fin → Shared → Prop} (S : ZipSep2 z TI TO i1 i2 fp1 fp2) (D1 : Draws prog w A i1 fp1 n1 P1 St1) (D2 : Draws prog w A i2 fp2 n2 P2 St2)
    (hz : IsZipHeld s.heap z TI TO T f) (hT : s.heap.get? T = some oT) (hTI : IsTupOf2 s.heap TI (.ref i1) (.ref i2)) (st1 : St1 i s.heap) (st2 : St2 i s.heap) (hle1 : i ≤ n1) (hle2 : i ≤ n2) (hend : i = n1 ∨ i = n2)
    (hE : ∀ h' tk e, (∀ c o, c ≠ z → c ≠ i1 → c ≠ i2 → s.heap.get? c = some o → h'.get? c = some o) → (∃ o, h'.get? e = some o ∧ o.cls = .type "StopIteration") → E (.ref e) { s with heap := h', toks := tk }) :
    wpAny (model prog w) A (Builtin.«zip.__next__» ⟨[.ref z], []⟩) Q E s := by
  obtain ⟨hp, g, d, tk0, os⟩ := s
  show wpAny _ _ (field (.ref z) 2 >>= _) _ _ _
  refine wpAny_bind (wpAny_field hz rfl (x := .bool false) rfl ?_)
  show wpAny _ _ (field (.ref z) 3 >>= _) _ _ _
  refine wpAny_bind (wpAny_field hz rfl (x := .ref TI) rfl ?_)
  refine wpAny_bind (wpAny_seqItems hTI rfl ?_)
  show wpAny _ _ (Builtin.SmallTypes.ownedTupleIsFree (.ref z) >>= _) _ _ _
  refine wpAny_bind (wpAny_tupleHeld_zip hz hT fun h₁ hz₁ hs₁ => ?_)
  replace hs₁ : Heap.SameBut z hp h₁ := hs₁
  simp only [Bool.false_eq_true, if_false]
  refine wpAny_bind ?_
  rw [← Array.forIn_toList]
  simp only [List.forIn_cons, List.forIn_nil]
  refine wpAny_bind (wpAny_bind (wpAny_holding ?_))
  show wpAny _ _ (Builtin.SmallTypes.nextOf (.ref i1) >>= _) _ _ ⟨h₁, g, d, tk0, os⟩
  by_cases hlt1 : i < n1
  · refine wpAny_bind (D1.item i _ _ _ hlt1 (D1.over st1 hs₁ S.zf1) fun x1 p1 tk1 hx1 sn1 hp1 => wpAny_pure ?_)
    replace hp1 : Heap.SameBut i1 h₁ p1 := hp1
    have hi2 : i = n2 := by omega
    refine wpAny_pure ?_
    refine wpAny_bind (wpAny_bind (wpAny_holding ?_))
    show wpAny _ _ (Builtin.SmallTypes.nextOf (.ref i2) >>= _) _ _ ⟨p1, g, d, tk1, os⟩
    refine wpAny_bind (D2.done ⟨p1, g, d, tk1, os⟩ _ _ (by rw [← hi2]; exact D2.over (D2.over st2 hs₁ S.zf2) hp1 S.sep1_2) fun q e hq he => ?_)
    replace hq : Heap.ExtBut i2 p1 q := hq
    exact hE q tk1 e (fun c o cz c1 c2 x => hq _ _ c2 (hp1.extBut _ _ c1 (hs₁.extBut _ _ cz x))) he
  · have hi1 : i = n1 := by omega
    refine wpAny_bind (D1.done ⟨h₁, g, d, tk0, os⟩ _ _ (by rw [← hi1]; exact (D1.over st1 hs₁ S.zf1)) fun q e hq he => ?_)
    replace hq : Heap.ExtBut i1 h₁ q := hq
    exact hE q tk0 e (fun c o cz c1 c2 x => hq _ _ c1 (hs₁.extBut _ _ cz x)) he
theorem zipH3_next_item {Q : Value → Shared → Prop} (S : ZipSep3 z TI TO i1 i2 i3 fp1 fp2 fp3) (D1 : Draws prog w A i1 fp1 n1 P1 St1) (D2 : Draws prog w A i2 fp2 n2 P2 St2) (D3 : Draws prog w A i3 fp3 n3 P3 St3)
    (hz : IsZipHeld s.heap z TI TO T f) (hT : s.heap.get? T = some oT) (hTI : IsTupOf3 s.heap TI (.ref i1) (.ref i2) (.ref i3)) (st1 : St1 i s.heap) (st2 : St2 i s.heap) (st3 : St3 i s.heap) (hlt1 : i < n1) (hlt2 : i < n2) (hlt3 : i < n3)
    (hQ : ∀ x1 x2 x3 h' tk, P1 i x1 → P2 i x2 → P3 i x3 → IsZipHeld h' z TI TO T true → St1 (i + 1) h' → St2 (i + 1) h' → St3 (i + 1) h' → IsTupOf3 h' s.heap.objs.size x1 x2 x3 → h'.objs.size = s.heap.objs.size + 1 →
      (∀ c o, c ≠ z → c ≠ i1 → c ≠ i2 → c ≠ i3 → s.heap.get? c = some o → h'.get? c = some o) → Q (.ref s.heap.objs.size) { s with heap := h', toks := tk }) :
    wpAny (model prog w) A (Builtin.«zip.__next__» ⟨[.ref z], []⟩) (fun fin s' => ∃ v, fin = .done (.ret v) ∧ Q v s') E s := by
  obtain ⟨hp, g, d, tk0, os⟩ := s
  show wpAny _ _ (field (.ref z) 2 >>= _) _ _ _
  refine wpAny_bind (wpAny_field hz rfl (x := .bool false) rfl ?_)
  show wpAny _ _ (field (.ref z) 3 >>= _) _ _ _
  refine wpAny_bind (wpAny_field hz rfl (x := .ref TI) rfl ?_)
  refine wpAny_bind (wpAny_seqItems hTI rfl ?_)
  show wpAny _ _ (Builtin.SmallTypes.ownedTupleIsFree (.ref z) >>= _) _ _ _
  refine wpAny_bind (wpAny_tupleHeld_zip hz hT fun h₁ hz₁ hs₁ => ?_)
  replace hs₁ : Heap.SameBut z hp h₁ := hs₁
  simp only [Bool.false_eq_true, if_false]
  refine wpAny_bind ?_
  rw [← Array.forIn_toList]
  simp only [List.forIn_cons, List.forIn_nil]
  refine wpAny_bind (wpAny_bind (wpAny_holding ?_))
  show wpAny _ _ (Builtin.SmallTypes.nextOf (.ref i1) >>= _) _ _ ⟨h₁, g, d, tk0, os⟩
  refine wpAny_bind (D1.item i _ _ _ hlt1 (D1.over st1 hs₁ S.zf1) fun x1 p1 tk1 hx1 sn1 hp1 => wpAny_pure ?_)
  replace hp1 : Heap.SameBut i1 h₁ p1 := hp1
  refine wpAny_pure ?_
  refine wpAny_bind (wpAny_bind (wpAny_holding ?_))
  show wpAny _ _ (Builtin.SmallTypes.nextOf (.ref i2) >>= _) _ _ ⟨p1, g, d, tk1, os⟩
  refine wpAny_bind (D2.item i _ _ _ hlt2 (D2.over (D2.over st2 hs₁ S.zf2) hp1 S.sep1_2) fun x2 p2 tk2 hx2 sn2 hp2 => wpAny_pure ?_)
  replace hp2 : Heap.SameBut i2 p1 p2 := hp2
  refine wpAny_pure ?_
  refine wpAny_bind (wpAny_bind (wpAny_holding ?_))
  show wpAny _ _ (Builtin.SmallTypes.nextOf (.ref i3) >>= _) _ _ ⟨p2, g, d, tk2, os⟩
  refine wpAny_bind (D3.item i _ _ _ hlt3 (D3.over (D3.over (D3.over st3 hs₁ S.zf3) hp1 S.sep1_3) hp2 S.sep2_3) fun x3 p3 tk3 hx3 sn3 hp3 => wpAny_pure ?_)
  replace hp3 : Heap.SameBut i3 p2 p3 := hp3
  refine wpAny_pure (wpAny_pure ?_)
  show wpAny _ _ (newTuple [x1, x2, x3] >>= _) _ _ ⟨p3, g, d, tk3, os⟩
  refine wpAny_bind (wpAny_newTuple ?_)
  have hsz : p3.objs.size = hp.objs.size := by rw [hp3.1, hp2.1, hp1.1, hs₁.1]
  have hz₃ : IsZipHeld p3 z TI TO T true := hp3.extBut _ _ S.zi3 (hp2.extBut _ _ S.zi2 (hp1.extBut _ _ S.zi1 hz₁))
  have hk : ∀ c o, c ≠ z → c ≠ i1 → c ≠ i2 → c ≠ i3 → hp.get? c = some o → p3.get? c = some o := fun c o c1 c2 c3 c4 e => hp3.extBut _ _ c4 (hp2.extBut _ _ c3 (hp1.extBut _ _ c2 (hs₁.extBut _ _ c1 e)))
  have hj1 : St1 (i + 1) p3 := D1.over (D1.over sn1 hp2 S.sep2_1) hp3 S.sep3_1
  have hj2 : St2 (i + 1) p3 := D2.over sn2 hp3 S.sep3_2
  refine wpAny_pure ⟨_, rfl, ?_⟩
  show Q (.ref p3.objs.size) ⟨_, g, d, tk3, os⟩
  have hpp : IsTupOf3 (p3.push { cls := .type "tuple", data := .seq #[x1, x2, x3] }) p3.objs.size x1 x2 x3 := Heap.get?_push_size _ rfl
  have hz4 : (p3.push { cls := .type "tuple", data := .seq #[x1, x2, x3] }).objs.size = p3.objs.size + 1 := Heap.size_push ..
  rw [hsz] at hpp hz4 ⊢
  exact hQ _ _ _ _ _ hx1 hx2 hx3 (Heap.get?_push_of_some _ hz₃) (D1.frame _ _ _ hj1 fun b _ o e => Heap.get?_push_of_some _ e) (D2.frame _ _ _ hj2 fun b _ o e => Heap.get?_push_of_some _ e) (D3.frame _ _ _ sn3 fun b _ o e => Heap.get?_push_of_some _ e) hpp hz4
    fun c o c1 c2 c3 c4 e => Heap.get?_push_of_some _ (hk c o c1 c2 c3 c4 e)
theorem zipH3_next_end {Q : Fin → Shared → Prop} (S : ZipSep3 z TI TO i1 i2 i3 fp1 fp2 fp3) (D1 : Draws prog w A i1 fp1 n1 P1 St1) (D2 : Draws prog w A i2 fp2 n2 P2 St2) (D3 : Draws prog w A i3 fp3 n3 P3 St3)
    (hz : IsZipHeld s.heap z TI TO T f) (hT : s.heap.get? T = some oT) (hTI : IsTupOf3 s.heap TI (.ref i1) (.ref i2) (.ref i3)) (st1 : St1 i s.heap) (st2 : St2 i s.heap) (st3 : St3 i s.heap) (hle1 : i ≤ n1) (hle2 : i ≤ n2) (hle3 : i ≤ n3) (hend : i = n1 ∨ i = n2 ∨ i = n3)
    (hE : ∀ h' tk e, (∀ c o, c ≠ z → c ≠ i1 → c ≠ i2 → c ≠ i3 → s.heap.get? c = some o → h'.get? c = some o) → (∃ o, h'.get? e = some o ∧ o.cls = .type "StopIteration") → E (.ref e) { s with heap := h', toks := tk }) :
    wpAny (model prog w) A (Builtin.«zip.__next__» ⟨[.ref z], []⟩) Q E s := by
  obtain ⟨hp, g, d, tk0, os⟩ := s
  show wpAny _ _ (field (.ref z) 2 >>= _) _ _ _
  refine wpAny_bind (wpAny_field hz rfl (x := .bool false) rfl ?_)
  show wpAny _ _ (field (.ref z) 3 >>= _) _ _ _
  refine wpAny_bind (wpAny_field hz rfl (x := .ref TI) rfl ?_)
  refine wpAny_bind (wpAny_seqItems hTI rfl ?_)
  show wpAny _ _ (Builtin.SmallTypes.ownedTupleIsFree (.ref z) >>= _) _ _ _
  refine wpAny_bind (wpAny_tupleHeld_zip hz hT fun h₁ hz₁ hs₁ => ?_)
  replace hs₁ : Heap.SameBut z hp h₁ := hs₁
  simp only [Bool.false_eq_true, if_false]
  refine wpAny_bind ?_
  rw [← Array.forIn_toList]
  simp only [List.forIn_cons, List.forIn_nil]
  refine wpAny_bind (wpAny_bind (wpAny_holding ?_))
  show wpAny _ _ (Builtin.SmallTypes.nextOf (.ref i1) >>= _) _ _ ⟨h₁, g, d, tk0, os⟩
  by_cases hlt1 : i < n1
  · refine wpAny_bind (D1.item i _ _ _ hlt1 (D1.over st1 hs₁ S.zf1) fun x1 p1 tk1 hx1 sn1 hp1 => wpAny_pure ?_)
    replace hp1 : Heap.SameBut i1 h₁ p1 := hp1
    refine wpAny_pure ?_
    refine wpAny_bind (wpAny_bind (wpAny_holding ?_))
    show wpAny _ _ (Builtin.SmallTypes.nextOf (.ref i2) >>= _) _ _ ⟨p1, g, d, tk1, os⟩
    by_cases hlt2 : i < n2
    · refine wpAny_bind (D2.item i _ _ _ hlt2 (D2.over (D2.over st2 hs₁ S.zf2) hp1 S.sep1_2) fun x2 p2 tk2 hx2 sn2 hp2 => wpAny_pure ?_)
      replace hp2 : Heap.SameBut i2 p1 p2 := hp2
      have hi3 : i = n3 := by omega
      refine wpAny_pure ?_
      refine wpAny_bind (wpAny_bind (wpAny_holding ?_))
      show wpAny _ _ (Builtin.SmallTypes.nextOf (.ref i3) >>= _) _ _ ⟨p2, g, d, tk2, os⟩
      refine wpAny_bind (D3.done ⟨p2, g, d, tk2, os⟩ _ _ (by rw [← hi3]; exact D3.over (D3.over (D3.over st3 hs₁ S.zf3) hp1 S.sep1_3) hp2 S.sep2_3) fun q e hq he => ?_)
      replace hq : Heap.ExtBut i3 p2 q := hq
      exact hE q tk2 e (fun c o cz c1 c2 c3 x => hq _ _ c3 (hp2.extBut _ _ c2 (hp1.extBut _ _ c1 (hs₁.extBut _ _ cz x)))) he
    · have hi2 : i = n2 := by omega
      refine wpAny_bind (D2.done ⟨p1, g, d, tk1, os⟩ _ _ (by rw [← hi2]; exact D2.over (D2.over st2 hs₁ S.zf2) hp1 S.sep1_2) fun q e hq he => ?_)
      replace hq : Heap.ExtBut i2 p1 q := hq
      exact hE q tk1 e (fun c o cz c1 c2 c3 x => hq _ _ c2 (hp1.extBut _ _ c1 (hs₁.extBut _ _ cz x))) he
  · have hi1 : i = n1 := by omega
    refine wpAny_bind (D1.done ⟨h₁, g, d, tk0, os⟩ _ _ (by rw [← hi1]; exact (D1.over st1 hs₁ S.zf1)) fun q e hq he => ?_)
    replace hq : Heap.ExtBut i1 h₁ q := hq
    exact hE q tk0 e (fun c o cz c1 c2 c3 x => hq _ _ c1 (hs₁.extBut _ _ cz x)) he
end

theorem wpAny_pyIter_zipT {prog : Program} {w : World} {A : Around} {E : Value → Shared → Prop} {s : Shared} {z : Addr} {Q : Value → Shared → Prop} (hT : s.TypeIs (.ref z) "zip") (h : Q (.ref z) s) : wpAny (model prog w) A (pyIter (.ref z)) Q E s := by
  refine wpAny_pyIter_slot hT F.slot_zip_iter (wpAny_call_entry F.slot_zip_iter hT F.entry_zip_iter ?_ (F.args_zip_iter_1 _))
  show wpAny _ _ (ret (.ref z)) _ _ s
  exact wpAny_pure ⟨_, rfl, "zip", _, hT, F.slot_zip_next.lookup, h⟩
/-- a zip that is walked while a list at S keeps its tuples -/
structure WalkH (prog : Program) (w : World) (A : Around) (I S : Addr) (wr : List Addr) (n : Nat) (P : Nat → List Value → Prop) (St : Nat → Heap → Prop) : Prop where
  frame : ∀ i h h', St i h → h.objs.size ≤ h'.objs.size → (∀ b o, b ≠ S → h.get? b = some o → h'.get? b = some o) → St i h'
  typ : ∀ i (s : Shared), St i s.heap → s.TypeIs (.ref I) "zip"
  item : ∀ i (s : Shared) (Q : Option Value → Shared → Prop) (E : Value → Shared → Prop), i < n → St i s.heap →
    (∀ xs h' tk, P i xs → St (i + 1) h' → h'.get? s.heap.objs.size = some { cls := .type "tuple", data := .seq xs.toArray } → h'.objs.size = s.heap.objs.size + 1 →
      (∀ c o, c ∉ wr → s.heap.get? c = some o → h'.get? c = some o) → Q (some (.ref s.heap.objs.size)) { s with heap := h', toks := tk }) → wpAny (model prog w) A (pyNext (.ref I)) Q E s
  done : ∀ (s : Shared) (Q : Option Value → Shared → Prop) (E : Value → Shared → Prop), St n s.heap →
    (∀ h' tk, (∀ c o, c ∉ wr → s.heap.get? c = some o → h'.get? c = some o) → Q none { s with heap := h', toks := tk }) → wpAny (model prog w) A (pyNext (.ref I)) Q E s
  self : ∀ i (s : Shared) (Q : Value → Shared → Prop) (E : Value → Shared → Prop), St i s.heap → Q (.ref I) s → wpAny (model prog w) A (pyIter (.ref I)) Q E s
  out : S ∉ wr
  ne : S ≠ I

/-- the state of a held zip -/
def HeldZ (h : Heap) (z TI TO S : Addr) (wr : List Addr) : Prop := IsZip h z TI TO .none ∨ ∃ T f oT, IsZipHeld h z TI TO T f ∧ h.get? T = some oT ∧ T ≠ S ∧ T ∉ wr
theorem HeldZ.typ {s : Shared} {z TI TO S : Addr} {wr : List Addr} (h : HeldZ s.heap z TI TO S wr) : s.TypeIs (.ref z) "zip" := by
  rcases h with h | ⟨T, f, oT, h, _⟩
  · exact ⟨_, h, rfl⟩
  · exact ⟨_, h, rfl⟩
section
variable {prog : Program} {w : World} {A : Around} {z TI TO S i1 i2 i3 : Addr} {fp1 fp2 fp3 : List Addr} {n1 n2 n3 : Nat} {P1 P2 P3 : Nat → Value → Prop} {St1 St2 St3 : Nat → Heap → Prop}
theorem WalkH.zip2 (Z : ZipSep2 z TI TO i1 i2 fp1 fp2) (D1 : Draws prog w A.in1 i1 fp1 n1 P1 St1) (D2 : Draws prog w A.in1 i2 fp2 n2 P2 St2) (hz : S ≠ z) (hTI : S ≠ TI) (hTO : S ≠ TO) (hf1 : S ∉ fp1) (hf2 : S ∉ fp2) :
    WalkH prog w A z S [z, TO, i1, i2] (min n1 n2) (fun i xs => ∃ x1 x2, P1 i x1 ∧ P2 i x2 ∧ xs = [x1, x2])
      (fun i h => HeldZ h z TI TO S [z, TO, i1, i2] ∧ S < h.objs.size ∧ IsTupOf2 h TI (.ref i1) (.ref i2) ∧ (∃ a1 a2, IsTupOf2 h TO a1 a2) ∧ St1 i h ∧ St2 i h) where
  frame := fun i h h' ⟨a, b, c, ⟨a1, a2, d⟩, e1, e2⟩ hs hk => by
    refine ⟨?_, Nat.lt_of_lt_of_le b hs, hk _ _ hTI.symm c, ⟨a1, a2, hk _ _ hTO.symm d⟩, D1.frame _ _ _ e1 fun b hb o e => hk b o (fun q => hf1 (q ▸ hb)) e, D2.frame _ _ _ e2 fun b hb o e => hk b o (fun q => hf2 (q ▸ hb)) e⟩
    rcases a with a | ⟨T, f, oT, a, t1, t2, t3⟩
    · exact .inl (hk _ _ hz.symm a)
    · exact .inr ⟨T, f, oT, hk _ _ hz.symm a, hk _ _ t2 t1, t2, t3⟩
  typ := fun i s st => st.1.typ
  item := fun i s Q E hi ⟨a, b, c, ⟨a1, a2, d⟩, e1, e2⟩ hQ => by
    have hT := a.typ
    have hi1 : i < n1 := by omega
    have hi2 : i < n2 := by omega
    have lt : ∀ {c o}, s.heap.get? c = some o → s.heap.objs.size ≠ c := fun e => Nat.ne_of_gt (Heap.lt_size e)
    have l1 : s.heap.objs.size ≠ i1 := by obtain ⟨_, e⟩ := D1.live _ _ e1; exact lt e
    have l2 : s.heap.objs.size ≠ i2 := by obtain ⟨_, e⟩ := D2.live _ _ e2; exact lt e
    have lz : s.heap.objs.size ≠ z := by obtain ⟨_, e, _⟩ := hT; exact lt e
    have nw : s.heap.objs.size ∉ [z, TO, i1, i2] := by
      simp only [List.mem_cons, List.not_mem_nil, or_false, not_or]
      exact ⟨lz, lt d, l1, l2⟩
    unfold pyNext
    refine wpAny_bind (wpAny_attempt (wpAny_callSpecial?_slot (name := Str.ofString "__next__") hT F.slot_zip_next (wpAny_call_entry F.slot_zip_next hT F.entry_zip_next ?_ (F.args_zip_next_1 _))))
    rcases a with a | ⟨T, f, oT, a, t1, t2, t3⟩
    · refine zipD2_next_item Z D1 D2 a c d e1 e2 hi1 hi2 fun x1 x2 h' tk y1 y2 b1 b2 d1 d2 b5 b6 hk => wpAny_pure ?_
      exact hQ [x1, x2] h' tk ⟨x1, x2, y1, y2, rfl⟩ ⟨.inr ⟨s.heap.objs.size, false, _, b1, b5, Nat.ne_of_gt b, nw⟩, by rw [b6]; exact Nat.lt_succ_of_lt b, hk _ _ Z.TIz Z.TITO Z.TIi1 Z.TIi2 c, ⟨_, _, b2⟩, d1, d2⟩ b5 b6
        fun c o hc e => hk c o (fun x => hc (by simp [x])) (fun x => hc (by simp [x])) (fun x => hc (by simp [x])) (fun x => hc (by simp [x])) e
    · refine zipH2_next_item Z D1 D2 a t1 c e1 e2 hi1 hi2 fun x1 x2 h' tk y1 y2 b1 d1 d2 b5 b6 hk => wpAny_pure ?_
      have t4 : T ≠ z ∧ T ≠ TO ∧ T ≠ i1 ∧ T ≠ i2 := by simpa using t3
      exact hQ [x1, x2] h' tk ⟨x1, x2, y1, y2, rfl⟩ ⟨.inr ⟨T, true, _, b1, hk _ _ t4.1 t4.2.2.1 t4.2.2.2 t1, t2, t3⟩, by rw [b6]; exact Nat.lt_succ_of_lt b, hk _ _ Z.TIz Z.TIi1 Z.TIi2 c, ⟨_, _, hk _ _ Z.TOz Z.Ti1 Z.Ti2 d⟩, d1, d2⟩ b5 b6
        fun c o hc e => hk c o (fun x => hc (by simp [x])) (fun x => hc (by simp [x])) (fun x => hc (by simp [x])) e
  done := fun s Q E ⟨a, b, c, ⟨a1, a2, d⟩, e1, e2⟩ hQ => by
    have hT := a.typ
    unfold pyNext
    refine wpAny_bind (wpAny_attempt (wpAny_callSpecial?_slot (name := Str.ofString "__next__") hT F.slot_zip_next (wpAny_call_entry F.slot_zip_next hT F.entry_zip_next ?_ (F.args_zip_next_1 _))))
    rcases a with a | ⟨T, f, oT, a, t1, t2, t3⟩
    · refine zipD2_next_end Z D1 D2 a c d e1 e2 (by omega) (by omega) (by omega) fun h' tk e hk he => ?_
      obtain ⟨o, ho, hc⟩ := he
      refine wpAny_bind (wpAny_isInstance (T := "StopIteration") (b := true) ⟨o, ho, hc⟩ isSubtype_stop ?_)
      exact wpAny_pure (hQ h' tk fun c o hc e => hk c o (fun x => hc (by simp [x])) (fun x => hc (by simp [x])) (fun x => hc (by simp [x])) (fun x => hc (by simp [x])) e)
    · refine zipH2_next_end Z D1 D2 a t1 c e1 e2 (by omega) (by omega) (by omega) fun h' tk e hk he => ?_
      obtain ⟨o, ho, hc⟩ := he
      refine wpAny_bind (wpAny_isInstance (T := "StopIteration") (b := true) ⟨o, ho, hc⟩ isSubtype_stop ?_)
      exact wpAny_pure (hQ h' tk fun c o hc e => hk c o (fun x => hc (by simp [x])) (fun x => hc (by simp [x])) (fun x => hc (by simp [x])) e)
  self := fun i s Q E st hQ => wpAny_pyIter_zipT st.1.typ hQ
  out := by
    simp only [List.mem_cons, List.not_mem_nil, or_false, not_or]
    exact ⟨hz, hTO, fun q => hf1 (q ▸ Z.mem1), fun q => hf2 (q ▸ Z.mem2)⟩
  ne := hz
theorem WalkH.zip3 (Z : ZipSep3 z TI TO i1 i2 i3 fp1 fp2 fp3) (D1 : Draws prog w A.in1 i1 fp1 n1 P1 St1) (D2 : Draws prog w A.in1 i2 fp2 n2 P2 St2) (D3 : Draws prog w A.in1 i3 fp3 n3 P3 St3) (hz : S ≠ z) (hTI : S ≠ TI) (hTO : S ≠ TO) (hf1 : S ∉ fp1) (hf2 : S ∉ fp2) (hf3 : S ∉ fp3) :
    WalkH prog w A z S [z, TO, i1, i2, i3] (min n1 (min n2 n3)) (fun i xs => ∃ x1 x2 x3, P1 i x1 ∧ P2 i x2 ∧ P3 i x3 ∧ xs = [x1, x2, x3])
      (fun i h => HeldZ h z TI TO S [z, TO, i1, i2, i3] ∧ S < h.objs.size ∧ IsTupOf3 h TI (.ref i1) (.ref i2) (.ref i3) ∧ (∃ a1 a2 a3, IsTupOf3 h TO a1 a2 a3) ∧ St1 i h ∧ St2 i h ∧ St3 i h) where
  frame := fun i h h' ⟨a, b, c, ⟨a1, a2, a3, d⟩, e1, e2, e3⟩ hs hk => by
    refine ⟨?_, Nat.lt_of_lt_of_le b hs, hk _ _ hTI.symm c, ⟨a1, a2, a3, hk _ _ hTO.symm d⟩, D1.frame _ _ _ e1 fun b hb o e => hk b o (fun q => hf1 (q ▸ hb)) e, D2.frame _ _ _ e2 fun b hb o e => hk b o (fun q => hf2 (q ▸ hb)) e, D3.frame _ _ _ e3 fun b hb o e => hk b o (fun q => hf3 (q ▸ hb)) e⟩
    rcases a with a | ⟨T, f, oT, a, t1, t2, t3⟩
    · exact .inl (hk _ _ hz.symm a)
    · exact .inr ⟨T, f, oT, hk _ _ hz.symm a, hk _ _ t2 t1, t2, t3⟩
  typ := fun i s st => st.1.typ
  item := fun i s Q E hi ⟨a, b, c, ⟨a1, a2, a3, d⟩, e1, e2, e3⟩ hQ => by
    have hT := a.typ
    have hi1 : i < n1 := by omega
    have hi2 : i < n2 := by omega
    have hi3 : i < n3 := by omega
    have lt : ∀ {c o}, s.heap.get? c = some o → s.heap.objs.size ≠ c := fun e => Nat.ne_of_gt (Heap.lt_size e)
    have l1 : s.heap.objs.size ≠ i1 := by obtain ⟨_, e⟩ := D1.live _ _ e1; exact lt e
    have l2 : s.heap.objs.size ≠ i2 := by obtain ⟨_, e⟩ := D2.live _ _ e2; exact lt e
    have l3 : s.heap.objs.size ≠ i3 := by obtain ⟨_, e⟩ := D3.live _ _ e3; exact lt e
    have lz : s.heap.objs.size ≠ z := by obtain ⟨_, e, _⟩ := hT; exact lt e
    have nw : s.heap.objs.size ∉ [z, TO, i1, i2, i3] := by
      simp only [List.mem_cons, List.not_mem_nil, or_false, not_or]
      exact ⟨lz, lt d, l1, l2, l3⟩
    unfold pyNext
    refine wpAny_bind (wpAny_attempt (wpAny_callSpecial?_slot (name := Str.ofString "__next__") hT F.slot_zip_next (wpAny_call_entry F.slot_zip_next hT F.entry_zip_next ?_ (F.args_zip_next_1 _))))
    rcases a with a | ⟨T, f, oT, a, t1, t2, t3⟩
    · refine zipD3_next_item Z D1 D2 D3 a c d e1 e2 e3 hi1 hi2 hi3 fun x1 x2 x3 h' tk y1 y2 y3 b1 b2 d1 d2 d3 b5 b6 hk => wpAny_pure ?_
      exact hQ [x1, x2, x3] h' tk ⟨x1, x2, x3, y1, y2, y3, rfl⟩ ⟨.inr ⟨s.heap.objs.size, false, _, b1, b5, Nat.ne_of_gt b, nw⟩, by rw [b6]; exact Nat.lt_succ_of_lt b, hk _ _ Z.TIz Z.TITO Z.TIi1 Z.TIi2 Z.TIi3 c, ⟨_, _, _, b2⟩, d1, d2, d3⟩ b5 b6
        fun c o hc e => hk c o (fun x => hc (by simp [x])) (fun x => hc (by simp [x])) (fun x => hc (by simp [x])) (fun x => hc (by simp [x])) (fun x => hc (by simp [x])) e
    · refine zipH3_next_item Z D1 D2 D3 a t1 c e1 e2 e3 hi1 hi2 hi3 fun x1 x2 x3 h' tk y1 y2 y3 b1 d1 d2 d3 b5 b6 hk => wpAny_pure ?_
      have t4 : T ≠ z ∧ T ≠ TO ∧ T ≠ i1 ∧ T ≠ i2 ∧ T ≠ i3 := by simpa using t3
      exact hQ [x1, x2, x3] h' tk ⟨x1, x2, x3, y1, y2, y3, rfl⟩ ⟨.inr ⟨T, true, _, b1, hk _ _ t4.1 t4.2.2.1 t4.2.2.2.1 t4.2.2.2.2 t1, t2, t3⟩, by rw [b6]; exact Nat.lt_succ_of_lt b, hk _ _ Z.TIz Z.TIi1 Z.TIi2 Z.TIi3 c, ⟨_, _, _, hk _ _ Z.TOz Z.Ti1 Z.Ti2 Z.Ti3 d⟩, d1, d2, d3⟩ b5 b6
        fun c o hc e => hk c o (fun x => hc (by simp [x])) (fun x => hc (by simp [x])) (fun x => hc (by simp [x])) (fun x => hc (by simp [x])) e
  done := fun s Q E ⟨a, b, c, ⟨a1, a2, a3, d⟩, e1, e2, e3⟩ hQ => by
    have hT := a.typ
    unfold pyNext
    refine wpAny_bind (wpAny_attempt (wpAny_callSpecial?_slot (name := Str.ofString "__next__") hT F.slot_zip_next (wpAny_call_entry F.slot_zip_next hT F.entry_zip_next ?_ (F.args_zip_next_1 _))))
    rcases a with a | ⟨T, f, oT, a, t1, t2, t3⟩
    · refine zipD3_next_end Z D1 D2 D3 a c d e1 e2 e3 (by omega) (by omega) (by omega) (by omega) fun h' tk e hk he => ?_
      obtain ⟨o, ho, hc⟩ := he
      refine wpAny_bind (wpAny_isInstance (T := "StopIteration") (b := true) ⟨o, ho, hc⟩ isSubtype_stop ?_)
      exact wpAny_pure (hQ h' tk fun c o hc e => hk c o (fun x => hc (by simp [x])) (fun x => hc (by simp [x])) (fun x => hc (by simp [x])) (fun x => hc (by simp [x])) (fun x => hc (by simp [x])) e)
    · refine zipH3_next_end Z D1 D2 D3 a t1 c e1 e2 e3 (by omega) (by omega) (by omega) (by omega) fun h' tk e hk he => ?_
      obtain ⟨o, ho, hc⟩ := he
      refine wpAny_bind (wpAny_isInstance (T := "StopIteration") (b := true) ⟨o, ho, hc⟩ isSubtype_stop ?_)
      exact wpAny_pure (hQ h' tk fun c o hc e => hk c o (fun x => hc (by simp [x])) (fun x => hc (by simp [x])) (fun x => hc (by simp [x])) (fun x => hc (by simp [x])) e)
  self := fun i s Q E st hQ => wpAny_pyIter_zipT st.1.typ hQ
  out := by
    simp only [List.mem_cons, List.not_mem_nil, or_false, not_or]
    exact ⟨hz, hTO, fun q => hf1 (q ▸ Z.mem1), fun q => hf2 (q ▸ Z.mem2), fun q => hf3 (q ▸ Z.mem3)⟩
  ne := hz
end

/-- what the list has: tuples, one behind the other -/
def TupsAt (P : Nat → List Value → Prop) (b : Nat) (l : List (Addr × List Value)) (h : Heap) : Prop := l.Pairwise (fun p q => p.1 < q.1) ∧ (∀ p, p ∈ l → b ≤ p.1 ∧ h.get? p.1 = some { cls := .type "tuple", data := .seq p.2.toArray }) ∧ ∀ (j : Nat) p, l[j]? = some p → P j p.2
theorem TupsAt.nil {P : Nat → List Value → Prop} {b : Nat} {h : Heap} : TupsAt P b [] h := ⟨.nil, fun _ h => (nomatch h), fun j p e => by simp at e⟩
theorem TupsAt.keep {P : Nat → List Value → Prop} {b : Nat} {l : List (Addr × List Value)} {h h' : Heap} (t : TupsAt P b l h) (k : ∀ c o, b ≤ c → h.get? c = some o → h'.get? c = some o) : TupsAt P b l h' :=
  ⟨t.1, fun p hp => ⟨(t.2.1 p hp).1, k _ _ (t.2.1 p hp).1 (t.2.1 p hp).2⟩, t.2.2⟩
theorem TupsAt.push {P : Nat → List Value → Prop} {b : Nat} {l : List (Addr × List Value)} {h h' : Heap} {xs : List Value} (t : TupsAt P b l h) (k : ∀ c o, b ≤ c → h.get? c = some o → h'.get? c = some o) (hb : b ≤ h.objs.size) (hx : P l.length xs)
    (e : h'.get? h.objs.size = some { cls := .type "tuple", data := .seq xs.toArray }) : TupsAt P b (l ++ [(h.objs.size, xs)]) h' := by
  refine ⟨?_, fun p hp => ?_, fun j p hp => ?_⟩
  · rw [List.pairwise_append]
    refine ⟨t.1, List.pairwise_singleton _ _, fun p hp q hq => ?_⟩
    rw [List.mem_singleton.mp hq]
    exact Heap.lt_size (t.2.1 p hp).2
  · rcases List.mem_append.mp hp with hp | hp
    · exact ⟨(t.2.1 p hp).1, k _ _ (t.2.1 p hp).1 (t.2.1 p hp).2⟩
    · rw [List.mem_singleton.mp hp]
      exact ⟨hb, e⟩
  · by_cases hj : j < l.length
    · rw [List.getElem?_append_left hj] at hp
      exact t.2.2 j p hp
    · rw [List.getElem?_append_right (by omega)] at hp
      have := List.mem_of_getElem? hp
      rw [List.mem_singleton.mp this]
      have hlt := (List.getElem?_eq_some_iff.mp hp).1
      rw [List.length_singleton] at hlt
      have : j = l.length := by omega
      rw [this]
      exact hx
section
variable {prog : Program} {w : World} {A : Around} {R : Result → Shared → Prop} {I S : Addr} {wr : List Addr} {n : Nat} {P : Nat → List Value → Prop} {St : Nat → Heap → Prop}
theorem codeAny_extend_loopH (W : WalkH prog w A.in1 I S wr n P St) (hn : n ≤ sizeLine) (res : Value) (b : Nat) (hb : ∀ c, c ∈ wr → c < b) (hSb : S < b) :
    ∀ (k i : Nat) (s : Shared) (l : List (Addr × List Value)) (c : Nat), n - i = k → i ≤ n → St i s.heap → b ≤ s.heap.objs.size → s.heap.get? S = some { cls := .type "list", dict := none, data := .seq (l.map fun p => Value.ref p.1).toArray c, slots := #[] } → l.length = i → TupsAt P b l s.heap →
    (∀ h' tk l' c', (∀ x o, x ∉ wr → x ≠ S → s.heap.get? x = some o → h'.get? x = some o) → h'.get? S = some { cls := .type "list", dict := none, data := .seq (l'.map fun p => Value.ref p.1).toArray c', slots := #[] } → l'.length = n → TupsAt P b l' h' → R (.ok (.ret res)) { s with heap := h', toks := tk }) →
    codeAny (model prog w) A (.builtin "list.extend.loop" ⟨[.ref S, .ref I, res], []⟩) R s := by
  intro k
  induction k with
  | zero =>
    intro i s l c hk hi hst hbs hS hl ht hR
    have hin : i = n := by omega
    subst hin
    refine codeAny_builtin F.entry_extend_loop ?_
    rw [Around.under_plainId F.plain_extend_loop _]
    show wpAny _ A.in1 (pyNext (.ref I) >>= _) _ _ s
    refine wpAny_bind (W.done s _ _ hst fun h' tk hm => ?_)
    exact wpAny_pure (hR h' tk l c (fun x o hx _ e => hm x o hx e) (hm _ _ W.out hS) hl (ht.keep fun x o hx e => hm x o (fun z => absurd (hb x z) (Nat.not_lt.mpr hx)) e))
  | succ k ih =>
    intro i s l c hk hi hst hbs hS hl ht hR
    have hlt : i < n := by omega
    refine codeAny_builtin F.entry_extend_loop ?_
    rw [Around.under_plainId F.plain_extend_loop _]
    show wpAny _ A.in1 (pyNext (.ref I) >>= _) _ _ s
    refine wpAny_bind (W.item i s _ _ hlt hst fun xs h' tk hP hst' hT hsz hm => ?_)
    have hS' := hm _ _ W.out hS
    have hk2 : ∀ x o, b ≤ x → s.heap.get? x = some o → h'.get? x = some o := fun x o hx e => hm x o (fun z => absurd (hb x z) (Nat.not_lt.mpr hx)) e
    have ht' := ht.push hk2 hbs (by rw [hl]; exact hP) hT
    show wpAny _ A.in1 (updateSeq S (·.push (.ref s.heap.objs.size)) >>= _) _ _ _
    refine wpAny_bind ?_
    have hup := Heap.get?_update_self (Obj.mapSeq (·.push (Value.ref s.heap.objs.size))) hS' rfl
    have hpush : ((l ++ [(s.heap.objs.size, xs)]).map fun p => Value.ref p.1).toArray = (l.map fun p => Value.ref p.1).toArray.push (Value.ref s.heap.objs.size) := by simp
    have oth : ∀ x o, x ≠ S → h'.get? x = some o → (h'.update S (Obj.mapSeq (·.push (Value.ref s.heap.objs.size)))).get? x = some o := fun x o hx e => (Heap.get?_update_other _ _ (Ne.symm hx)).trans e
    have hus : (h'.update S (Obj.mapSeq (·.push (Value.ref s.heap.objs.size)))).objs.size = h'.objs.size := (Heap.SameBut.update ..).1
    refine wpAny_updateSeq (s := { s with heap := h', toks := tk }) hS' rfl (wpAny_pure ⟨plainId_quiet F.plain_extend_loop _, ih (i + 1) _ (l ++ [(s.heap.objs.size, xs)]) _ (by omega) hlt (W.frame _ _ _ hst' (Nat.le_of_eq hus.symm) oth) (by show b ≤ (h'.update S _).objs.size; rw [hus, hsz]; omega)
      (by rw [hpush]; exact hup) (by rw [List.length_append, hl]; rfl) (ht'.keep fun x o hx e => oth x o (Nat.ne_of_gt (Nat.lt_of_lt_of_le hSb hx)) e) fun h'' tk'' l' c' hm'' hS'' hl' ht'' => ?_⟩) ?_ ?_
    · exact hR h'' tk'' l' c' (fun x o hx hx2 e => hm'' x o hx hx2 (oth x o hx2 (hm x o hx e))) hS'' hl' ht''
    · show (l.map fun p => Value.ref p.1).toArray.size ≤ _
      simp
      omega
    · show ((l.map fun p => Value.ref p.1).toArray.push _).size ≤ sizeLine + 1
      simp
      omega
theorem wpAny_extend_zip (W : WalkH prog w A.in1 I S wr n P St) (hn : n ≤ sizeLine) (res : Value) (b : Nat) (hb : ∀ c, c ∈ wr → c < b) (hSb : S < b) {s : Shared} {c₀ : Nat} (hst : St 0 s.heap) (hbs : b ≤ s.heap.objs.size)
    (hS : s.heap.get? S = some { cls := .type "list", data := .seq #[] c₀ })
    (hR : ∀ h' tk l' c', (∀ x o, x ∉ wr → x ≠ S → s.heap.get? x = some o → h'.get? x = some o) → h'.get? S = some { cls := .type "list", dict := none, data := .seq (l'.map fun p => Value.ref p.1).toArray c', slots := #[] } → l'.length = n → TupsAt P b l' h' → R (.ok (.ret res)) { s with heap := h', toks := tk }) :
    wpAny (model prog w) A.in1 (Builtin.List.listExtendWith (.ref S) (.ref I) res)
      (fun fin s' => match fin with | .done f => R (.ok f) s' | .again c' => c'.quiet = true ∧ codeAny (model prog w) A c' R s') (fun e s' => R (.error e) s') s := by
  have hSI : S ≠ I := W.ne
  have hT := W.typ 0 s hst
  unfold Builtin.List.listExtendWith
  refine wpAny_bind (wpAny_typeOf hT ?_)
  have h1 : Builtin.List.listSameRef (.ref S) (.ref I) = false := by simp [Builtin.List.listSameRef, hSI]
  have h2 : (Value.type "zip" == Value.type "list") = false := by decide
  have h3 : (Value.type "zip" == Value.type "tuple") = false := by decide
  simp only [h1, h2, h3, Bool.or_false, Bool.false_eq_true, if_false]
  refine wpAny_bind (W.self 0 _ _ _ hst ?_)
  refine wpAny_bind (wpAny_holding ?_)
  unfold Builtin.List.listLengthHint
  refine wpAny_bind (wpAny_specialOf hT F.zip_no_len ?_)
  show wpAny _ A.in1 (specialOf (Value.ref I) (Str.ofString "__length_hint__") >>= _) _ _ _
  refine wpAny_bind (wpAny_specialOf hT F.zip_no_hint ?_)
  refine wpAny_pure ?_
  show wpAny _ A.in1 (rule "list.extend.makes-room" >>= fun _ => Builtin.List.listTouch (.ref S) >>= fun _ =>
    again (.builtin "list.extend.loop" ⟨[.ref S, .ref I, res], []⟩)) _ _ _
  refine wpAny_bind (wpAny_rule ?_)
  refine wpAny_bind ?_
  show wpAny _ A.in1 (updateSeq S (·.push .none) >>= fun _ => updateSeq S (·.pop)) _ _ _
  refine wpAny_bind (wpAny_updateSeq hS rfl ?_)
  have hS₂ := Heap.get?_update_self (Obj.mapSeq (·.push Value.none)) hS rfl
  refine wpAny_updateSeq (hz := by seq_fits) hS₂ rfl ?_
  have hS₃ := Heap.get?_update_self (Obj.mapSeq (·.pop)) hS₂ rfl
  have oth : ∀ b o, b ≠ S → s.heap.get? b = some o → ((s.heap.update S (Obj.mapSeq (·.push Value.none))).update S (Obj.mapSeq (·.pop))).get? b = some o :=
    fun b o hb e => (Heap.get?_update_other _ _ (Ne.symm hb)).trans ((Heap.get?_update_other _ _ (Ne.symm hb)).trans e)
  have hus : ((s.heap.update S (Obj.mapSeq (·.push Value.none))).update S (Obj.mapSeq (·.pop))).objs.size = s.heap.objs.size := ((Heap.SameBut.update ..).1).trans ((Heap.SameBut.update ..).1)
  refine wpAny_pure ⟨plainId_quiet F.plain_extend_loop _, codeAny_extend_loopH W hn res b hb hSb n 0 _ [] _ rfl (Nat.zero_le _)
    (W.frame 0 _ _ hst (Nat.le_of_eq hus.symm) oth) (by show b ≤ ((s.heap.update S _).update S _).objs.size; rw [hus]; exact hbs) hS₃ rfl TupsAt.nil fun h' tk l' c' hm hS' hl hacc => ?_⟩
  exact hR h' tk l' c' (fun x o hx hx2 e => hm x o hx hx2 (oth x o hx2 e)) hS' hl hacc
theorem wpAny_list_init_zip (W : WalkH prog w A.in1 I S wr n P St) (hn : n ≤ sizeLine) (b : Nat) (hb : ∀ c, c ∈ wr → c < b) (hSb : S < b) {s : Shared} (hst : St 0 s.heap) (hbs : b ≤ s.heap.objs.size)
    (hS : s.heap.get? S = some { cls := .type "list", data := .seq #[] })
    (hR : ∀ h' tk l' c', (∀ x o, x ∉ wr → x ≠ S → s.heap.get? x = some o → h'.get? x = some o) → h'.get? S = some { cls := .type "list", dict := none, data := .seq (l'.map fun p => Value.ref p.1).toArray c', slots := #[] } → l'.length = n → TupsAt P b l' h' → R (.ok (.ret .none)) { s with heap := h', toks := tk }) :
    wpAny (model prog w) A.in1 (Builtin.«list.__init__» ⟨[.ref S, .ref I], []⟩)
      (fun fin s' => match fin with | .done f => R (.ok f) s' | .again c' => c'.quiet = true ∧ codeAny (model prog w) A c' R s') (fun e s' => R (.error e) s') s := by
  show wpAny _ A.in1 (do let old ← Builtin.List.listItems (.ref S); Builtin.List.listUpdate (.ref S) (fun _ => #[]); letGo old.toList.reverse; Builtin.List.listExtendWith (.ref S) (.ref I) .none) _ _ s
  refine wpAny_bind ?_
  unfold Builtin.List.listItems
  refine wpAny_bind (wpAny_seqItems hS rfl (wpAny_pure ?_))
  show wpAny _ A.in1 (updateSeq S (fun _ => #[]) >>= fun _ => letGo (#[] : Array Value).toList.reverse >>= fun _ => Builtin.List.listExtendWith (.ref S) (.ref I) .none) _ _ s
  refine wpAny_bind (wpAny_updateSeq hS rfl ?_)
  have hS₂ := Heap.get?_update_self (Obj.mapSeq (fun _ => (#[] : Array Value))) hS rfl
  have oth : ∀ b o, b ≠ S → s.heap.get? b = some o → (s.heap.update S (Obj.mapSeq (fun _ => (#[] : Array Value)))).get? b = some o :=
    fun b o hb e => (Heap.get?_update_other _ _ (Ne.symm hb)).trans e
  have hus : (s.heap.update S (Obj.mapSeq (fun _ => (#[] : Array Value)))).objs.size = s.heap.objs.size := (Heap.SameBut.update ..).1
  refine wpAny_bind (wpAny_letGo ?_)
  refine wpAny_extend_zip W hn .none b hb hSb (W.frame 0 _ _ hst (Nat.le_of_eq hus.symm) oth) (by show b ≤ (s.heap.update S _).objs.size; rw [hus]; exact hbs) hS₂ fun h' tk l' c' hm hS' hl hacc => ?_
  exact hR h' tk l' c' (fun x o hx hx2 e => hm x o hx hx2 (oth x o hx2 e)) hS' hl hacc
end
section
variable {prog : Program} {w : World} {A : Around} {E : Value → Shared → Prop} {s : Shared} {I : Addr} {wr : List Addr} {n : Nat} {P : Nat → List Value → Prop} {St : Nat → Heap → Prop}
theorem call_list_zip {Q : Value → Shared → Prop} (W : WalkH prog w A.in1.in1 I s.heap.objs.size wr n P St) (hn : n ≤ sizeLine) (hwr : ∀ c, c ∈ wr → c < s.heap.objs.size) (hst : ∀ h', (∀ b o, s.heap.get? b = some o → h'.get? b = some o) → s.heap.objs.size < h'.objs.size → St 0 h')
    (hQ : ∀ h' tk l c', (∀ x o, x ∉ wr → s.heap.get? x = some o → h'.get? x = some o) → h'.get? s.heap.objs.size = some { cls := .type "list", dict := none, data := .seq (l.map fun p => Value.ref p.1).toArray c', slots := #[] } → l.length = n → TupsAt P (s.heap.objs.size + 1) l h' → Q (.ref s.heap.objs.size) { s with heap := h', toks := tk }) :
    wpAny (model prog w) A (call (.type "list") [.ref I]) Q E s := by
  refine callType_codes (Q₁ := fun obj s₁ => obj = .ref s.heap.objs.size ∧ s₁ = { s with heap := s.heap.push { cls := .type "list", data := .seq #[] } }) F.called_list (F.typeCall_list_1 _) F.entry_list_init
    (code_list_new _ ⟨rfl, rfl⟩) fun obj s₁ h₁ => ?_
  obtain ⟨rfl, rfl⟩ := h₁
  have hS : (s.heap.push { cls := .type "list", data := .seq #[] }).get? s.heap.objs.size = some { cls := .type "list", data := .seq #[] } := Heap.get?_push_size _ rfl
  have hsz : (s.heap.push { cls := .type "list", data := .seq #[] }).objs.size = s.heap.objs.size + 1 := Heap.size_push ..
  refine ⟨⟨_, hS, rfl⟩, F.args_list_init_2 _ _, wpAny_list_init_zip W hn (s.heap.objs.size + 1) (fun c hc => Nat.lt_succ_of_lt (hwr c hc)) (Nat.lt_succ_self _) (hst _ (fun b o e => Heap.get?_push_of_some _ e) (by rw [hsz]; exact Nat.lt_succ_self _)) (Nat.le_of_eq hsz.symm) hS fun h' tk l' c' hm hS' hl hacc => ?_⟩
  exact ⟨rfl, hQ h' tk l' c' (fun x o hx e => hm x o hx (Nat.ne_of_lt (Heap.lt_size e)) (Heap.get?_push_of_some _ e)) hS' hl hacc⟩
end
end PySem

set_option Elab.async false
set_option linter.all false
set_option maxRecDepth 100000
set_option maxHeartbeats 4000000
/-! PyZ: list(zip(..)). -/
namespace Py
open PySem PySem.Spec PyProof.Rows L2
/-- several new things laid -/
def updL (H : Hp) (l : List (Addr × HO)) : Hp := l.foldl (fun H p => upd H p.1 p.2) H
theorem updL_cons {H : Hp} {p : Addr × HO} {l : List (Addr × HO)} : updL H (p :: l) = updL (upd H p.1 p.2) l := rfl
theorem updL_snoc {H : Hp} {p : Addr × HO} {l : List (Addr × HO)} : updL H (l ++ [p]) = upd (updL H l) p.1 p.2 := by
  unfold updL
  rw [List.foldl_append]
  rfl
theorem updL_ne : ∀ {l : List (Addr × HO)} {H : Hp} {a : Addr}, (∀ p, p ∈ l → p.1 ≠ a) → updL H l a = H a
  | [], _, _, _ => rfl
  | p :: l, H, a, h => by
    rw [updL_cons, updL_ne fun q hq => h q (List.mem_cons_of_mem _ hq), upd_ne (h p (List.mem_cons_self ..)).symm]
theorem updL_mem : ∀ {l : List (Addr × HO)} {H : Hp}, l.Pairwise (fun p q => p.1 ≠ q.1) → ∀ {p : Addr × HO}, p ∈ l → updL H l p.1 = some p.2
  | q :: l, H, d, p, hp => by
    rw [List.pairwise_cons] at d
    rw [updL_cons]
    rcases List.mem_cons.mp hp with e | e
    · subst e
      rw [updL_ne fun q hq => (d.1 q hq).symm, upd_same]
    · exact updL_mem d.2 e
section
variable {X : Cx} {pins : List (Addr × Obj)} {σ : L2.St}
theorem laid_many : ∀ (l : List (Addr × HO)) {H : Hp} {s : Shared} {g h' : Heap} {t' : Nat}, Inv X pins σ H { s with heap := g, toks := t' } → (∀ b o, g.get? b = some o → h'.get? b = some o) → l.Pairwise (fun p q => p.1 ≠ q.1) →
    (∀ p, p ∈ l → g.get? p.1 = none ∧ H p.1 = none ∧ ∀ (H' : Hp) (g' : Heap), g'.get? p.1 = h'.get? p.1 → ObjOk X.prog X.w H' g' p.1 p.2) → Inv X pins σ (updL H l) { s with heap := h', toks := t' }
  | [], H, s, g, h', t', I, k, _, _ => I.kept (t' := t') k
  | p :: l, H, s, g, h', t', I, k, d, hl => by
    rw [List.pairwise_cons] at d
    obtain ⟨hg, hH, hok⟩ := hl p (List.mem_cons_self ..)
    obtain ⟨g', g1, g2⟩ := restrict h' fun b => (g.get? b).isSome || (b == p.1)
    have gk : ∀ b u, g.get? b = some u → g'.get? b = some u := fun b u e => by
      rw [g1 b (by simp [e])]
      exact k b u e
    have gp : g'.get? p.1 = h'.get? p.1 := g1 p.1 (by simp)
    have I2 : Inv X pins σ (upd H p.1 p.2) { s with heap := g', toks := t' } := Inv.laidN (s := { s with heap := g, toks := t' }) (t' := t') I gk hg hH (hok _ g' gp)
    rw [updL_cons]
    refine laid_many l I2 (fun b o e => ?_) d.2 fun q hq => ?_
    · cases hb : (g.get? b).isSome || (b == p.1) with
      | true => rw [← g1 b hb]; exact e
      | false => rw [g2 b hb] at e; cases e
    · obtain ⟨q1, q2, q3⟩ := hl q (List.mem_cons_of_mem _ hq)
      have hne := d.1 q hq
      refine ⟨g2 q.1 ?_, by rw [upd_ne hne.symm]; exact q2, q3⟩
      have hb : (q.1 == p.1) = false := beq_eq_false_iff_ne.mpr hne.symm
      rw [q1, hb]
      rfl
end
section
variable {c : Ct} {σ : L2.St} {env : Fm} {w : W} {G : List Addr}
theorem rel_many : ∀ (l : List (Addr × HO)) {H : Hp}, Rel c σ H env w G → l.Pairwise (fun p q => p.1 ≠ q.1) → (∀ p, p ∈ l → H p.1 = none) → Rel c σ (updL H l) env w G ∧ Step σ env G H env G (updL H l)
  | [], _, r, _, _ => ⟨r, Step.rfl'⟩
  | p :: l, H, r, d, h => by
    rw [List.pairwise_cons] at d
    rw [updL_cons]
    have hp := h p (List.mem_cons_self ..)
    obtain ⟨r2, s2⟩ := rel_many l (r.new (o := p.2) hp) d.2 fun q hq => by
      rw [upd_ne (d.1 q hq).symm]
      exact h q (List.mem_cons_of_mem _ hq)
    exact ⟨r2, (step_new hp).trans s2⟩
end
/-- what zip may walk: a list, a tuple -/
structure Src (X : Cx) (s : Shared) (pa : Addr) (its : List Value) : Prop where
  ex : ∃ (o : Obj) (Hc : Heap → Prop), Begins (.ref pa) o Hc ∧ Hc s.heap ∧ pa < s.heap.objs.size ∧ ∀ (A : Around) (it : Addr), A.handled = none → pa ≠ it →
    ∃ St : Nat → Heap → Prop, Draws X.prog X.w A it [it, pa] its.length (fun i v => its[i]? = some v) St ∧ ∀ h' : Heap, (∀ b u, s.heap.get? b = some u → h'.get? b = some u) → h'.get? it = some o → St 0 h'
theorem src_of {X : Cx} {pins : List (Addr × Obj)} {σ : L2.St} {H : Hp} {s : Shared} {c : Mo} {ok : Addr → Prop} {G : List Addr} {v : V} {d : D} {xs : List D} (I : Inv X pins σ H s) (p : Rep c H ok G v d) (hd : seqOf d = some xs) :
    ∃ pa vs its, v = .ref pa ∧ Vals vs its ∧ Reps c H ok G vs xs ∧ vs.length ≤ sizeLine ∧ Src X s pa its := by
  cases p <;> first | cases hd | skip
  · rename_i a vs h r
    obtain ⟨its, rv, pt, hz⟩ := I.tuple (.inl (.inl h))
    have pt2 : s.heap.IsTuple a its.toArray := pt
    refine ⟨a, vs, its, rfl, rv, r, hz, ⟨⟨_, _, begins_tuple a its.toArray, pt2, ?_, fun A it hh hne => ⟨fun i h => h.IsTupleIter it a i ∧ h.IsTuple a its.toArray, ?_, fun h' hk hit => ⟨⟨_, hit, rfl, rfl⟩, pt2.at fun o e => hk _ _ e⟩⟩⟩⟩⟩
    · obtain ⟨o, ho, _⟩ := pt2
      exact Heap.lt_size ho
    · have D := Draws.tuple (prog := X.prog) (w := X.w) hh it a hne its.toArray
      simpa using D
  · rename_i a vs o h r
    obtain ⟨its, rv, pl, hz⟩ := I.list (.inl (.inl h))
    have pl2 := pl.isList
    refine ⟨a, vs, its, rfl, rv, r, hz, ⟨⟨_, _, begins_list a its.toArray, pl2, pl.lt, fun A it hh hne => ⟨fun i h => h.IsListIter it a i ∧ h.IsList a its.toArray, ?_, fun h' hk hit => ⟨⟨_, hit, rfl, rfl⟩, pl2.at fun o e => hk _ _ e⟩⟩⟩⟩⟩
    have D := Draws.list (prog := X.prog) (w := X.w) hh it a hne its.toArray
    simpa using D
/-- the tuples that zip made, as tracked things -/
theorem lay2 {P : Nat → List Value → Prop} {c : Mo} : ∀ (l : List (Addr × List Value)) (vs us : List V) (is js : List Value) (xs ys : List D) (H : Hp) (ok : Addr → Prop) (G : List Addr), Vals vs is → Vals us js → Reps c H ok G vs xs → Reps c H ok G us ys → l.length = min is.length js.length →
    (∀ (j : Nat) p, l[j]? = some p → ∃ x1 x2, is[j]? = some x1 ∧ js[j]? = some x2 ∧ p.2 = [x1, x2]) → ∃ lv : List (Addr × List V), lv.map (·.1) = l.map (·.1) ∧ (∀ p, p ∈ lv → p.2.length ≤ 3 ∧ ∃ ws, Vals p.2 ws ∧ (p.1, ws) ∈ l) ∧
      ∀ (H' : Hp) (ok' : Addr → Prop) (G' : List Addr), Reps c H' ok' G' vs xs → Reps c H' ok' G' us ys → (∀ p, p ∈ lv → H' p.1 = some (.tup p.2)) → Reps c H' ok' G' (lv.map fun p => V.ref p.1) (zip2 xs ys)
  | l, [], us, _, js, _, ys, H, ok, G, .nil, _, .nil, _, hl, _ => by
    have : l = [] := List.length_eq_zero_iff.mp (by rw [hl]; simp)
    subst this
    exact ⟨[], rfl, fun _ h => (nomatch h), fun _ _ _ _ _ _ => .nil⟩
  | l, v :: vs, [], _, _, _, _, H, ok, G, .cons _ _, .nil, .cons _ _, .nil, hl, _ => by
    have : l = [] := List.length_eq_zero_iff.mp (by rw [hl]; simp)
    subst this
    exact ⟨[], rfl, fun _ h => (nomatch h), fun _ _ _ _ _ _ => .nil⟩
  | [], v :: vs, u :: us, _, _, _, _, H, ok, G, .cons _ _, .cons _ _, .cons _ _, .cons _ _, hl, _ => by
    simp only [List.length_cons, List.length_nil] at hl
    omega
  | p :: l, v :: vs, u :: us, _, _, _, _, H, ok, G, .cons (b := i) (l₂ := is) hi ti, .cons (b := j) (l₂ := js) hj tj, .cons (d := x) (ds := xs) hx tx, .cons (d := y) (ds := ys) hy ty, hl, hP => by
    obtain ⟨x1, x2, e1, e2, e3⟩ := hP 0 p rfl
    cases e1
    cases e2
    obtain ⟨lv, m1, m2, m3⟩ := lay2 (P := P) l vs us is js xs ys H ok G ti tj tx ty (by simp only [List.length_cons] at hl; omega) fun j q hq => hP (j + 1) q hq
    refine ⟨(p.1, [v, u]) :: lv, by rw [List.map_cons, List.map_cons, m1], fun q hq => ?_, fun H' ok' G' hxs hys hH => ?_⟩
    · rcases List.mem_cons.mp hq with e | e
      · subst e
        exact ⟨(by decide : 2 ≤ 3), [i, j], .cons hi (.cons hj .nil), by rw [← e3]; exact List.mem_cons_self ..⟩
      · obtain ⟨a, ws, b1, b2⟩ := m2 q e
        exact ⟨a, ws, b1, List.mem_cons_of_mem _ b2⟩
    · cases hxs with
      | cons hx txs => cases hys with
        | cons hy tys => exact .cons (.tup (hH _ (List.mem_cons_self ..)) (.cons hx (.cons hy .nil))) (m3 H' ok' G' txs tys fun q hq => hH q (List.mem_cons_of_mem _ hq))
theorem lay3 {P : Nat → List Value → Prop} {c : Mo} : ∀ (l : List (Addr × List Value)) (vs us ts : List V) (is js ks : List Value) (xs ys zs : List D) (H : Hp) (ok : Addr → Prop) (G : List Addr), Vals vs is → Vals us js → Vals ts ks → Reps c H ok G vs xs → Reps c H ok G us ys → Reps c H ok G ts zs → l.length = min is.length (min js.length ks.length) →
    (∀ (j : Nat) p, l[j]? = some p → ∃ x1 x2 x3, is[j]? = some x1 ∧ js[j]? = some x2 ∧ ks[j]? = some x3 ∧ p.2 = [x1, x2, x3]) → ∃ lv : List (Addr × List V), lv.map (·.1) = l.map (·.1) ∧ (∀ p, p ∈ lv → p.2.length ≤ 3 ∧ ∃ ws, Vals p.2 ws ∧ (p.1, ws) ∈ l) ∧
      ∀ (H' : Hp) (ok' : Addr → Prop) (G' : List Addr), Reps c H' ok' G' vs xs → Reps c H' ok' G' us ys → Reps c H' ok' G' ts zs → (∀ p, p ∈ lv → H' p.1 = some (.tup p.2)) → Reps c H' ok' G' (lv.map fun p => V.ref p.1) (zip3 xs ys zs)
  | l, [], us, ts, _, js, ks, _, ys, zs, H, ok, G, .nil, _, _, .nil, _, _, hl, _ => by
    have : l = [] := List.length_eq_zero_iff.mp (by rw [hl]; simp)
    subst this
    exact ⟨[], rfl, fun _ h => (nomatch h), fun _ _ _ _ _ _ _ => .nil⟩
  | l, v :: vs, [], ts, _, _, ks, _, _, zs, H, ok, G, .cons _ _, .nil, _, .cons _ _, .nil, _, hl, _ => by
    have : l = [] := List.length_eq_zero_iff.mp (by rw [hl]; simp)
    subst this
    exact ⟨[], rfl, fun _ h => (nomatch h), fun _ _ _ _ _ _ _ => .nil⟩
  | l, v :: vs, u :: us, [], _, _, _, _, _, _, H, ok, G, .cons _ _, .cons _ _, .nil, .cons _ _, .cons _ _, .nil, hl, _ => by
    have : l = [] := List.length_eq_zero_iff.mp (by rw [hl]; simp)
    subst this
    exact ⟨[], rfl, fun _ h => (nomatch h), fun _ _ _ _ _ _ _ => .nil⟩
  | [], v :: vs, u :: us, t :: ts, _, _, _, _, _, _, H, ok, G, .cons _ _, .cons _ _, .cons _ _, .cons _ _, .cons _ _, .cons _ _, hl, _ => by
    simp only [List.length_cons, List.length_nil] at hl
    omega
  | p :: l, v :: vs, u :: us, t :: ts, _, _, _, _, _, _, H, ok, G, .cons (b := i) (l₂ := is) hi ti, .cons (b := j) (l₂ := js) hj tj, .cons (b := k) (l₂ := ks) hk tk, .cons (d := x) (ds := xs) hx tx, .cons (d := y) (ds := ys) hy ty, .cons (d := z) (ds := zs) hz tz, hl, hP => by
    obtain ⟨x1, x2, x3, e1, e2, e3, e4⟩ := hP 0 p rfl
    cases e1
    cases e2
    cases e3
    obtain ⟨lv, m1, m2, m3⟩ := lay3 (P := P) l vs us ts is js ks xs ys zs H ok G ti tj tk tx ty tz (by simp only [List.length_cons] at hl; omega) fun j q hq => hP (j + 1) q hq
    refine ⟨(p.1, [v, u, t]) :: lv, by rw [List.map_cons, List.map_cons, m1], fun q hq => ?_, fun H' ok' G' hxs hys hzs hH => ?_⟩
    · rcases List.mem_cons.mp hq with e | e
      · subst e
        exact ⟨(by decide : 3 ≤ 3), [i, j, k], .cons hi (.cons hj (.cons hk .nil)), by rw [← e4]; exact List.mem_cons_self ..⟩
      · obtain ⟨a, ws, b1, b2⟩ := m2 q e
        exact ⟨a, ws, b1, List.mem_cons_of_mem _ b2⟩
    · cases hxs with
      | cons hx txs => cases hys with
        | cons hy tys => cases hzs with
          | cons hz tzs => exact .cons (.tup (hH _ (List.mem_cons_self ..)) (.cons hx (.cons hy (.cons hz .nil)))) (m3 H' ok' G' txs tys tzs fun q hq => hH q (List.mem_cons_of_mem _ hq))
theorem zn (N k j : Nat) (h : j < k) : N + k ≠ N + j := by omega
theorem zf (N a k m : Nat) (ha : a < N) (hk : k < m) : N + m ∉ [N + k, a] := by
  simp only [List.mem_cons, List.not_mem_nil, or_false, not_or]
  omega
theorem zw2 {N x : Nat} (h : x ∈ [N + 4, N + 3, N, N + 1]) : N ≤ x ∧ x < N + 5 := by
  simp only [List.mem_cons, List.not_mem_nil, or_false] at h
  omega
theorem zw3 {N x : Nat} (h : x ∈ [N + 5, N + 4, N, N + 1, N + 2]) : N ≤ x ∧ x < N + 6 := by
  simp only [List.mem_cons, List.not_mem_nil, or_false] at h
  omega
/-- the end of list(zip(..)) -/
theorem zip_end {X : Cx} {pins : List (Addr × Obj)} {σ : L2.St} {H : Hp} {s : Shared} {h' : Heap} {tk S c' : Nat} {P : Nat → List Value → Prop} {l : List (Addr × List Value)} {lv : List (Addr × List V)} {c : Ct} {env : Fm} {w : W} {G : List Addr}
    (I : Inv X pins σ H s) (r : Rel c σ H env w G) (hS0 : s.heap.objs.size ≤ S) (hk : ∀ x o, s.heap.get? x = some o → h'.get? x = some o) (hS : h'.get? S = some { cls := .type "list", dict := none, data := .seq (l.map fun p => Value.ref p.1).toArray c', slots := #[] }) (hn : l.length ≤ sizeLine) (ht : TupsAt P (S + 1) l h')
    (m1 : lv.map (·.1) = l.map (·.1)) (m2 : ∀ p, p ∈ lv → p.2.length ≤ 3 ∧ ∃ ws, Vals p.2 ws ∧ (p.1, ws) ∈ l) :
    ∃ H1 : Hp, Rel c σ H1 env w G ∧ Step σ env G H env G H1 ∧ H1 S = none ∧ (∀ p, p ∈ lv → H1 p.1 = some (.tup p.2)) ∧ Inv X pins σ (upd H1 S (.lst (lv.map fun p => V.ref p.1))) { s with heap := h', toks := tk } := by
  obtain ⟨t1, t2, _⟩ := ht
  have lt1 : ∀ p, p ∈ lv → S < p.1 := fun p hp => by
    obtain ⟨_, ws, _, hm⟩ := m2 p hp
    exact (t2 _ hm).1
  have pw : lv.Pairwise (fun p q => p.1 ≠ q.1) := by
    have h1 : (l.map (·.1)).Pairwise (· < ·) := List.pairwise_map.mpr t1
    rw [← m1] at h1
    exact (List.pairwise_map.mp h1).imp fun h => Nat.ne_of_lt h
  have pwL : (lv.map fun p => (p.1, HO.tup p.2)).Pairwise (fun p q => p.1 ≠ q.1) := List.pairwise_map.mpr pw
  have fr : ∀ p, p ∈ lv → H p.1 = none := fun p hp => I.hok.fresh (Nat.le_of_lt (Nat.lt_of_le_of_lt hS0 (lt1 p hp)))
  have memL : ∀ p, p ∈ (lv.map fun p => (p.1, HO.tup p.2)) → ∃ q, q ∈ lv ∧ p = (q.1, HO.tup q.2) := fun p hp => by
    obtain ⟨q, hq, e⟩ := List.mem_map.mp hp
    exact ⟨q, hq, e.symm⟩
  obtain ⟨r1, s1⟩ := rel_many (lv.map fun p => (p.1, HO.tup p.2)) r pwL fun p hp => by
    obtain ⟨q, hq, rfl⟩ := memL p hp
    exact fr q hq
  have hSn : updL H (lv.map fun p => (p.1, HO.tup p.2)) S = none := by
    rw [updL_ne fun p hp => ?_]
    · exact I.hok.fresh hS0
    · obtain ⟨q, hq, rfl⟩ := memL p hp
      exact Nat.ne_of_gt (lt1 q hq)
  have none_of : ∀ a, s.heap.objs.size ≤ a → s.heap.get? a = none := fun a ha => by
    cases e : s.heap.get? a with
    | none => rfl
    | some o => exact absurd (Heap.lt_size e) (Nat.not_lt.mpr ha)
  refine ⟨updL H (lv.map fun p => (p.1, HO.tup p.2)), r1, s1, hSn, fun p hp => updL_mem (H := H) pwL (List.mem_map.mpr ⟨p, hp, rfl⟩), ?_⟩
  have e : upd (updL H (lv.map fun p => (p.1, HO.tup p.2))) S (.lst (lv.map fun p => V.ref p.1)) = updL H ((lv.map fun p => (p.1, HO.tup p.2)) ++ [(S, .lst (lv.map fun p => V.ref p.1))]) := (updL_snoc (p := (S, HO.lst (lv.map fun p => V.ref p.1)))).symm
  rw [e]
  have I0 : Inv X pins σ H { s with heap := s.heap, toks := tk } := I.kept (t' := tk) fun b u e => e
  refine laid_many _ I0 hk ?_ fun p hp => ?_
  · rw [List.pairwise_append]
    refine ⟨pwL, List.pairwise_singleton _ _, fun p hp q hq => ?_⟩
    obtain ⟨q', hq', rfl⟩ := memL p hp
    rw [List.mem_singleton.mp hq]
    exact Nat.ne_of_gt (lt1 q' hq')
  · rcases List.mem_append.mp hp with hp | hp
    · obtain ⟨q, hq, rfl⟩ := memL p hp
      refine ⟨none_of _ (Nat.le_of_lt (Nat.lt_of_le_of_lt hS0 (lt1 q hq))), fr q hq, fun H' g' hg => ?_⟩
      obtain ⟨a, ws, b1, b2⟩ := m2 q hq
      refine ⟨Nat.le_trans a (by decide), ws, b1, ?_⟩
      have := (t2 _ b2).2
      rw [← hg] at this
      exact ⟨_, this, rfl, _, rfl⟩
    · rw [List.mem_singleton.mp hp]
      refine ⟨none_of _ hS0, I.hok.fresh hS0, fun H' g' hg => ⟨?_, l.map fun p => Value.ref p.1, c', ?_, by rw [hg]; exact hS⟩⟩
      · rw [List.length_map]
        have := congrArg List.length m1
        rw [List.length_map, List.length_map] at this
        rw [this]
        exact hn
      · have go : ∀ {as : List Addr}, Vals (as.map V.ref) (as.map Value.ref) := fun {as} => by
          induction as with
          | nil => exact .nil
          | cons a as ih => exact .cons rfl ih
        have e1 : (lv.map fun p => V.ref p.1) = (lv.map (·.1)).map V.ref := by rw [List.map_map]; rfl
        have e2 : (l.map fun p => Value.ref p.1) = (l.map (·.1)).map Value.ref := by rw [List.map_map]; rfl
        rw [e1, e2, m1]
        exact go
section
variable {G : Gam} {c : Ct} {R : Exn → Fm → W → Prop} {sc : Scope} {k : Nat} {X : Cx} {pos : Pos}
theorem s_zip (ok : XOk G c R sc k X) {es : Es} {args : List Expr} {p p2 pos2 : Pos} (hg : glB sc "list" = true) (hg2 : glB sc "zip" = true) (ha : PA X args (tEs G c R es)) (hs : ∀ z, z ∈ args → isStar z = false) (hl : args.length = es.len) : PE X (.Call (.Name "list" p) [.Call (.Name "zip" p2) args [] pos2] [] pos) (tE G c R (.zipL es)) := by
  refine ⟨fun pins s σ H Q I ⟨env, w, Gh, Q', r, hw, q⟩ => ?_⟩
  replace hw : wpEs G R es env w fun ds env w => zipD ds fun y => Q' y env w := hw
  cases args with
  | nil =>
    cases es with
    | nil => exact hw.elim
    | cons a r => cases hl
  | cons e0 args =>
    have na : starEach [.Call (.Name "zip" p2) (e0 :: args) [] pos2] X.env = (false, eval (.Call (.Name "zip" p2) (e0 :: args) [] pos2) X.env) :: starEach [] X.env := rfl
    have he : starEach (e0 :: args) X.env = (false, eval e0 X.env) :: starEach args X.env := star_ok (hs e0 (List.mem_cons_self ..))
    have hpl : (backTo pos2 (starEach args X.env)).any (·.1) = false := star_plain fun z hz => hs z (List.mem_cons_of_mem _ hz)
    refine Call_ (ld_blt I (ok.gl _ hg) (ok.bltX (by decide)) boot_list (PyProof.Rows.callWith_type1 (args_cons (thn (Q := fun x s' => wpAny (model X.prog X.w) X.A (call (.type "list") [x]) (EP X pins σ Q) X.xe s') ?_ fun x s1 h => args_nil h) na) na))
    refine Call_ (ld_blt I (ok.gl _ hg2) (ok.bltX (by decide)) PyProof.Rows.boot_zip (PyProof.Rows.callWith_type1 (thn (ha.run pos2 pins s σ H (fun vs H1 => ∃ ds env1 w1 G1, Rel c σ H1 env1 w1 G1 ∧ Step σ env Gh H env1 G1 H1 ∧ Reps c.m H1 (Okk c.O σ env1 G1) G1 vs ds ∧ zipD ds fun y => Q' y env1 w1) I
      ⟨env, w, Gh, _, r, hw, fun vs H1 ds env1 w1 G1 r1 s1 p1 _ h1 => ⟨ds, env1, w1, G1, r1, s1, p1, h1⟩⟩) fun us s1 ⟨vs, H1, I1, rv, ds, env1, w1, G1, r1, st1, p1, hz⟩ => ?_) he hpl))
    have hh := I1.ok.hd ok.calm
    match ds, hz with
    | [da, db], hz =>
      cases ea : seqOf da with
      | none => simp only [zipD, ea] at hz
      | some xs =>
      cases eb : seqOf db with
      | none => simp only [zipD, ea, eb] at hz
      | some ys =>
      simp only [zipD, ea, eb] at hz
      cases p1 with
      | cons pa p1 => cases p1 with
        | cons pb p1 =>
        cases p1
        obtain ⟨a, vs1, is, rfl, va, ra, za, ⟨oa, Ha, Ba, ha1, la, Da⟩⟩ := src_of I1 pa ea
        obtain ⟨b, vs2, js, rfl, vb, rb, zb, ⟨ob, Hb, Bb, hb1, lb, Db⟩⟩ := src_of I1 pb eb
        cases rv with
        | cons rv1 rv => cases rv with
          | cons rv2 rv =>
          cases rv
          cases rv1
          cases rv2
          refine zip_begins2 Ba Bb ha1 hb1 fun h' hz1 hTI hTO g1 g2 hsz hkeep => ?_
          obtain ⟨St1, D1, st1'⟩ := Da X.A.in1.in1.in1 s1.heap.objs.size hh (Nat.ne_of_lt la)
          obtain ⟨St2, D2, st2'⟩ := Db X.A.in1.in1.in1 (s1.heap.objs.size + 1) hh (Nat.ne_of_lt (Nat.lt_succ_of_lt lb))
          have Z := zip_sep2 (N := s1.heap.objs.size) (fp1 := [a]) (fp2 := [b]) (fun x hx => by rw [List.mem_singleton.mp hx]; exact la) (fun x hx => by rw [List.mem_singleton.mp hx]; exact lb)
          have la' : a < s1.heap.objs.size := la
          have lb' : b < s1.heap.objs.size := lb
          have hS : ({ s1 with heap := h' } : Shared).heap.objs.size = s1.heap.objs.size + 5 := hsz
          have W := WalkH.zip2 (prog := X.prog) (w := X.w) (A := X.A.in1.in1) (S := s1.heap.objs.size + 5) Z D1 D2 (zn _ 5 4 (by decide)) (zn _ 5 2 (by decide)) (zn _ 5 3 (by decide)) (zf _ a 0 5 la (by decide)) (zf _ b 1 5 lb (by decide))
          have lvs : vs1.length = is.length := va.length
          have hmin : min is.length js.length ≤ sizeLine := Nat.le_trans (Nat.min_le_left _ _) (by rw [← lvs]; exact za)
          rw [← hS] at W
          refine call_list_zip W hmin (fun x hx => ?_) (fun h2 hk2 hs2 => ⟨.inl (hk2 _ _ hz1), hs2, hk2 _ _ hTI, ⟨_, _, hk2 _ _ hTO⟩, st1' h2 (fun b u e => hk2 _ _ (hkeep _ _ e)) (hk2 _ _ g1), st2' h2 (fun b u e => hk2 _ _ (hkeep _ _ e)) (hk2 _ _ g2)⟩) fun h2 tk l c' hm hSl hlen ht => ?_
          · rw [hS]
            exact (zw2 hx).2
          · obtain ⟨lv, m1, m2, m3⟩ := lay2 (P := fun _ _ => True) l vs1 vs2 is js xs ys H1 _ _ va vb ra rb hlen fun j q hq => ht.2.2 j q hq
            obtain ⟨H2, r2, st2, hSn, hlv, I2⟩ := zip_end (tk := tk) I1 r1 (Nat.le_trans (Nat.le_add_right _ 5) (Nat.le_of_eq hS.symm)) (fun x o e => hm x o (fun hx => absurd (Heap.lt_size e) (Nat.not_lt.mpr (zw2 hx).1)) (hkeep _ _ e)) hSl (by rw [hlen]; exact hmin) ht m1 m2
            have rz := m3 H2 _ G1 (ra.step st2 r1) (rb.step st2 r1) hlv
            have s3 : Step σ env1 G1 H2 env1 G1 (upd H2 ({ s1 with heap := h' } : Shared).heap.objs.size (.lst (lv.map fun p => V.ref p.1))) := step_new hSn
            refine ⟨V.ref ({ s1 with heap := h' } : Shared).heap.objs.size, _, I2, rfl, q _ _ _ env1 w1 G1 (r2.new hSn) ((st1.trans st2).trans s3) (.lst (r2.okNew hSn) upd_same (rz.step s3 r2)) (fun _ _ => ⟨_, H2, _, _, rfl, rfl, (st1.trans st2).none_of hSn, hSn, r2, rfl, rz⟩) hz⟩
    | [da, db, dc], hz =>
      cases ea : seqOf da with
      | none => simp only [zipD, ea] at hz
      | some xs =>
      cases eb : seqOf db with
      | none => simp only [zipD, ea, eb] at hz
      | some ys =>
      cases ec : seqOf dc with
      | none => simp only [zipD, ea, eb, ec] at hz
      | some zs =>
      simp only [zipD, ea, eb, ec] at hz
      cases p1 with
      | cons pa p1 => cases p1 with
        | cons pb p1 => cases p1 with
        | cons pc p1 =>
        cases p1
        obtain ⟨a, vs1, is, rfl, va, ra, za, ⟨oa, Ha, Ba, ha1, la, Da⟩⟩ := src_of I1 pa ea
        obtain ⟨b, vs2, js, rfl, vb, rb, zb, ⟨ob, Hb, Bb, hb1, lb, Db⟩⟩ := src_of I1 pb eb
        obtain ⟨d, vs3, ks, rfl, vd, rd, zd, ⟨od, Hd, Bd, hd1, ld, Dd⟩⟩ := src_of I1 pc ec
        cases rv with
        | cons rv1 rv => cases rv with
          | cons rv2 rv => cases rv with
          | cons rv3 rv =>
          cases rv
          cases rv1
          cases rv2
          cases rv3
          refine zip_begins3 Ba Bb Bd ha1 hb1 hd1 fun h' hz1 hTI hTO g1 g2 g3 hsz hkeep => ?_
          obtain ⟨St1, D1, st1'⟩ := Da X.A.in1.in1.in1 s1.heap.objs.size hh (Nat.ne_of_lt la)
          obtain ⟨St2, D2, st2'⟩ := Db X.A.in1.in1.in1 (s1.heap.objs.size + 1) hh (Nat.ne_of_lt (Nat.lt_succ_of_lt lb))
          obtain ⟨St3, D3, st3'⟩ := Dd X.A.in1.in1.in1 (s1.heap.objs.size + 2) hh (Nat.ne_of_lt (Nat.lt_succ_of_lt (Nat.lt_succ_of_lt ld)))
          have Z := zip_sep3 (N := s1.heap.objs.size) (fp1 := [a]) (fp2 := [b]) (fp3 := [d]) (fun x hx => by rw [List.mem_singleton.mp hx]; exact la) (fun x hx => by rw [List.mem_singleton.mp hx]; exact lb) (fun x hx => by rw [List.mem_singleton.mp hx]; exact ld)
          have la' : a < s1.heap.objs.size := la
          have lb' : b < s1.heap.objs.size := lb
          have hS : ({ s1 with heap := h' } : Shared).heap.objs.size = s1.heap.objs.size + 6 := hsz
          have W := WalkH.zip3 (prog := X.prog) (w := X.w) (A := X.A.in1.in1) (S := s1.heap.objs.size + 6) Z D1 D2 D3 (zn _ 6 5 (by decide)) (zn _ 6 3 (by decide)) (zn _ 6 4 (by decide)) (zf _ a 0 6 la (by decide)) (zf _ b 1 6 lb (by decide)) (zf _ d 2 6 ld (by decide))
          have lvs : vs1.length = is.length := va.length
          have hmin : min is.length (min js.length ks.length) ≤ sizeLine := Nat.le_trans (Nat.min_le_left _ _) (by rw [← lvs]; exact za)
          rw [← hS] at W
          refine call_list_zip W hmin (fun x hx => ?_) (fun h2 hk2 hs2 => ⟨.inl (hk2 _ _ hz1), hs2, hk2 _ _ hTI, ⟨_, _, _, hk2 _ _ hTO⟩, st1' h2 (fun b u e => hk2 _ _ (hkeep _ _ e)) (hk2 _ _ g1), st2' h2 (fun b u e => hk2 _ _ (hkeep _ _ e)) (hk2 _ _ g2), st3' h2 (fun b u e => hk2 _ _ (hkeep _ _ e)) (hk2 _ _ g3)⟩) fun h2 tk l c' hm hSl hlen ht => ?_
          · rw [hS]
            exact (zw3 hx).2
          · obtain ⟨lv, m1, m2, m3⟩ := lay3 (P := fun _ _ => True) l vs1 vs2 vs3 is js ks xs ys zs H1 _ _ va vb vd ra rb rd hlen fun j q hq => ht.2.2 j q hq
            obtain ⟨H2, r2, st2, hSn, hlv, I2⟩ := zip_end (tk := tk) I1 r1 (Nat.le_trans (Nat.le_add_right _ 6) (Nat.le_of_eq hS.symm)) (fun x o e => hm x o (fun hx => absurd (Heap.lt_size e) (Nat.not_lt.mpr (zw3 hx).1)) (hkeep _ _ e)) hSl (by rw [hlen]; exact hmin) ht m1 m2
            have rz := m3 H2 _ G1 (ra.step st2 r1) (rb.step st2 r1) (rd.step st2 r1) hlv
            have s3 : Step σ env1 G1 H2 env1 G1 (upd H2 ({ s1 with heap := h' } : Shared).heap.objs.size (.lst (lv.map fun p => V.ref p.1))) := step_new hSn
            refine ⟨V.ref ({ s1 with heap := h' } : Shared).heap.objs.size, _, I2, rfl, q _ _ _ env1 w1 G1 (r2.new hSn) ((st1.trans st2).trans s3) (.lst (r2.okNew hSn) upd_same (rz.step s3 r2)) (fun _ _ => ⟨_, H2, _, _, rfl, rfl, (st1.trans st2).none_of hSn, hSn, r2, rfl, rz⟩) hz⟩
end
end Py

set_option Elab.async false
set_option linter.all false
set_option maxRecDepth 100000
set_option maxHeartbeats 4000000
/-! PyO: every expression that the look passes does what its small tree says. -/
namespace Py
open PySem PySem.Spec PyProof.Rows L2
section
variable {G : Gam} {c : Ct} {R : Exn → Fm → W → Prop} {sc : Scope} {k : Nat} {X : Cx} {pos : Pos}
theorem pt_false {e : E} {x : Expr} (h : wpC G R e = fun _ _ _ => False) : PT X x (tC' G c R e) := ⟨fun pins s σ H Q I ⟨env, w, Gh, Q', r, hw, q⟩ => by
  rw [h] at hw
  exact hw.elim⟩
theorem and2 {a b : Bool} (h : (a && b) = true) : a = true ∧ b = true := Bool.and_eq_true_iff.mp h
theorem not1 {a : Bool} (h : (!a) = true) : a = false := by cases a <;> first | rfl | cases h
theorem chkEs_len : ∀ {es : Es} {xs : List Expr}, chkEs G sc es xs = true → xs.length = es.len
  | .nil, [], _ => rfl
  | .nil, _ :: _, h => nomatch h
  | .cons _ _, [], h => nomatch h
  | .cons a r, x :: xs, h => congrArg Nat.succ (chkEs_len (and2 (show (!isStar x && chkE G sc a x && chkEs G sc r xs) = true from h)).2)
theorem chkEs_star : ∀ {es : Es} {xs : List Expr}, chkEs G sc es xs = true → ∀ z, z ∈ xs → isStar z = false
  | .nil, [], _, z, hz => nomatch hz
  | .nil, _ :: _, h, _, _ => nomatch h
  | .cons _ _, [], h, _, _ => nomatch h
  | .cons a r, x :: xs, h, z, hz => by
    have h1 := and2 (show (!isStar x && chkE G sc a x && chkEs G sc r xs) = true from h)
    have h2 := and2 h1.1
    rcases List.mem_cons.mp hz with e | e
    · subst e
      exact not1 h2.1
    · exact chkEs_star h1.2 z e
theorem chkEs_nil {es : Es} {xs : List Expr} (h : chkEs G sc es xs = true) (e : xs = []) : es = .nil := by
  subst e
  cases es with
  | nil => rfl
  | cons a r => cases h
theorem own_of (ok : XOk G c R sc k X) {scope : Scope} {own : List (Str × Nat)} (h : blkC G.N sc scope own = true) {i : Nat} {x : Str} (hi : nameIs G.N i x = true) (hx : locB scope x = true) : i ∈ own.map (·.2) := by
  have b := blkOk_by h
  have hN : G.N[i]? = some x := of_decide_eq_true hi
  have hm : x ∈ G.N := List.mem_of_getElem? hN
  have key : ∀ kd : NameKind, scope.names.lookup x = some kd → (kd = .local ∨ kd = .cell) → i ∈ own.map (·.2) := fun kd e hk => by
    rcases b.own (x, kd) (PySem.mem_of_lookup e) hk with z | z
    · obtain ⟨p, hp, e1⟩ := List.mem_map.mp z
      have e2 := b.ix p hp
      have e1 : p.1 = x := e1
      rw [e1] at e2
      have : p.2 = i := (List.getElem?_inj (List.getElem?_eq_some_iff.mp e2).1 ok.nd).mp (e2.trans hN.symm)
      exact List.mem_map.mpr ⟨p, hp, this⟩
    · exact absurd hm z
  rcases loc_cases hx with e | e
  · exact key _ e (.inl rfl)
  · exact key _ e (.inr rfl)
theorem own_ofs (ok : XOk G c R sc k X) {scope : Scope} {own : List (Str × Nat)} (h : blkC G.N sc scope own = true) : ∀ {l : List Nat} {es : List Expr}, chkNs G.N scope l es = true → ∀ i, i ∈ l → i ∈ own.map (·.2)
  | [], _, _, _, hi => nomatch hi
  | j :: l, [], hc, _, _ => by cases hc
  | j :: l, .Name x _ :: es, hc, i, hi => by
    have h1 := and2 (show (nameIs G.N j x && locB scope x && chkNs G.N scope l es) = true from hc)
    have h2 := and2 h1.1
    rcases List.mem_cons.mp hi with e | e
    · subst e
      exact own_of ok h h2.1 h2.2
    · exact own_ofs ok h h1.2 i e
theorem own_ofT (ok : XOk G c R sc k X) {scope : Scope} {own : List (Str × Nat)} (h : blkC G.N sc scope own = true) {t : T} {e : Expr} (hc : chkT G.N scope t e = true) : ∀ i, i ∈ t.sl → i ∈ own.map (·.2) := by
  intro i hi
  cases t with
  | n j =>
    cases e <;> try (cases hc)
    rename_i x p
    have h1 := and2 (show (nameIs G.N j x && locB scope x) = true from hc)
    have e := List.mem_singleton.mp hi
    subst e
    exact own_of ok h h1.1 h1.2
  | t l =>
    cases e <;> try (cases hc)
    exact own_ofs ok h (show chkNs G.N scope l _ = true from hc) i hi
theorem notSelf {own : List (Str × Nat)} {b : Bool} (h : (!b || !(own.map (·.2)).contains 0) = true) : b = true → 0 ∉ own.map (·.2) := fun e z => by
  subst e
  have : (own.map (·.2)).contains 0 = true := List.contains_iff_mem.mpr z
  rw [this] at h
  cases h
theorem en_of {it : I} {t : Expr} (h : enB it t = true) : ∀ a, it = .enum a → ∃ es n p, t = .Tuple es n p := fun a e => by
  subst e
  cases t <;> first | (cases h; done) | exact ⟨_, _, _, rfl⟩
end
variable {G : Gam}
mutual
theorem sE : ∀ (e : E) {x : Expr} {c : Ct} {R : Exn → Fm → W → Prop} {sc : Scope} {k : Nat} {X : Cx}, XOk G c R sc k X → chkE G sc e x = true → PE X x (tE G c R e) ∧ PT X x (tC' G c R e)
  | .v i, x, c, R, sc, k, X, ok, h => by
    cases x <;> try (cases h)
    rename_i y p
    have h1 := and2 (show (nameIs G.N i y && visB sc y && plainN y) = true from h)
    have h2 := and2 h1.1
    exact ⟨s_v ok h2.1 h2.2 h1.2, s_tstV rfl (s_vPk ok h2.1 h2.2 h1.2)⟩
  | .ci i, x, c, R, sc, k, X, ok, h => by
    cases x <;> try (cases h)
    rename_i v j p
    cases v <;> try (cases h)
    have e : i = _ := of_decide_eq_true h
    subst e
    exact ⟨s_ci, pt_false rfl⟩
  | .cb i, x, c, R, sc, k, X, ok, h => by
    cases x <;> try (cases h)
    rename_i v j p
    cases v <;> try (cases h)
    have e : i = _ := of_decide_eq_true h
    subst e
    exact ⟨s_cb, pt_false rfl⟩
  | .cn, x, c, R, sc, k, X, ok, h => by
    cases x <;> try (cases h)
    rename_i v j p
    cases v <;> try (cases h)
    exact ⟨s_cn, pt_false rfl⟩
  | .cs i, x, c, R, sc, k, X, ok, h => by
    cases x <;> try (cases h)
    rename_i v j p
    cases v <;> try (cases h)
    have e : i = _ := of_decide_eq_true h
    subst e
    exact ⟨s_cs, pt_false rfl⟩
  | .gi i, x, c, R, sc, k, X, ok, h => by
    cases x <;> try (cases h)
    rename_i y p
    replace h : (match G.gis[i]? with
      | some p => decide (p.1 = y) && glB sc y && plainN y
      | none => false) = true := h
    cases e : G.gis[i]? with
    | none => simp only [e] at h; cases h
    | some q =>
      simp only [e] at h
      have h1 := and2 h
      have h2 := and2 h1.1
      have e2 : q.1 = y := of_decide_eq_true h2.1
      subst e2
      exact ⟨s_gi ok e h2.2 h1.2, pt_false rfl⟩
  | .bin o a b, x, c, R, sc, k, X, ok, h => by
    cases x <;> try (cases h)
    rename_i l op r p
    have h1 := and2 (show (opB o op && chkE G sc a l && chkE G sc b r) = true from h)
    have h2 := and2 h1.1
    exact ⟨s_bin ok h2.1 (sE a ok h2.2).1 (sE b ok h1.2).1, pt_false rfl⟩
  | .neg a, x, c, R, sc, k, X, ok, h => by
    cases x <;> try (cases h)
    rename_i op y p
    cases op <;> try (cases h)
    exact ⟨s_neg (sE a ok (show chkE G sc a y = true from h)).1, pt_false rfl⟩
  | .cmp o a b, x, c, R, sc, k, X, ok, h => by
    cases x <;> try (cases h)
    rename_i l ops rs p
    cases ops <;> try (cases h)
    rename_i op ops
    cases ops <;> try (cases h)
    cases rs <;> try (cases h)
    rename_i r rs
    cases rs <;> try (cases h)
    have h1 := and2 (show (cmpB o op && !isSet r && chkE G sc a l && chkE G sc b r) = true from h)
    have h2 := and2 h1.1
    have h3 := and2 h2.1
    exact s_cmp ok h3.1 (not1 h3.2) (sE a ok h2.2).1 (sE b ok h1.2).1 (s_pk ok h1.2 (sE b ok h1.2).1)
  | .cmp2 o o' a b d, x, c, R, sc, k, X, ok, h => by
    cases x <;> try (cases h)
    rename_i l ops rs p
    cases ops <;> try (cases h)
    rename_i op ops
    cases ops <;> try (cases h)
    rename_i op' ops
    cases ops <;> try (cases h)
    cases rs <;> try (cases h)
    rename_i r rs
    cases rs <;> try (cases h)
    rename_i q rs
    cases rs <;> try (cases h)
    have h1 := and2 (show (cmpB o op && cmpB o' op' && !isIn o && !isIn o' && !isSet r && !isSet q && chkE G sc a l && chkE G sc b r && chkE G sc d q) = true from h)
    have h2 := and2 h1.1
    have h3 := and2 h2.1
    have h4 := and2 h3.1
    have h5 := and2 h4.1
    have h6 := and2 h5.1
    have h7 := and2 h6.1
    have h8 := and2 h7.1
    exact s_cmp2 ok h8.1 h8.2 (not1 h5.2) (not1 h4.2) (sE a ok h3.2).1 (sE b ok h2.2).1 (sE d ok h1.2).1
  | .and_ es, x, c, R, sc, k, X, ok, h => by
    cases x <;> try (cases h)
    rename_i op vs p
    cases op <;> try (cases h)
    have h1 : chkEs G sc es vs = true := h
    refine ⟨(sEsVA es ok h1 p).imp fun σ H Q ⟨env, w, Gh, Q', r, hw, q⟩ => ⟨env, w, Gh, Q', r, hw, fun v H' d env' w' Gh' r' s pr hq => q v H' d env' w' Gh' r' s pr (fun z => nomatch z) hq⟩, (sEsA es ok h1 p).pt.imp fun σ H Q ⟨env, w, Gh, Q', r, hw, q⟩ => ⟨env, w, Gh, Q', r, hw, q⟩⟩
  | .or_ es, x, c, R, sc, k, X, ok, h => by
    cases x <;> try (cases h)
    rename_i op vs p
    cases op <;> try (cases h)
    have h1 : chkEs G sc es vs = true := h
    refine ⟨(sEsVO es ok h1 p).imp fun σ H Q ⟨env, w, Gh, Q', r, hw, q⟩ => ⟨env, w, Gh, Q', r, hw, fun v H' d env' w' Gh' r' s pr hq => q v H' d env' w' Gh' r' s pr (fun z => nomatch z) hq⟩, (sEsO es ok h1 p).pt.imp fun σ H Q ⟨env, w, Gh, Q', r, hw, q⟩ => ⟨env, w, Gh, Q', r, hw, q⟩⟩
  | .not_ a, x, c, R, sc, k, X, ok, h => by
    cases x <;> try (cases h)
    rename_i op y p
    cases op <;> try (cases h)
    have h1 : chkE G sc a y = true := h
    exact ⟨s_notV (sE a ok h1).1, s_not (sE a ok h1).2⟩
  | .ife t a b, x, c, R, sc, k, X, ok, h => by
    cases x <;> try (cases h)
    rename_i z y1 y2 p
    have h1 := and2 (show (chkE G sc t z && chkE G sc a y1 && chkE G sc b y2) = true from h)
    have h2 := and2 h1.1
    exact ⟨s_ife (sE t ok h2.1).2 (sE a ok h2.2).1 (sE b ok h1.2).1, pt_false rfl⟩
  | .tup es, x, c, R, sc, k, X, ok, h => by
    cases x <;> try (cases h)
    rename_i xs n p
    exact ⟨s_tup (sEs es ok (show chkEs G sc es xs = true from h)), pt_false rfl⟩
  | .lst es, x, c, R, sc, k, X, ok, h => by
    cases x <;> try (cases h)
    rename_i xs p
    exact ⟨s_lst (sEs es ok (show chkEs G sc es xs = true from h)), pt_false rfl⟩
  | .attr a f, x, c, R, sc, k, X, ok, h => by
    cases x <;> try (cases h)
    rename_i y g p
    have h1 := and2 (show (decide (f = g) && noSuper y && chkE G sc a y) = true from h)
    have h2 := and2 h1.1
    have e : f = g := of_decide_eq_true h2.1
    subst e
    have hp := s_attr (f := f) (pos := p) ok h2.2 (s_pk ok h1.2 (sE a ok h1.2).1)
    exact ⟨hp, s_tst rfl rfl hp⟩
  | .ix a b, x, c, R, sc, k, X, ok, h => by
    cases x <;> try (cases h)
    rename_i y z p
    have h1 := and2 (show (!isSlice z && chkE G sc a y && chkE G sc b z) = true from h)
    have h2 := and2 h1.1
    have hp := s_ix (pos := p) (not1 h2.1) (s_base ok h2.2 (sE a ok h2.2).1) (sE b ok h1.2).1
    exact ⟨hp, s_tst rfl rfl hp⟩
  | .sl a lo hi, x, c, R, sc, k, X, ok, h => by
    cases x <;> try (cases h)
    rename_i y z p
    cases z <;> try (cases h)
    rename_i l u st p2
    cases st <;> try (cases h)
    have h1 := and2 (show (chkE G sc a y && chkEo G sc lo l && chkEo G sc hi u) = true from h)
    have h2 := and2 h1.1
    exact ⟨s_sl ok (s_base ok h2.1 (sE a ok h2.1).1) (sEo lo ok h2.2) (sEo hi ok h1.2), pt_false rfl⟩
  | .call i es dd, x, c, R, sc, k, X, ok, h => by
    cases x <;> try (cases h)
    rename_i fn args kws p
    cases fn <;> try (cases h)
    rename_i f p2
    cases kws <;> try (cases h)
    replace h : (match G.fns[i]? with
      | some e => decide (e.nm = f) && glB sc f && plainN f && decide (dd ∈ e.dfl) && dd.all scV && decide (es.len + dd.length = e.ar) && chkEs G sc es args
      | none => false) = true := h
    cases e : G.fns[i]? with
    | none => simp only [e] at h; cases h
    | some q =>
      simp only [e] at h
      have h1 := and2 h
      have h2 := and2 h1.1
      have h3 := and2 h2.1
      have h4 := and2 h3.1
      have h5 := and2 h4.1
      have h6 := and2 h5.1
      have e2 : q.nm = f := of_decide_eq_true h6.1
      subst e2
      have hp := s_call (pos := p) (p := p2) ok e h6.2 h5.2 (of_decide_eq_true h4.2) h3.2 (of_decide_eq_true h2.2) (sEs es ok h1.2) (chkEs_star h1.2) (chkEs_nil h1.2)
      exact ⟨hp, s_tst rfl rfl hp⟩
  | .make i es, x, c, R, sc, k, X, ok, h => by
    cases x <;> try (cases h)
    rename_i fn args kws p
    cases fn <;> try (cases h)
    rename_i f p2
    cases args <;> try (cases h)
    rename_i a0 args
    cases kws <;> try (cases h)
    replace h : (match G.cls[i]? with
      | some e => decide (e.nm = f) && glB sc f && plainN f && decide (es.len + 1 = e.ar) && chkEs G sc es (a0 :: args)
      | none => false) = true := h
    cases e : G.cls[i]? with
    | none => simp only [e] at h; cases h
    | some q =>
      simp only [e] at h
      have h1 := and2 h
      have h2 := and2 h1.1
      have h3 := and2 h2.1
      have h4 := and2 h3.1
      have e2 : q.nm = f := of_decide_eq_true h4.1
      subst e2
      exact ⟨s_make ok e h4.2 h3.2 (of_decide_eq_true h2.2) (sEs es ok h1.2) (chkEs_star h1.2), pt_false rfl⟩
  | .b1 f a, x, c, R, sc, k, X, ok, h => by
    cases x <;> try (cases h)
    rename_i fn args kws p
    cases fn <;> try (cases h)
    rename_i g p2
    cases args <;> try (cases h)
    rename_i y args
    cases args <;> try (cases h)
    cases kws <;> try (cases h)
    have h1 := and2 (show (decide (b1N f = g) && glB sc g && !isStar y && chkE G sc a y) = true from h)
    have h2 := and2 h1.1
    have h3 := and2 h2.1
    have e : b1N f = g := of_decide_eq_true h3.1
    subst e
    have hp := s_b1 (pos := p) (p := p2) ok h3.2 (not1 h2.2) (s_pk ok h1.2 (sE a ok h1.2).1)
    exact ⟨hp, s_tst rfl rfl hp⟩
  | .b2 f a b, x, c, R, sc, k, X, ok, h => by
    cases x <;> try (cases h)
    rename_i fn args kws p
    cases fn <;> try (cases h)
    rename_i g p2
    cases args <;> try (cases h)
    rename_i y args
    cases args <;> try (cases h)
    rename_i z args
    cases args <;> try (cases h)
    cases kws <;> try (cases h)
    have h1 := and2 (show (decide (b2N f = g) && glB sc g && !isStar y && !isStar z && chkE G sc a y && chkE G sc b z) = true from h)
    have h2 := and2 h1.1
    have h3 := and2 h2.1
    have h4 := and2 h3.1
    have h5 := and2 h4.1
    have e : b2N f = g := of_decide_eq_true h5.1
    subst e
    exact ⟨s_b2 ok h5.2 (not1 h4.2) (not1 h3.2) (sE a ok h2.2).1 (sE b ok h1.2).1, pt_false rfl⟩
  | .isT a ts, x, c, R, sc, k, X, ok, h => by
    cases x <;> try (cases h)
    rename_i fn args kws p
    cases fn <;> try (cases h)
    rename_i g p2
    cases args <;> try (cases h)
    rename_i y args
    cases args <;> try (cases h)
    rename_i z args
    cases args <;> try (cases h)
    cases kws <;> try (cases h)
    have h1 := and2 (show (decide (g = ("isinstance" : Str)) && glB sc g && !isStar y && chkE G sc a y && chkTy sc ts z) = true from h)
    have h2 := and2 h1.1
    have h3 := and2 h2.1
    have h4 := and2 h3.1
    have e : g = ("isinstance" : Str) := of_decide_eq_true h4.1
    subst e
    have hp := s_isT (pos := p) (p := p2) ok h4.2 (not1 h3.2) (s_pk ok h2.2 (sE a ok h2.2).1) h1.2
    exact ⟨hp, s_tst rfl rfl hp⟩
  | .isC a i, x, c, R, sc, k, X, ok, h => by
    cases x <;> try (cases h)
    rename_i fn args kws p
    cases fn <;> try (cases h)
    rename_i g p2
    cases args <;> try (cases h)
    rename_i y args
    cases args <;> try (cases h)
    rename_i z args
    cases args <;> try (exfalso; simp [chkE, chkI] at h; done)
    cases z <;> try (cases h)
    rename_i f p3
    cases kws <;> try (cases h)
    have h1 := and2 (show (decide (g = ("isinstance" : Str)) && glB sc g && !isStar y && chkE G sc a y && (match G.cls[i]? with
      | some e => decide (e.nm = f) && glB sc f && plainN f
      | none => false)) = true from h)
    have h2 := and2 h1.1
    have h3 := and2 h2.1
    have h4 := and2 h3.1
    have e : g = ("isinstance" : Str) := of_decide_eq_true h4.1
    subst e
    have h5 := h1.2
    cases e : G.cls[i]? with
    | none => simp only [e] at h5; cases h5
    | some q =>
      simp only [e] at h5
      have h6 := and2 h5
      have h7 := and2 h6.1
      have e2 : q.nm = f := of_decide_eq_true h7.1
      subst e2
      have hp := s_isC (pos := p) (p := p2) (p2 := p3) ok h4.2 (not1 h3.2) (s_pk ok h2.2 (sE a ok h2.2).1) e h7.2 h6.2
      exact ⟨hp, s_tst rfl rfl hp⟩
  | .zipL es, x, c, R, sc, k, X, ok, h => by
    cases x <;> try (cases h)
    rename_i fn args kws p
    cases fn <;> try (cases h)
    rename_i g p2
    cases args <;> try (cases h)
    rename_i y args
    cases args <;> try (exfalso; simp [chkE, chkI] at h; done)
    cases y <;> try (cases h)
    rename_i fn2 args2 kws2 p3
    cases fn2 <;> try (cases h)
    rename_i g2 p4
    cases kws2 <;> try (cases h)
    cases kws <;> try (cases h)
    have h1 := and2 (show (decide (g = ("list" : Str)) && glB sc g && decide (g2 = ("zip" : Str)) && glB sc g2 && chkEs G sc es args2) = true from h)
    have h2 := and2 h1.1
    have h3 := and2 h2.1
    have h4 := and2 h3.1
    have e : g = ("list" : Str) := of_decide_eq_true h4.1
    subst e
    have e : g2 = ("zip" : Str) := of_decide_eq_true h3.2
    subst e
    exact ⟨s_zip ok h4.2 h2.2 (sEs es ok h1.2) (chkEs_star h1.2) (chkEs_len h1.2), pt_false rfl⟩
  | .rangeL a, x, c, R, sc, k, X, ok, h => by
    cases x <;> try (cases h)
    rename_i fn args kws p
    cases fn <;> try (cases h)
    rename_i g p2
    cases args <;> try (cases h)
    rename_i y args
    cases args <;> try (exfalso; simp [chkE, chkI] at h; done)
    cases y <;> try (cases h)
    rename_i fn2 args2 kws2 p3
    cases fn2 <;> try (cases h)
    rename_i g2 p4
    cases args2 <;> try (cases h)
    rename_i z args2
    cases args2 <;> try (cases h)
    cases kws2 <;> try (cases h)
    cases kws <;> try (cases h)
    have h1 := and2 (show (decide (g = ("list" : Str)) && glB sc g && decide (g2 = ("range" : Str)) && glB sc g2 && !isStar z && chkE G sc a z) = true from h)
    have h2 := and2 h1.1
    have h3 := and2 h2.1
    have h4 := and2 h3.1
    have h5 := and2 h4.1
    have e : g = ("list" : Str) := of_decide_eq_true h5.1
    subst e
    have e : g2 = ("range" : Str) := of_decide_eq_true h4.2
    subst e
    exact ⟨s_rangeL ok h5.2 h3.2 (not1 h2.2) (sE a ok h1.2).1, pt_false rfl⟩
  | .comp elt tg it ifs own, x, c, R, sc, k, X, ok, h => by
    cases x <;> try (cases h)
    rename_i e gens scope p
    cases gens <;> try (cases h)
    rename_i gen gens
    cases gens <;> try (exfalso; simp [chkE, chkI] at h; done)
    obtain ⟨t, i, fs, n⟩ := gen
    have hn : n = 0 := by
      cases n with
      | ofNat m =>
        cases m with
        | zero => rfl
        | succ m => cases h
      | negSucc m => cases h
    subst hn
    have h1 := and2 (show (blkC G.N sc scope own && (!G.self || !(own.map (·.2)).contains 0) && chkT G.N scope tg t && (enB it t && chkI G sc it i) && chkEs G scope ifs fs && chkE G scope elt e) = true from h)
    have h2 := and2 h1.1
    have h3 := and2 h2.1
    have h4 := and2 h3.1
    have h5 := and2 h4.1
    refine ⟨?_, pt_false rfl⟩
    have hb := ok.blkOk h5.1
    have hvs := own_ofT ok h5.1 h4.2
    have hself := notSelf h5.2
    have h6 := and2 h3.2
    have hit := sI it ok h6.2 (en_of h6.1)
    refine (pe_lc (te := fun σ H Q => ∃ O, tE G ⟨c.m, O, c.B⟩ noR elt σ H Q) (tt := fun σ H Q => ∃ O, tIfs G ⟨c.m, O, c.B⟩ ifs σ H Q) (g := gT X.K tg) ok.calm ok.ndX hit.1 hb
      (fun s H C cl fp => s_tg (ok.blk (c' := c) rfl rfl s H C cl fp scope) h4.2)
      (fun s H C cl fp => PTs.ex fun O => sIfs ifs (ok.blk (c' := ⟨c.m, O, c.B⟩) rfl rfl s H C cl fp scope) h2.2)
      (fun s H C cl fp => PE.ex fun O => (sE elt (ok.blk (c' := ⟨c.m, O, c.B⟩) rfl rfl s H C cl fp scope) h1.2).1) (folded_ok hit.2)).imp fun σ H Q ⟨env, w, Gh, Q', r, hw, q⟩ => ?_
    exact lc_ok ok.sf hvs hself r hw fun v H' d env' w' Gh' r' s' p' f hq => q v H' d env' w' Gh' r' s' p' (fun _ => f) hq
  | .pop a b, x, c, R, sc, k, X, ok, h => by
    cases x <;> try (cases h)
    rename_i fn args kws p
    cases fn <;> try (cases h)
    rename_i y m apos
    cases kws <;> try (cases h)
    cases b with
    | none =>
      cases args <;> try (exfalso; simp [chkE] at h; done)
      have h1 := and2 (show (decide (m = ("pop" : Str)) && (apos.endLine == p.line) && noSuper y && chkE G sc a y && true) = true from h)
      have h2 := and2 h1.1
      have h3 := and2 h2.1
      have h4 := and2 h3.1
      have e : m = ("pop" : Str) := of_decide_eq_true h4.1
      subst e
      exact ⟨s_pop0 h3.2 h4.2 (s_baseL ok h2.2 (sE a ok h2.2).1), pt_false rfl⟩
    | some d =>
      cases args <;> try (exfalso; simp [chkE] at h; done)
      rename_i z args
      cases args <;> try (exfalso; simp [chkE] at h; done)
      have h1 := and2 (show (decide (m = ("pop" : Str)) && (apos.endLine == p.line) && noSuper y && chkE G sc a y && (!isStar z && chkE G sc d z)) = true from h)
      have h2 := and2 h1.1
      have h3 := and2 h2.1
      have h4 := and2 h3.1
      have e : m = ("pop" : Str) := of_decide_eq_true h4.1
      subst e
      have h6 := and2 h1.2
      exact ⟨s_pop1 h3.2 h4.2 (not1 h6.1) (s_baseL ok h2.2 (sE a ok h2.2).1) (sE d ok h6.2).1, pt_false rfl⟩
theorem sEs : ∀ (es : Es) {xs : List Expr} {c : Ct} {R : Exn → Fm → W → Prop} {sc : Scope} {k : Nat} {X : Cx}, XOk G c R sc k X → chkEs G sc es xs = true → PA X xs (tEs G c R es)
  | .nil, xs, c, R, sc, k, X, ok, h => by
    cases xs <;> try (cases h)
    exact s_es_nil
  | .cons a r, xs, c, R, sc, k, X, ok, h => by
    cases xs <;> try (cases h)
    rename_i x xs
    have h1 := and2 (show (!isStar x && chkE G sc a x && chkEs G sc r xs) = true from h)
    have h2 := and2 h1.1
    exact s_es_cons (not1 h2.1) (sE a ok h2.2).1 (sEs r ok h1.2)
theorem sEsA : ∀ (es : Es) {xs : List Expr} {c : Ct} {R : Exn → Fm → W → Prop} {sc : Scope} {k : Nat} {X : Cx}, XOk G c R sc k X → chkEs G sc es xs = true → ∀ p, PW X (.BoolOp .And xs p) (tCAnd G c R es)
  | .nil, xs, c, R, sc, k, X, ok, h, p => ⟨fun wh pins s σ H Q I ⟨env, w, Gh, Q', r, hw, q⟩ => hw.elim⟩
  | .cons a .nil, xs, c, R, sc, k, X, ok, h, p => by
    cases xs <;> try (cases h)
    rename_i x xs
    have h1 := and2 (show (!isStar x && chkE G sc a x && chkEs G sc .nil xs) = true from h)
    have h2 := and2 h1.1
    have h3 := h1.2
    cases xs <;> try (cases h3)
    exact s_and1 (sE a ok h2.2).2
  | .cons a (.cons b r), xs, c, R, sc, k, X, ok, h, p => by
    cases xs <;> try (cases h)
    rename_i x xs
    have h1 := and2 (show (!isStar x && chkE G sc a x && chkEs G sc (.cons b r) xs) = true from h)
    have h2 := and2 h1.1
    have h3 := h1.2
    cases xs <;> try (cases h3)
    exact s_and (sE a ok h2.2).2 (sEsA (.cons b r) ok h3 p)
theorem sEsO : ∀ (es : Es) {xs : List Expr} {c : Ct} {R : Exn → Fm → W → Prop} {sc : Scope} {k : Nat} {X : Cx}, XOk G c R sc k X → chkEs G sc es xs = true → ∀ p, PW X (.BoolOp .Or xs p) (tCOr G c R es)
  | .nil, xs, c, R, sc, k, X, ok, h, p => ⟨fun wh pins s σ H Q I ⟨env, w, Gh, Q', r, hw, q⟩ => hw.elim⟩
  | .cons a .nil, xs, c, R, sc, k, X, ok, h, p => by
    cases xs <;> try (cases h)
    rename_i x xs
    have h1 := and2 (show (!isStar x && chkE G sc a x && chkEs G sc .nil xs) = true from h)
    have h2 := and2 h1.1
    have h3 := h1.2
    cases xs <;> try (cases h3)
    exact s_or1 (sE a ok h2.2).2
  | .cons a (.cons b r), xs, c, R, sc, k, X, ok, h, p => by
    cases xs <;> try (cases h)
    rename_i x xs
    have h1 := and2 (show (!isStar x && chkE G sc a x && chkEs G sc (.cons b r) xs) = true from h)
    have h2 := and2 h1.1
    have h3 := h1.2
    cases xs <;> try (cases h3)
    exact s_or (sE a ok h2.2).2 (sEsO (.cons b r) ok h3 p)
theorem sEsVA : ∀ (es : Es) {xs : List Expr} {c : Ct} {R : Exn → Fm → W → Prop} {sc : Scope} {k : Nat} {X : Cx}, XOk G c R sc k X → chkEs G sc es xs = true → ∀ p, PE X (.BoolOp .And xs p) (tAndD G c R es)
  | .nil, xs, c, R, sc, k, X, ok, h, p => ⟨fun pins s σ H Q I ⟨env, w, Gh, Q', r, hw, q⟩ => hw.elim⟩
  | .cons a .nil, xs, c, R, sc, k, X, ok, h, p => by
    cases xs <;> try (cases h)
    rename_i x xs
    have h1 := and2 (show (!isStar x && chkE G sc a x && chkEs G sc .nil xs) = true from h)
    have h2 := and2 h1.1
    have h3 := h1.2
    cases xs <;> try (cases h3)
    exact s_vand1 (sE a ok h2.2).1
  | .cons a (.cons b r), xs, c, R, sc, k, X, ok, h, p => by
    cases xs <;> try (cases h)
    rename_i x xs
    have h1 := and2 (show (!isStar x && chkE G sc a x && chkEs G sc (.cons b r) xs) = true from h)
    have h2 := and2 h1.1
    have h3 := h1.2
    cases xs <;> try (cases h3)
    exact s_vand (sE a ok h2.2).1 (sEsVA (.cons b r) ok h3 p)
theorem sEsVO : ∀ (es : Es) {xs : List Expr} {c : Ct} {R : Exn → Fm → W → Prop} {sc : Scope} {k : Nat} {X : Cx}, XOk G c R sc k X → chkEs G sc es xs = true → ∀ p, PE X (.BoolOp .Or xs p) (tOrD G c R es)
  | .nil, xs, c, R, sc, k, X, ok, h, p => ⟨fun pins s σ H Q I ⟨env, w, Gh, Q', r, hw, q⟩ => hw.elim⟩
  | .cons a .nil, xs, c, R, sc, k, X, ok, h, p => by
    cases xs <;> try (cases h)
    rename_i x xs
    have h1 := and2 (show (!isStar x && chkE G sc a x && chkEs G sc .nil xs) = true from h)
    have h2 := and2 h1.1
    have h3 := h1.2
    cases xs <;> try (cases h3)
    exact s_vor1 (sE a ok h2.2).1
  | .cons a (.cons b r), xs, c, R, sc, k, X, ok, h, p => by
    cases xs <;> try (cases h)
    rename_i x xs
    have h1 := and2 (show (!isStar x && chkE G sc a x && chkEs G sc (.cons b r) xs) = true from h)
    have h2 := and2 h1.1
    have h3 := h1.2
    cases xs <;> try (cases h3)
    exact s_vor (sE a ok h2.2).1 (sEsVO (.cons b r) ok h3 p)
theorem sEo : ∀ (eo : Eo) {x : Option Expr} {c : Ct} {R : Exn → Fm → W → Prop} {sc : Scope} {k : Nat} {X : Cx}, XOk G c R sc k X → chkEo G sc eo x = true → PO X x (tEo G c R eo)
  | .none, x, c, R, sc, k, X, ok, h => by
    cases x <;> try (cases h)
    exact s_eo_none
  | .some a, x, c, R, sc, k, X, ok, h => by
    cases x <;> try (cases h)
    exact s_eo_some (sE a ok h).1
theorem sIfs : ∀ (es : Es) {xs : List Expr} {c : Ct} {sc : Scope} {k : Nat} {X : Cx}, XOk G c noR sc k X → chkEs G sc es xs = true → PTs X xs (tIfs G c es)
  | .nil, xs, c, sc, k, X, ok, h => by
    cases xs <;> try (cases h)
    exact s_ifs_nil
  | .cons a .nil, xs, c, sc, k, X, ok, h => by
    cases xs <;> try (cases h)
    rename_i x xs
    have h1 := and2 (show (!isStar x && chkE G sc a x && chkEs G sc .nil xs) = true from h)
    have h2 := and2 h1.1
    have h3 := h1.2
    cases xs <;> try (cases h3)
    exact s_ifs_one (sE a ok h2.2).2
  | .cons a (.cons b r), xs, c, sc, k, X, ok, h => ⟨fun pins s σ H Q I ⟨env, w, Gh, Q', r, hw, q⟩ => hw.elim⟩
theorem sI : ∀ (it : I) {x : Expr} {tg : Expr} {c : Ct} {R : Exn → Fm → W → Prop} {sc : Scope} {k : Nat} {X : Cx}, XOk G c R sc k X → chkI G sc it x = true → (∀ a, it = .enum a → ∃ es n p, tg = .Tuple es n p) → PI X tg x (tI G c R it) ∧ isSet x = false
  | .e a, x, tg, c, R, sc, k, X, ok, h, ht => by
    have h1 := and2 (show (!isSet x && chkE G sc a x) = true from h)
    exact ⟨s_Ie (sE a ok h1.2).1, not1 h1.1⟩
  | .range1 a, x, tg, c, R, sc, k, X, ok, h, ht => by
    cases x <;> try (cases h)
    rename_i fn args kws p
    cases fn <;> try (cases h)
    rename_i g p2
    cases args <;> try (cases h)
    rename_i y args
    cases args <;> try (cases h)
    cases kws <;> try (cases h)
    have h1 := and2 (show (decide (g = ("range" : Str)) && glB sc g && !isStar y && chkE G sc a y) = true from h)
    have h2 := and2 h1.1
    have h3 := and2 h2.1
    have e : g = ("range" : Str) := of_decide_eq_true h3.1
    subst e
    exact ⟨s_range1 ok h3.2 (not1 h2.2) (sE a ok h1.2).1, rfl⟩
  | .range2 a b, x, tg, c, R, sc, k, X, ok, h, ht => by
    cases x <;> try (cases h)
    rename_i fn args kws p
    cases fn <;> try (cases h)
    rename_i g p2
    cases args <;> try (cases h)
    rename_i y args
    cases args <;> try (cases h)
    rename_i z args
    cases args <;> try (cases h)
    cases kws <;> try (cases h)
    have h1 := and2 (show (decide (g = ("range" : Str)) && glB sc g && !isStar y && !isStar z && chkE G sc a y && chkE G sc b z) = true from h)
    have h2 := and2 h1.1
    have h3 := and2 h2.1
    have h4 := and2 h3.1
    have h5 := and2 h4.1
    have e : g = ("range" : Str) := of_decide_eq_true h5.1
    subst e
    exact ⟨s_range2 ok h5.2 (not1 h4.2) (not1 h3.2) (sE a ok h2.2).1 (sE b ok h1.2).1, rfl⟩
  | .enum a, x, tg, c, R, sc, k, X, ok, h, ht => by
    cases x <;> try (cases h)
    rename_i fn args kws p
    cases fn <;> try (cases h)
    rename_i g p2
    cases args <;> try (cases h)
    rename_i y args
    cases args <;> try (cases h)
    cases kws <;> try (cases h)
    have h1 := and2 (show (decide (g = ("enumerate" : Str)) && glB sc g && !isStar y && chkE G sc a y) = true from h)
    have h2 := and2 h1.1
    have h3 := and2 h2.1
    have e : g = ("enumerate" : Str) := of_decide_eq_true h3.1
    subst e
    obtain ⟨es, n, q, rfl⟩ := ht a rfl
    exact ⟨s_enum ok h3.2 (not1 h2.2) (sE a ok h1.2).1, rfl⟩
  | .rev a, x, tg, c, R, sc, k, X, ok, h, ht => by
    cases x <;> try (cases h)
    rename_i fn args kws p
    cases fn <;> try (cases h)
    rename_i g p2
    cases args <;> try (cases h)
    rename_i y args
    cases args <;> try (cases h)
    cases kws <;> try (cases h)
    have h1 := and2 (show (decide (g = ("reversed" : Str)) && glB sc g && !isStar y && chkE G sc a y) = true from h)
    have h2 := and2 h1.1
    have h3 := and2 h2.1
    have e : g = ("reversed" : Str) := of_decide_eq_true h3.1
    subst e
    exact ⟨s_rev ok h3.2 (not1 h2.2) (sE a ok h1.2).1, rfl⟩
  | .revR a, x, tg, c, R, sc, k, X, ok, h, ht => by
    cases x <;> try (cases h)
    rename_i fn args kws p
    cases fn <;> try (cases h)
    rename_i g p2
    cases args <;> try (cases h)
    rename_i y args
    cases args <;> try (cases y <;> first | (cases h; done) | (rename_i f2 a2 k2 p3; cases f2 <;> first | (cases h; done) | (cases a2 <;> first | (cases h; done) | (rename_i x2 r2; cases r2 <;> first | (cases h; done) | (cases k2 <;> (cases h; done))))))
    cases y <;> try (cases h)
    rename_i fn2 args2 kws2 p3
    cases fn2 <;> try (cases h)
    rename_i g2 p4
    cases args2 <;> try (cases h)
    rename_i z args2
    cases args2 <;> try (cases h)
    cases kws2 <;> try (cases h)
    cases kws <;> try (cases h)
    have h1 := and2 (show (decide (g = ("reversed" : Str)) && glB sc g && decide (g2 = ("range" : Str)) && glB sc g2 && !isStar z && chkE G sc a z) = true from h)
    have h2 := and2 h1.1
    have h3 := and2 h2.1
    have h4 := and2 h3.1
    have h5 := and2 h4.1
    have e : g = ("reversed" : Str) := of_decide_eq_true h5.1
    subst e
    have e : g2 = ("range" : Str) := of_decide_eq_true h4.2
    subst e
    exact ⟨s_revR ok h5.2 h3.2 (not1 h2.2) (sE a ok h1.2).1, rfl⟩
end
end Py

set_option Elab.async false
set_option linter.all false
set_option maxRecDepth 100000
set_option maxHeartbeats 4000000
/-! PyP: statements. -/
namespace Py
open PySem PySem.Spec PyProof.Rows L2
/-- the context of a def's own statements -/
structure XSt (G : Gam) (c : Ct) (R : Exn → Fm → W → Prop) (sc : Scope) (k : Nat) (X : Cx) : Prop where
  ok : XOk G c R sc k X
  scp : X.env.scope = sc
  fn : sc.kind = .function
  hp : PassesOwn (model X.prog X.w) X.A X.env X.xe
structure EndsOk (c : Ct) (K : En) (D : Ends) (σ : L2.St) (env : Fm) (G : List Addr) (H : Hp) : Prop where
  nx : ∀ σ' H' env' w' G', Rel c σ' H' env' w' G' → SStep σ env G H σ' env' G' H' → K.nx env' w' → D.nx σ' H'
  rt : ∀ v σ' H' d env' w' G', Rel c σ' H' env' w' G' → SStep σ env G H σ' env' G' H' → Rep c.m H' (Okk c.O σ' env' G') G' v d → K.rt d w' → D.rt v H'
  bk : ∀ σ' H' env' w' G', Rel c σ' H' env' w' G' → SStep σ env G H σ' env' G' H' → K.bk env' w' → D.bk σ' H'
  ct : ∀ σ' H' env' w' G', Rel c σ' H' env' w' G' → SStep σ env G H σ' env' G' H' → K.ct env' w' → D.ct σ' H'
def tS (G : Gam) (c : Ct) (R : Exn → Fm → W → Prop) (s : S) : TS := fun D σ H => ∃ env w Gh K, Rel c σ H env w Gh ∧ wpS G R s env w K ∧ EndsOk c K D σ env Gh H
def tSs (G : Gam) (c : Ct) (R : Exn → Fm → W → Prop) (s : Ss) : TS := fun D σ H => ∃ env w Gh K, Rel c σ H env w Gh ∧ wpSs G R s env w K ∧ EndsOk c K D σ env Gh H
section
variable {G : Gam} {c : Ct} {R : Exn → Fm → W → Prop} {sc : Scope} {k : Nat} {X : Cx} {pos : Pos}
theorem EndsOk.after {K : En} {D : Ends} {σ σ1 : L2.St} {env env1 : Fm} {G G1 : List Addr} {H H1 : Hp} (e : EndsOk c K D σ env G H) (s : SStep σ env G H σ1 env1 G1 H1) : EndsOk c K D σ1 env1 G1 H1 :=
  ⟨fun _ _ _ _ _ r t h => e.nx _ _ _ _ _ r (s.trans t) h, fun _ _ _ _ _ _ _ r t p h => e.rt _ _ _ _ _ _ _ r (s.trans t) p h, fun _ _ _ _ _ r t h => e.bk _ _ _ _ _ r (s.trans t) h, fun _ _ _ _ _ r t h => e.ct _ _ _ _ _ r (s.trans t) h⟩
theorem st_nil : PSs X [] (tSs G c R .nil) := pss_nil.imp fun D σ H ⟨env, w, Gh, K, r, hw, e⟩ => e.nx σ H env w Gh r SStep.rfl' hw
theorem st_cons {s : S} {r : Ss} {x : Stmt} {xs : List Stmt} (h1 : PS X x (tS G c R s)) (h2 : PSs X xs (tSs G c R r)) : PSs X (x :: xs) (tSs G c R (.cons s r)) := by
  refine (pss_cons h1 h2).imp fun D σ H ⟨env, w, Gh, K, r, hw, e⟩ => ?_
  replace hw : frc env (fun env => wpS G R s env w { K with nx := fun env w => wpSs G R _ env w K }) := hw
  rw [frc_eq] at hw
  exact ⟨env, w, Gh, _, r, hw, fun σ' H' env' w' G' r' s' h => ⟨env', w', G', K, r', h, e.after s'⟩, e.rt, e.bk, e.ct⟩
theorem sw_notComp {v : Expr} {t : Option Expr} {l : Nat} {env : PySem.Env} (h : isComp v = false) : swapsWith v t l env = pure false := by
  cases v <;> first | rfl | cases h
theorem sw_false {elt : Expr} {gs : List Comprehension} {scope : Scope} {pos py : Pos} {y : Str} {l : Nat} {env : PySem.Env} (hk : env.scope.kind = .function) (h : ¬ (env.scope.names.lookup y = some .local ∧ (py.line == pos.line) = true ∧ (scope.names.any fun (n, k) => n == y && (k == .local || k == .cell)) = false)) :
    swapsWith (.ListComp elt gs scope pos) (some (.Name y py)) l env = pure false := by
  have hb : env.blockKind = .function := by unfold Env.blockKind; rw [hk]; rfl
  unfold swapsWith
  show (pure (env.blockKind == .function && env.kindOf y == some .local && py.line == pos.line && !(scope.names.any fun (n, k) => n == y && (k == .local || k == .cell))) : Sem Bool) = pure false
  congr 1
  cases e1 : (env.kindOf y == some .local) with
  | false => simp [e1]
  | true =>
    have e1' : env.scope.names.lookup y = some .local := by
      have : env.kindOf y = some .local := beq_iff_eq.mp e1
      exact this
    cases e2 : (py.line == pos.line) with
    | false => simp [e2]
    | true =>
      cases e3 : (scope.names.any fun (n, k) => n == y && (k == .local || k == .cell)) with
      | true => simp
      | false => exact absurd ⟨e1', e2, e3⟩ h
/-- a slot takes what an expression gave -/
theorem set_ok {σ : L2.St} {H H' : Hp} {env' : Fm} {w' : W} {Gh' : List Addr} {i : Nat} {v : V} {d : D} {fr : Bool} (hi : ∀ x, c.B.sf = some x → i ≠ 0) (r : Rel c σ H' env' w' Gh') (p : Rep c.m H' (Okk c.O σ env' Gh') Gh' v d) (hf : fr = true → (∃ xs, d = .lst xs) → FreshL c σ H H' env' w' Gh' v d) :
    Rel c (σ.set i (some v)) H' (env'.set i (mkSlot fr d)) w' Gh' ∧ SStep σ env' Gh' H' (σ.set i (some v)) (env'.set i (mkSlot fr d)) Gh' H' ∨
    ∃ H1, Rel c σ H1 env' w' Gh' ∧ (∀ a, H1 a ≠ none → H' a = H1 a) ∧ (∃ a, H1 a = none ∧ H a = none ∧ ∀ b, b ≠ a → H1 b = H' b) ∧ Rel c (σ.set i (some v)) H' (env'.set i (mkSlot fr d)) w' Gh' ∧ SStep σ env' Gh' H1 (σ.set i (some v)) (env'.set i (mkSlot fr d)) Gh' H' := by
  by_cases e : fr = true ∧ ∃ xs, d = .lst xs
  · obtain ⟨e1, e2⟩ := e
    obtain ⟨a, H1, vs, xs, rfl, rfl, h0, h1, r1, rfl, pr⟩ := hf e1 e2
    subst e1
    obtain ⟨r2, s2⟩ := r1.setO hi h1 pr
    exact .inr ⟨H1, r1, fun b hb => upd_ne fun z => hb (z ▸ h1), ⟨a, h1, h0, fun b hb => (upd_ne hb).symm⟩, r2, s2⟩
  · have em : mkSlot fr d = .val d := by
      unfold mkSlot
      split
      · exact absurd ⟨rfl, _, rfl⟩ e
      · rfl
    rw [em]
    exact .inl (r.setV hi (by intro k z; cases z) fun d' z => by
      cases z
      exact ⟨v, rfl, p⟩)
/-- the statement's reading, from the value's -/
theorem set_core {i : Nat} {e : E} {x : Expr} {te : TE} {py : Pos} {st : Stmt} (hsf : ∀ x, c.B.sf = some x → G.self = true) (hst : PS X st (tAsg (tE G c R e) (gName i))) : PS X st (tS G c R (.set i e)) := by
  refine hst.imp fun D σ H ⟨env, w, Gh, K, r, hw, en⟩ => ?_
  obtain ⟨hs, hw⟩ := hw
  refine ⟨env, w, Gh, _, r, hw, fun v H' d env' w' Gh' r' s' p' fr hq => ?_⟩
  rcases set_ok (sf_of hsf hs) r' p' fr with ⟨r2, s2⟩ | ⟨H1, r1, e1, ⟨a, ha1, ha0, hab⟩, r2, s2⟩
  · exact en.nx _ _ _ _ _ r2 (s'.ss.trans s2) hq
  · refine en.nx _ _ _ _ _ r2 ?_ hq
    -- from the start to before the last thing was made
    have s1 : SStep σ env Gh H σ env' Gh' H1 := by
      refine ⟨fun b o e h1 h2 => ?_, fun b _ h => s'.own b h, s'.gx, s'.gn, fun b h => ?_⟩
      · rw [hab b fun z => by subst z; rw [ha0] at e; cases e]
        exact s'.fr b o e h1 h2
      · rw [hab b fun z => h (z ▸ ha0)]
        exact s'.tr b h
    exact s1.trans s2
theorem st_set (S : XSt G c R sc k X) {i : Nat} {e : E} {x : Str} {v : Expr} {py : Pos} (h1 : nameIs G.N i x = true) (h2 : locB sc x = true) (hc : chkE G sc e v = true) : PS X (.Assign [.Name x py] v pos) (tS G c R (.set i e)) := by
  obtain ⟨l1, l2⟩ := S.ok.loc x h2
  have key : swapsWith v (some (.Name x py)) pos.line X.env = pure false → PS X (.Assign [.Name x py] v pos) (tS G c R (.set i e)) := fun hs =>
    set_core (x := v) (te := tE G c R e) (py := py) S.ok.sf (ps_set S.ok.ndX (S.ok.at_ h1) l1 (sE e S.ok hc).1 hs l2)
  by_cases hcomp : isComp v = false
  · exact key (sw_notComp hcomp)
  · cases e <;> cases v <;> first | (exact absurd rfl hcomp) | (cases hc; done) | skip
    rename_i elt tg it ifs own e gens scope p
    by_cases hq : X.env.scope.names.lookup x = some .local ∧ (py.line == p.line) = true ∧ (scope.names.any fun (n, k) => n == x && (k == .local || k == .cell)) = false
    · cases gens <;> try (exfalso; simp [chkE] at hc; done)
      rename_i gen gens
      cases gens <;> try (exfalso; simp [chkE] at hc; done)
      obtain ⟨t, it', fs, n⟩ := gen
      have hn : n = 0 := by
        cases n with
        | ofNat m =>
          cases m with
          | zero => rfl
          | succ m => cases hc
        | negSucc m => cases hc
      subst hn
      have ok := S.ok
      have h1' := and2 (show (blkC G.N sc scope own && (!G.self || !(own.map (·.2)).contains 0) && chkT G.N scope tg t && (enB it t && chkI G sc it it') && chkEs G scope ifs fs && chkE G scope elt e) = true from hc)
      have h2' := and2 h1'.1
      have h3 := and2 h2'.1
      have h4 := and2 h3.1
      have h5 := and2 h4.1
      have hvs := own_ofT ok h5.1 h4.2
      have hself := notSelf h5.2
      have h6 := and2 h3.2
      have hit := sI it ok h6.2 (en_of h6.1)
      have hp := ps_setLc (spos := pos) (py := py) (pos := p) (te := fun σ H Q => ∃ O, tE G ⟨c.m, O, c.B⟩ noR elt σ H Q) (tt := fun σ H Q => ∃ O, tIfs G ⟨c.m, O, c.B⟩ ifs σ H Q) (g := gT X.K tg) ok.calm ok.ndX (ok.at_ h1) hq.1
        (sw_true (by rw [S.scp]; exact S.fn) hq.1 hq.2.1 hq.2.2) hit.1 (ok.blkOk h5.1)
        (fun s H C cl fp => s_tg (ok.blk (c' := c) rfl rfl s H C cl fp scope) h4.2)
        (fun s H C cl fp => PTs.ex fun O => sIfs ifs (ok.blk (c' := ⟨c.m, O, c.B⟩) rfl rfl s H C cl fp scope) h2'.2)
        (fun s H C cl fp => PE.ex fun O => (sE elt (ok.blk (c' := ⟨c.m, O, c.B⟩) rfl rfl s H C cl fp scope) h1'.2).1) (folded_ok hit.2)
      refine set_core (x := .Constant .none 0 pos) (te := tE G c R (.comp elt tg it ifs own)) (py := py) ok.sf (hp.imp fun D σ H ⟨env, w, Gh, Q', r, hw, q⟩ => ?_)
      exact lc_ok ok.sf hvs hself r hw fun v H' d env' w' Gh' r' s' p' f hq => q v H' d env' w' Gh' r' s' p' (fun _ => f) hq
    · exact key (sw_false (by rw [S.scp]; exact S.fn) hq)
end
end Py

set_option Elab.async false
set_option linter.all false
set_option maxRecDepth 100000
set_option maxHeartbeats 4000000
/-! PyQ: statements, all. -/
namespace Py
open PySem PySem.Spec PyProof.Rows L2
theorem filterMap_len {α β : Type} {f : α → Option β} : ∀ {l : List α}, (∃ x, x ∈ l ∧ f x = none) → (l.filterMap f).length < l.length
  | [], h => by obtain ⟨x, hx, _⟩ := h; cases hx
  | y :: l, ⟨x, hx, e⟩ => by
    cases ey : f y with
    | none =>
      rw [List.filterMap_cons_none ey]
      exact Nat.lt_succ_of_le (List.length_filterMap_le f l)
    | some z =>
      rw [List.filterMap_cons_some ey]
      rcases List.mem_cons.mp hx with q | q
      · subst q
        rw [e] at ey
        cases ey
      · exact Nat.succ_lt_succ (filterMap_len ⟨x, q, e⟩)
theorem star_fun : (fun e : Expr => match e with | .Starred .. => true | _ => false) = isStar := by
  funext e
  cases e <;> rfl
theorem swapped_none {sc : Scope} {ts vs : List Expr} {env : PySem.Env} {k1 k2 : Nat} {p1 p2 : Pos} (hs : env.scope = sc) (h : parN sc ts vs = true) : swappedStores [.Tuple ts k1 p1] (.Tuple vs k2 p2) env = pure none := by
  unfold swappedStores
  unfold parN at h
  have h := Bool.or_eq_true_iff.mp h
  simp only []
  split
  · rfl
  · split
    · rfl
    · rcases h with h | h
      · have : ∀ f : Expr → Option Str, (∀ t, (match t with
            | .Name x _ => decide (sc.names.lookup x ≠ some .local)
            | _ => true) = true → f t = none) → ((ts.filterMap f).length != ts.length || (ts.filterMap f).eraseDups.length != (ts.filterMap f).length) = true := fun f hf => by
          obtain ⟨t, ht, e⟩ := List.any_eq_true.mp h
          have := filterMap_len (f := f) ⟨t, ht, hf t e⟩
          rw [Bool.or_eq_true]
          left
          exact bne_iff_ne.mpr (Nat.ne_of_lt this)
        rw [if_pos (this _ fun t ht => ?_)]
        cases t <;> try rfl
        rename_i x p
        have hk : env.kindOf x = env.scope.names.lookup x := rfl
        have hx : sc.names.lookup x ≠ some .local := of_decide_eq_true ht
        have : (env.kindOf x == some .local) = false := by
          rw [hk, hs]
          exact beq_eq_false_iff_ne.mpr hx
        simp [this]
      · split
        · rfl
        · first | rfl | (rw [if_pos h]; done) | (rw [if_pos h]; rfl)
theorem swapped_two {x y : Str} {px py p1 p2 : Pos} {a b : Expr} {env : PySem.Env} {k1 k2 : Nat} (hf : env.scope.kind = .function) (hx : env.scope.names.lookup x = some .local) (hy : env.scope.names.lookup y = some .local) (hl : (px.line == py.line) = true) (hne : (x == y) = false) (ha : isStar a = false) (hb : isStar b = false)
    (h1 : ([a, b].all (foldedForSure 8)) = false) (h2 : ([a, b].all (constantsAlone 8)) = false) : swappedStores [.Tuple [.Name x px, .Name y py] k1 p1] (.Tuple [a, b] k2 p2) env = pure (some [x, y]) := by
  have hbk : env.blockKind = .function := by unfold Env.blockKind; rw [hf]; rfl
  have kx : env.kindOf x = some .local := hx
  have ky : env.kindOf y = some .local := hy
  have hl' : (py.line == px.line) = true := by
    rw [beq_iff_eq] at hl ⊢
    exact hl.symm
  unfold swappedStores
  simp only [List.length_cons, List.length_nil, hbk]
  have hst : ([a, b].any fun | .Starred .. => true | _ => false) = false := by
    rw [star_fun]
    simp [ha, hb]
  have hfm : ([Expr.Name x px, Expr.Name y py].filterMap fun
      | .Name id pos => if env.kindOf id == some .local && pos.line == (([Expr.Name x px, Expr.Name y py].head?.map (·.pos.line)).getD 0) then some id else none
      | _ => none) = [x, y] := by
    simp [kx, ky, Expr.pos, hl', beq_iff_eq.mp hl]
  have hed : ([x, y].eraseDups) = [x, y] := by
    have : (y == x) = false := by
      rw [beq_eq_false_iff_ne] at hne ⊢
      exact hne.symm
    simp [List.eraseDups_cons, hne, this]
  rw [if_neg (by decide)]
  refine (if_neg fun z => Bool.false_ne_true (hst.symm.trans z)).trans ?_
  generalize hnn : List.filterMap _ _ = nm
  have e1 := hnn.symm.trans hfm
  subst e1
  simp only [hed, h1, h2]
  rfl
theorem swapped_three {x y z : Str} {px py pz p1 p2 : Pos} {a b d : Expr} {env : PySem.Env} {k1 k2 : Nat} (hf : env.scope.kind = .function) (hx : env.scope.names.lookup x = some .local) (hy : env.scope.names.lookup y = some .local) (hz : env.scope.names.lookup z = some .local) (hl : (px.line == py.line) = true) (hl2 : (px.line == pz.line) = true) (hne : (x == y) = false) (hne2 : (x == z) = false) (hne3 : (y == z) = false) (ha : isStar a = false) (hb : isStar b = false) (hd : isStar d = false)
    (h1 : ([a, b, d].all (foldedForSure 8)) = false) (h2 : ([a, b, d].all (constantsAlone 8)) = false) : swappedStores [.Tuple [.Name x px, .Name y py, .Name z pz] k1 p1] (.Tuple [a, b, d] k2 p2) env = pure (some [x, y, z]) := by
  have hbk : env.blockKind = .function := by unfold Env.blockKind; rw [hf]; rfl
  have kx : env.kindOf x = some .local := hx
  have ky : env.kindOf y = some .local := hy
  have kz : env.kindOf z = some .local := hz
  unfold swappedStores
  simp only [List.length_cons, List.length_nil, hbk]
  have hst : ([a, b, d].any fun | .Starred .. => true | _ => false) = false := by
    rw [star_fun]
    simp [ha, hb, hd]
  have hfm : ([Expr.Name x px, Expr.Name y py, Expr.Name z pz].filterMap fun
      | .Name id pos => if env.kindOf id == some .local && pos.line == (([Expr.Name x px, Expr.Name y py, Expr.Name z pz].head?.map (·.pos.line)).getD 0) then some id else none
      | _ => none) = [x, y, z] := by
    simp [kx, ky, kz, Expr.pos, (beq_iff_eq.mp hl).symm, (beq_iff_eq.mp hl2).symm]
  have hed : ([x, y, z].eraseDups) = [x, y, z] := by
    have e1 : (y == x) = false := by
      rw [beq_eq_false_iff_ne] at hne ⊢
      exact hne.symm
    have e2 : (z == x) = false := by
      rw [beq_eq_false_iff_ne] at hne2 ⊢
      exact hne2.symm
    have e3 : (z == y) = false := by
      rw [beq_eq_false_iff_ne] at hne3 ⊢
      exact hne3.symm
    simp [List.eraseDups_cons, hne, hne2, hne3, e1, e2, e3]
  rw [if_neg (by decide)]
  refine (if_neg fun z => Bool.false_ne_true (hst.symm.trans z)).trans ?_
  generalize hnn : List.filterMap _ _ = nm
  have e1 := hnn.symm.trans hfm
  subst e1
  simp only [hed, h1, h2]
  rfl
section
variable {G : Gam} {c : Ct} {R : Exn → Fm → W → Prop} {sc : Scope} {k : Nat} {X : Cx} {pos : Pos}
theorem st_setT (S : XSt G c R sc k X) {l : List Nat} {e : E} {ts : List Expr} {n : Nat} {p : Pos} {v : Expr} (ht : isTup v = false) (h1 : chkNs G.N sc l ts = true) (hc : chkE G sc e v = true) : PS X (.Assign [.Tuple ts n p] v pos) (tS G c R (.setT l e)) := by
  have hg := s_tg (t := .t l) (e := .Tuple ts n p) S.ok h1
  refine (ps_asg (sE e S.ok hc).1 hg (by cases v <;> rfl) (by cases v <;> first | rfl | cases ht) rfl).imp fun D σ H ⟨env, w, Gh, K, r, hw, en⟩ => ?_
  replace hw : wpE G R e env w fun d env w => bindT G (.t l) d env fun env => K.nx env w := hw
  refine ⟨env, w, Gh, _, r, hw, fun v H' d env' w' Gh' r' s' p' fr hq => ?_⟩
  exact bind_ok S.ok.sf r' p' hq fun σ2 env2 r2 s2 _ _ hq2 => en.nx _ _ _ _ _ r2 (s'.ss.trans s2) hq2
theorem chkNs_len : ∀ {l : List Nat} {es : List Expr}, chkNs G.N sc l es = true → l.length = es.length
  | [], [], _ => rfl
  | [], _ :: _, h => nomatch h
  | _ :: _, [], h => nomatch h
  | i :: l, .Name x p :: es, h => congrArg Nat.succ (chkNs_len (and2 (show (nameIs G.N i x && locB sc x && chkNs G.N sc l es) = true from h)).2)
theorem par_tup (S : XSt G c R sc k X) {l : List Nat} {es : Es} {ts vs : List Expr} {n n2 : Nat} {p p2 : Pos} (hl9 : l.length ≤ 9) (h1 : chkNs G.N sc l ts = true) (hc : chkEs G sc es vs = true) (hn : parN sc ts vs = true) : PS X (.Assign [.Tuple ts n p] (.Tuple vs n2 p2) pos) (tS G c R (.par l es)) := by
  have hg := s_tg (t := .t l) (e := .Tuple ts n p) S.ok h1
  refine (ps_asg (pe_tup (sEs es S.ok hc)) hg rfl (swapped_none S.scp hn) rfl).imp fun D σ H ⟨env, w, Gh, K, r, hw, en⟩ => ?_
  obtain ⟨hs, hw⟩ := hw
  refine ⟨env, w, Gh, _, r, hw, fun vs1 H1 ds env1 w1 G1 r1 s1 p1 hlen hq => ?_⟩
  obtain ⟨hl, hq⟩ := hq
  have hz : vs1.length ≤ sizeLine := by
    rw [p1.length, hl]
    exact Nat.le_trans hl9 (by decide)
  refine ⟨hz, fun q nq => ?_⟩
  have s2 : Step σ env1 G1 H1 env1 G1 (upd H1 q (.tup vs1)) := step_new nq
  obtain ⟨r3, s3, _⟩ := Rel.setsV (l := l) (r1.new nq) (fun x e => hs (S.ok.sf x e)) (p1.step s2 r1)
  exact ⟨q, vs1, rfl, .inl (.inl (.inl upd_same)), by rw [p1.length]; exact hl, en.nx _ _ _ _ _ r3 ((s1.trans s2).ss.trans s3) hq⟩
theorem st_par (S : XSt G c R sc k X) {l : List Nat} {es : Es} {ts vs : List Expr} {n n2 : Nat} {p p2 : Pos} (hl9 : l.length ≤ 9) (h1 : chkNs G.N sc l ts = true) (hc : chkEs G sc es vs = true) (hn : (parY sc ts vs || parN sc ts vs) = true) : PS X (.Assign [.Tuple ts n p] (.Tuple vs n2 p2) pos) (tS G c R (.par l es)) := by
  rcases Bool.or_eq_true_iff.mp hn with hn | hn
  · have hfn : X.env.scope.kind = .function := by rw [S.scp]; exact S.fn
    unfold parY at hn
    split at hn
    · rename_i x px y py a b hh
      have a1 := and2 hn
      have a2 := and2 a1.1
      have a3 := and2 a2.1
      have a4 := and2 a3.1
      have a5 := and2 a4.1
      have a6 := and2 a5.1
      have a7 := and2 a6.1
      have hx : X.env.scope.names.lookup x = some .local := by rw [S.scp]; exact of_decide_eq_true a7.1
      have hy : X.env.scope.names.lookup y = some .local := by rw [S.scp]; exact of_decide_eq_true a7.2
      have hl2 := chkNs_len h1
      match l, hl2, h1 with
      | [i, j], _, h1 =>
        have b1 := and2 (show (nameIs G.N i x && locB sc x && chkNs G.N sc [j] [.Name y py]) = true from h1)
        have b2 := and2 (show (nameIs G.N j y && locB sc y && chkNs G.N sc [] []) = true from b1.2)
        have hi := S.ok.at_ (and2 b1.1).1
        have hj := S.ok.at_ (and2 b2.1).1
        have hne : x ≠ y := beq_eq_false_iff_ne.mp (not1 a5.2)
        have hij : i ≠ j := fun z => by
          subst z
          rw [hi] at hj
          exact hne (Option.some.inj hj)
        refine (ps_par S.ok.calm S.ok.ndX hi hj hij hx hy (sEs es S.ok hc) (swapped_two hfn hx hy a6.2 (not1 a5.2) (not1 a4.2) (not1 a3.2) (not1 a2.2) (not1 a1.2))).imp fun D σ H ⟨env, w, Gh, K, r, hw, en⟩ => ?_
        obtain ⟨hs, hw⟩ := hw
        refine ⟨env, w, Gh, _, r, hw, fun vs1 H1 ds env1 w1 G1 r1 s1 p1 hlen hq => ?_⟩
        obtain ⟨hl, hq⟩ := hq
        obtain ⟨r3, s3, _⟩ := Rel.setsV (l := [i, j]) r1 (fun x e => hs (S.ok.sf x e)) p1
        have fin := en.nx _ _ _ _ _ r3 (s1.ss.trans s3) hq
        have hv := p1.length
        rw [hl] at hv
        match vs1, hv with
        | [u, v], _ => exact ⟨u, v, rfl, fin⟩
    · rename_i x px y py z pz a b d hh
      have a1 := and2 hn
      have a2 := and2 a1.1
      have a3 := and2 a2.1
      have a4 := and2 a3.1
      have a5 := and2 a4.1
      have a6 := and2 a5.1
      have a7 := and2 a6.1
      have a8 := and2 a7.1
      have a9 := and2 a8.1
      have a10 := and2 a9.1
      have a11 := and2 a10.1
      have a12 := and2 a11.1
      have hx : X.env.scope.names.lookup x = some .local := by rw [S.scp]; exact of_decide_eq_true a12.1
      have hy : X.env.scope.names.lookup y = some .local := by rw [S.scp]; exact of_decide_eq_true a12.2
      have hz : X.env.scope.names.lookup z = some .local := by rw [S.scp]; exact of_decide_eq_true a11.2
      have hl2 := chkNs_len h1
      match l, hl2, h1 with
      | [i, j, m], _, h1 =>
        have b1 := and2 (show (nameIs G.N i x && locB sc x && chkNs G.N sc [j, m] [.Name y py, .Name z pz]) = true from h1)
        have b2 := and2 (show (nameIs G.N j y && locB sc y && chkNs G.N sc [m] [.Name z pz]) = true from b1.2)
        have b3 := and2 (show (nameIs G.N m z && locB sc z && chkNs G.N sc [] []) = true from b2.2)
        have hi := S.ok.at_ (and2 b1.1).1
        have hj := S.ok.at_ (and2 b2.1).1
        have hm := S.ok.at_ (and2 b3.1).1
        have ne : ∀ {i j : Nat} {x y : Str}, X.N[i]? = some x → X.N[j]? = some y → (x == y) = false → i ≠ j := fun {i j x y} hi hj e q => by
          subst q
          rw [hi] at hj
          exact beq_eq_false_iff_ne.mp e (Option.some.inj hj)
        refine (ps_par3 S.ok.calm S.ok.ndX hi hj hm (ne hi hj (not1 a8.2)) (ne hi hm (not1 a7.2)) (ne hj hm (not1 a6.2)) hx hy hz (sEs es S.ok hc) (swapped_three hfn hx hy hz a10.2 a9.2 (not1 a8.2) (not1 a7.2) (not1 a6.2) (not1 a5.2) (not1 a4.2) (not1 a3.2) (not1 a2.2) (not1 a1.2))).imp fun D σ H ⟨env, w, Gh, K, r, hw, en⟩ => ?_
        obtain ⟨hs, hw⟩ := hw
        refine ⟨env, w, Gh, _, r, hw, fun vs1 H1 ds env1 w1 G1 r1 s1 p1 hlen hq => ?_⟩
        obtain ⟨hl, hq⟩ := hq
        obtain ⟨r3, s3, _⟩ := Rel.setsV (l := [i, j, m]) r1 (fun x e => hs (S.ok.sf x e)) p1
        have fin := en.nx _ _ _ _ _ r3 (s1.ss.trans s3) hq
        have hv := p1.length
        rw [hl] at hv
        match vs1, hv with
        | [u, v, t], _ => exact ⟨u, v, t, rfl, fin⟩
    · cases hn
  · exact par_tup S hl9 h1 hc hn
theorem st_app (S : XSt G c R sc k X) {a e : E} {x y : Expr} {apos cpos : Pos} (hl : (apos.endLine == cpos.line) = true) (hs : noSuper x = true) (hst : isStar y = false) (ha : chkE G sc a x = true) (he : chkE G sc e y = true) : PS X (.Expr (.Call (.Attribute x "append" apos) [y] [] cpos) pos) (tS G c R (.app a e)) := by
  have st : starEach [y] X.env = (false, eval y X.env) :: starEach [] X.env := star_ok hst
  refine (ps_expr (pe_bm PySem.F.plainAttrs_list PySem.F.slot_list_append PySem.F.type_list_append mt_append (s_baseL S.ok ha (sE a S.ok ha).1) (pa_cons (sE e S.ok he).1 pa_nil st) (attr_base hs) (by rw [st]; rfl) hl st rfl) rfl).imp fun D σ H ⟨env, w, Gh, K, r, hw, en⟩ => ?_
  replace hw : pkThenL (baseOf a) (wpE G R a) (wpE G R e) env w fun d x env w => chgL env w (baseOf a) d (fun xs => xs ++ [x]) (fun xs => xs.length < sizeLine) K.nx := hw
  refine ⟨_, env, w, Gh, _, _, r, hw, fun v1 H1 env1 w1 G1 Q2 r1 s1 il hw1 back => ?_⟩
  obtain ⟨ad, vs0, rfl, hl0⟩ := il
  refine ⟨.inl ⟨rfl, vs0, ref_lst hl0⟩, env1, w1, G1, _, r1, hw1, fun v2 H2 d2 env2 w2 G2 r2 s2 p2 fr2 hw2 => ?_⟩
  obtain ⟨d, pd, hi, hw3⟩ := back d2 H2 env2 w2 G2 r2 s2 hw2
  obtain ⟨vs, xs, h1, h2, h3, h4, ho, h5⟩ := chgL_ok r2 hw3 pd hi
  obtain ⟨env', w', hq, r3, s3⟩ := h5 (vs ++ [v2]) fun o => (h3.stayU r2 ho o).append (.cons (p2.go (r2.stayU ho) (fun _ _ h _ => h) fun _ _ e => e) .nil)
  exact ⟨ad, vs, v2, rfl, rfl, h2, by rw [h3.length]; exact h4, en.nx _ _ _ _ _ r3 ((s1.trans s2).ss.trans s3.ss) hq⟩
theorem st_setIx (S : XSt G c R sc k X) {a kx e : E} {x y v : Expr} {p : Pos} (hs : isSlice y = false) (hv : isComp v = false) (ha : chkE G sc a x = true) (hk : chkE G sc kx y = true) (he : chkE G sc e v = true) : PS X (.Assign [.Subscript x y p] v pos) (tS G c R (.setIx a kx e)) := by
  have hg : PG X (.Subscript x y p) (gSub (tBase G c R a) (tE G c R kx) rSetL) := pg_sub (s_base S.ok ha (sE a S.ok ha).1) (sE kx S.ok hk).1 set_list (by intro v; cases y <;> first | rfl | cases hs)
  refine (ps_asg (sE e S.ok he).1 hg (by cases v <;> rfl) (by cases v <;> rfl) rfl).imp fun D σ H ⟨env, w, Gh, K, r, hw, en⟩ => ?_
  replace hw : wpE G R e env w fun x env w => pkThen (baseOf a) (wpE G R a) (wpE G R kx) env w fun d kd env w => match res w d, kd with
      | .lst xs, .int j => match ixN xs.length j with
        | some m => chgL env w (baseOf a) d (fun xs => xs.set m x) (fun _ => True) K.nx
        | none => False
      | _, _ => False := hw
  refine ⟨env, w, Gh, _, r, hw, fun v0 H0 d0 env0 w0 G0 r0 s0 p0 fr0 hw0 => ?_⟩
  refine ⟨_, env0, w0, G0, _, _, r0, hw0, fun v1 H1 env1 w1 G1 Q2 r1 s1 hw1 back => ?_⟩
  refine ⟨env1, w1, G1, _, r1, hw1, fun v2 H2 d2 env2 w2 G2 r2 s2 p2 fr2 hw2 => ?_⟩
  obtain ⟨d, pd, hi, hw3⟩ := back d2 H2 env2 w2 G2 r2 s2 hw2
  cases hd : res w2 d <;> simp only [hd] at hw3
  rename_i xs
  cases p2 <;> try (exact hw3.elim)
  rename_i j
  cases hm : ixN xs.length j with
  | none => simp only [hm] at hw3
  | some m =>
    simp only [hm] at hw3
    have pr := r2.resP pd
    rw [hd] at pr
    obtain ⟨ad, vs0, rfl, hl0, rp0⟩ := pr.lst
    obtain ⟨vs, xs', h1, h2, h3, _, ho, h5⟩ := chgL_ok r2 hw3 pd hi
    rw [hd] at h1
    cases h1
    have p02 := (p0.step s1 r0).step s2 r1
    obtain ⟨env', w', hq, r3, s3⟩ := h5 (vs.set m v0) fun o => Reps.set (p02.go (r2.stayU ho) (fun _ _ h _ => h) fun _ _ e => e) m (h3.stayU r2 ho o)
    refine ⟨ad, vs, j, m, rfl, rfl, h2, by rw [h3.length]; exact hm, en.nx _ _ _ _ _ r3 (((s0.trans s1).trans s2).ss.trans s3.ss) hq⟩
end
end Py

set_option Elab.async false
set_option linter.all false
set_option maxRecDepth 100000
set_option maxHeartbeats 4000000
/-! PyR: every body that the look passes does what its small tree says. -/
namespace Py
open PySem PySem.Spec PyProof.Rows L2
section
variable {G : Gam} {c : Ct} {R : Exn → Fm → W → Prop} {sc : Scope} {k : Nat} {X : Cx} {pos : Pos}
theorem putF_mem {f : Str} {v : V} {P : Str → Prop} (hf : P f) : ∀ {l : List (Str × V)}, (∀ p, p ∈ l → P p.1) → ∀ p, p ∈ putF f v l → P p.1
  | [], _, p, hp => by
    have e : p = (f, v) := List.mem_singleton.mp hp
    subst e
    exact hf
  | (g, x) :: l, h, p, hp => by
    unfold putF at hp
    by_cases e : g = f
    · rw [if_pos e] at hp
      rcases List.mem_cons.mp hp with q | q
      · subst q
        exact h (g, x) (List.mem_cons_self ..)
      · exact h p (List.mem_cons_of_mem _ q)
    · rw [if_neg e] at hp
      rcases List.mem_cons.mp hp with q | q
      · subst q
        exact h _ (List.mem_cons_self ..)
      · exact putF_mem hf (fun p hp => h p (List.mem_cons_of_mem _ hp)) p q
/-- what chgF says, in the heap -/
theorem chgF_ok {σ : L2.St} {H : Hp} {env : Fm} {w : W} {Gh : List Addr} {i : Option Nat} {d x : D} {f : Str} {v0 : V} {Q : Fm → W → Prop} (r : Rel c σ H env w Gh) (hw : chgF env w i d f x Q) (hf : f ∈ c.m.fl) {a : V} (p : Pk c.m H (Okk c.O σ env Gh) Gh a d) (px : Rep c.m H (Okk c.O σ env Gh) Gh v0 x)
    (hi : ∀ j, i = some j → σ[j]? = some (some a) ∧ getS env j fun d' => d' = d) :
    ∃ (ad C dx : Addr) (fvs : List (Str × V)) (n : Str), a = .ref ad ∧ H ad = some (.ins C dx fvs) ∧ ClF c.m C n ∧ fvs.length < 1000 ∧ ∃ env' w', Q env' w' ∧ Rel c σ (upd H ad (.ins C dx (putF f v0 fvs))) env' w' Gh ∧ Step σ env Gh H env' Gh (upd H ad (.ins C dx (putF f v0 fvs))) := by
  have main : ∀ {ad : Addr} {n : Str} {fs : List (Str × D)} (ha : Own σ env ad ∨ ad ∈ Gh), CellR c.m H (Okk c.O σ env Gh) Gh ad (.obj n fs) → ∃ (C dx : Addr) (fvs : List (Str × V)), H ad = some (.ins C dx fvs) ∧ ClF c.m C n ∧ fvs.length = fs.length ∧ CellR c.m (upd H ad (.ins C dx (putF f v0 fvs))) (Okk c.O σ env Gh) Gh ad (.obj n (putD f x fs)) := by
    intro ad n fs ha cr
    cases cr with
    | obj h m cf nf rf =>
      refine ⟨_, _, _, h, cf, rf.length, .obj upd_same m cf (putF_mem hf nf) (RepF.put ?_ ?_)⟩
      · exact px.go (r.stayU ha) (fun _ _ h _ => h) fun _ _ e => e
      · exact rf.go (r.stayU ha) (fun _ _ h _ => h) fun _ _ e => e
  cases d with
  | h n =>
    obtain ⟨ad, e1, eg⟩ := p.hnd
    subst e1
    replace hw : (match w[n]? with
      | some (.obj c fs) => fs.length < 900 ∧ Q env (w.set n (.obj c (putD f x fs)))
      | _ => False) := hw
    cases e : w[n]? with
    | none => simp only [e] at hw
    | some kc =>
      rw [e] at hw
      cases kc with
      | lst _ => exact hw.elim
      | obj nm fs =>
        obtain ⟨cr, _⟩ := r.st n _ ad e eg
        obtain ⟨C, dx, fvs, h1, cf, hl, cr2⟩ := main (.inr (List.mem_of_getElem? eg)) cr
        obtain ⟨r2, s2⟩ := r.chgHnd e eg cr2
        exact ⟨ad, C, dx, fvs, nm, rfl, h1, cf, by rw [hl]; exact Nat.lt_of_lt_of_le hw.1 (by decide), _, _, hw.2, r2, s2⟩
  | _ =>
    all_goals
      cases i with
      | none => exact hw.elim
      | some j =>
        obtain ⟨e1, e2⟩ := hi j rfl
        simp only [chgF] at hw
        cases e : env[j]? with
        | none => simp only [e] at hw
        | some s =>
          rw [e] at hw
          cases s with
          | none => exact hw.elim
          | val d => exact hw.elim
          | own kc =>
            cases kc with
            | lst _ => exact hw.elim
            | obj nm fs =>
              obtain ⟨ad, e3, cr, n1, n2⟩ := r.own j _ e
              rw [e1] at e3
              cases e3
              obtain ⟨C, dx, fvs, h1, cf, hl, cr2⟩ := main (.inl ⟨j, _, e, e1⟩) cr
              obtain ⟨r2, s2⟩ := r.chgOwn e e1 cr2
              exact ⟨ad, C, dx, fvs, nm, rfl, h1, cf, by rw [hl]; exact Nat.lt_of_lt_of_le hw.1 (by decide), _, _, hw.2, r2, s2⟩
theorem pkD_then {i : Option Nat} {s : DS} {env : Fm} {w : W} {Q : D → Fm → W → Prop} (h : pkD i s env w Q) : pkThen i s (fun env w Q => Q () env w) env w fun d _ env w => Q d env w := by
  cases i with
  | none => exact h
  | some i =>
    have h : getS env i fun d => Q d env w := h
    show getS env i fun _ => getS env i fun d => Q d env w
    unfold getS at h ⊢
    cases e : env[i]? with
    | none =>
      rw [e] at h
      exact h.elim
    | some s =>
      rw [e] at h
      cases s with
      | none => exact h.elim
      | val d => exact h
      | own k => exact h
theorem st_fld (S : XSt G c R sc k X) {a e : E} {x v : Expr} {f : Str} {p : Pos} (hf : f ∈ G.fl) (hv : isComp v = false) (ha : chkE G sc a x = true) (he : chkE G sc e v = true) : PS X (.Assign [.Attribute x f p] v pos) (tS G c R (.fld a f e)) := by
  refine (ps_fld (s_base S.ok ha (sE a S.ok ha).1) (sE e S.ok he).1 (sw_notComp hv)).imp fun D σ H ⟨env, w, Gh, K, r, hw, en⟩ => ?_
  replace hw : wpE G R e env w fun x env w => pkD (baseOf a) (wpE G R a) env w fun d env w => chgF env w (baseOf a) d f x K.nx := hw
  refine ⟨env, w, Gh, _, r, hw, fun v0 H0 d0 env0 w0 G0 r0 s0 p0 fr0 hw0 => ?_⟩
  refine ⟨_, env0, w0, G0, _, _, r0, pkD_then hw0, fun v1 H1 env1 w1 G1 Q2 r1 s1 hw1 back => ?_⟩
  obtain ⟨d, pd, hi, hw3⟩ := back () H1 env1 w1 G1 r1 Step.rfl' hw1
  obtain ⟨ad, C, dx, fvs, n, rfl, h1, cf, hl, env', w', hq, r3, s3⟩ := chgF_ok r1 hw3 (S.ok.fl f hf) pd (p0.step s1 r0) hi
  refine ⟨ad, C, dx, fvs, rfl, h1, ?_, ?_, hl, en.nx _ _ _ _ _ r3 ((s0.trans s1).ss.trans s3.ss) hq⟩
  · rw [S.ok.K]
    exact cf.cls
  · rw [S.ok.K]
    exact cf.noat f (S.ok.fl f hf)
theorem st_ex (S : XSt G c R sc k X) {e : E} {v : Expr} (hv : isComp v = false) (he : chkE G sc e v = true) : PS X (.Expr v pos) (tS G c R (.ex e)) := by
  refine (ps_expr (sE e S.ok he).1 (sw_notComp hv)).imp fun D σ H ⟨env, w, Gh, K, r, hw, en⟩ => ?_
  replace hw : wpE G R e env w fun _ env w => K.nx env w := hw
  exact ⟨env, w, Gh, _, r, hw, fun v H' d env' w' Gh' r' s' p' fr hq => en.nx _ _ _ _ _ r' s'.ss hq⟩
theorem st_ret (S : XSt G c R sc k X) {e : E} {v : Expr} (he : chkE G sc e v = true) : PS X (.Return (some v) pos) (tS G c R (.ret e)) := by
  refine (ps_ret (sE e S.ok he).1).imp fun D σ H ⟨env, w, Gh, K, r, hw, en⟩ => ?_
  replace hw : wpE G R e env w fun d _ w => K.rt d w := hw.2
  exact ⟨env, w, Gh, _, r, hw, fun v H' d env' w' Gh' r' s' p' fr hq => en.rt _ _ _ _ _ _ _ r' s'.ss p' hq⟩
/-- a new list is put behind a handle -/
theorem Rel.store {σ : L2.St} {H1 : Hp} {env : Fm} {w : W} {Gh : List Addr} {a : Addr} {vs : List V} {xs : List D} (r : Rel c σ H1 env w Gh) (ha : H1 a = none) (p : Reps c.m H1 (Okk c.O σ env Gh) Gh vs xs) :
    Rel c σ (upd H1 a (.lst vs)) env (w ++ [.lst xs]) (Gh ++ [a]) := by
  have na := r.notNew ha
  have st : ∀ b u, H1 b = some u → (Okk c.O σ env Gh b ∨ Imm u) → upd H1 a (.lst vs) b = some u := fun b u e _ => by
    rw [upd_ne (ne_of_none e ha)]
    exact e
  have hok : ∀ b u, Okk c.O σ env Gh b → H1 b = some u → Okk c.O σ env (Gh ++ [a]) b := fun b u h e => ⟨h.1, h.2.1, fun z => (List.mem_append.mp z).elim h.2.2 fun z => ne_of_none e ha (List.mem_singleton.mp z)⟩
  have gg : ∀ (n : Nat) (b : Addr), Gh[n]? = some b → (Gh ++ [a])[n]? = some b := fun n b e => by
    rw [List.getElem?_append_left (List.getElem?_eq_some_iff.mp e).1]
    exact e
  have cell : ∀ b k', CellR c.m H1 (Okk c.O σ env Gh) Gh b k' → CellR c.m (upd H1 a (.lst vs)) (Okk c.O σ env (Gh ++ [a])) (Gh ++ [a]) b k' := fun b k' q => by
    obtain ⟨u, hu, _⟩ := q.at_
    exact q.go (upd_ne (ne_of_none hu ha)) st hok gg
  have tr : ∀ b, H1 b ≠ none → upd H1 a (.lst vs) b ≠ none := fun b hb => by
    by_cases q : b = a
    · subst q
      exact absurd ha hb
    · rw [upd_ne q]
      exact hb
  refine ⟨r.len, fun i d e => ?_, fun i k' e => ?_, r.inj, by rw [List.length_append, List.length_append, r.wl]; rfl, ?_, fun n k' b e1 e2 => ?_, fun b u e1 e2 e3 => ?_, ?_, fun b hb => ?_, r.sf, fun b h => tr b (r.ot b h), fun x h => tr x (r.sx x h)⟩
  · obtain ⟨v, e1, h⟩ := r.val i d e
    exact ⟨v, e1, h.go st hok gg⟩
  · obtain ⟨b, e1, h, n1, n2⟩ := r.own i k' e
    obtain ⟨u, hu, _⟩ := h.at_
    exact ⟨b, e1, cell b k' h, fun z => (List.mem_append.mp z).elim n1 fun z => ne_of_none hu ha (List.mem_singleton.mp z), n2⟩
  · refine List.nodup_append.mpr ⟨r.nd, by simp, fun x hx y hy z => ?_⟩
    rw [List.mem_singleton.mp hy] at z
    exact na.2 (z ▸ hx)
  · by_cases hn : n < w.length
    · rw [List.getElem?_append_left hn] at e1
      rw [List.getElem?_append_left (by rw [← r.wl]; exact hn)] at e2
      obtain ⟨h1, h2⟩ := r.st n k' b e1 e2
      exact ⟨cell b k' h1, h2⟩
    · rw [List.getElem?_append_right (by omega)] at e1
      rw [List.getElem?_append_right (by rw [← r.wl]; omega)] at e2
      have hz : n - w.length = 0 := by
        have := (List.getElem?_eq_some_iff.mp e1).1
        simp only [List.length_cons, List.length_nil] at this
        omega
      rw [← r.wl] at e2
      rw [hz] at e1 e2
      cases e1
      cases e2
      exact ⟨.lst upd_same (p.go st hok gg), fun z => r.ot a z ha⟩
  · obtain ⟨h1, h2⟩ := r.fr b u e1 e2 e3
    exact ⟨by rw [upd_ne (ne_of_none h1 ha)]; exact h1, h2⟩
  · obtain ⟨l, rfl⟩ := r.gx
    exact ⟨l ++ [a], List.append_assoc ..⟩
  · rcases List.mem_append.mp hb with z | z
    · exact r.gn b z
    · rw [List.mem_singleton.mp z]
      exact .inr (r.h0new ha)
theorem st_retH (S : XSt G c R sc k X) {e : E} {v : Expr} (hf : e.fresh = true) (he : chkE G sc e v = true) : PS X (.Return (some v) pos) (tS G c R (.retH e)) := by
  refine (ps_ret (sE e S.ok he).1).imp fun D σ H ⟨env, w, Gh, K, r, hw, en⟩ => ?_
  replace hw : wpE G R e env w fun d _ w => match d with
    | .lst xs => K.rt (.h w.length) (w ++ [.lst xs])
    | _ => False := hw.2
  refine ⟨env, w, Gh, _, r, hw, fun v H' d env' w' Gh' r' s' p' fr hq => ?_⟩
  cases d <;> try (exact hq.elim)
  rename_i ds
  obtain ⟨a, H1, vs, xs, rfl, e2, h0, h1, r1, rfl, pr⟩ := fr hf ⟨_, rfl⟩
  cases e2
  have r2 := Rel.store r1 h1 pr
  refine en.rt _ σ _ (.h w'.length) env' (w' ++ [.lst ds]) (Gh' ++ [a]) r2 ⟨fun b u e q1 q2 => s'.fr b u e q1 q2, fun b _ q => s'.own b q, ?_, fun b hb => ?_, s'.tr⟩ (.h ?_) hq
  · obtain ⟨l, rfl⟩ := s'.gx
    exact ⟨l ++ [a], List.append_assoc ..⟩
  · rcases List.mem_append.mp hb with z | z
    · exact s'.gn b z
    · rw [List.mem_singleton.mp z]
      exact .inr h0
  · rw [r1.wl, List.getElem?_append_right (Nat.le_refl _), Nat.sub_self]
    rfl
theorem st_retN : PS X (.Return none pos) (tS G c R .retN) :=
  ps_retN.imp fun D σ H ⟨env, w, Gh, K, r, hw, en⟩ => en.rt _ _ _ _ _ _ _ r SStep.rfl' .non hw.2
theorem st_if {t : E} {a b : Ss} {z : Expr} {x y : List Stmt} (ht : PT X z (tC' G c R t)) (ha : PSs X x (tSs G c R a)) (hb : PSs X y (tSs G c R b)) : PS X (.If z x y pos) (tS G c R (.if_ t a b)) := by
  refine (ps_if ht ha hb).imp fun D σ H ⟨env, w, Gh, K, r, hw, en⟩ => ?_
  replace hw : wpC G R t env w fun r env w => if r = true then wpSs G R a env w K else wpSs G R b env w K := hw
  refine ⟨env, w, Gh, _, r, hw, fun b' H1 env1 w1 G1 r1 s1 h1 => ?_⟩
  cases b' with
  | true => exact ⟨env1, w1, G1, K, r1, h1, en.after s1.ss⟩
  | false => exact ⟨env1, w1, G1, K, r1, h1, en.after s1.ss⟩
theorem st_for (S : XSt G c R sc k X) {t : T} {it : I} {body : Ss} {tg i : Expr} {b : List Stmt} (h1 : chkT G.N sc t tg = true) (h2 : enB it tg = true) (h3 : chkI G sc it i = true) (hb : PSs X b (tSs G c R body)) : PS X (.For tg i b [] pos) (tS G c R (.for_ t it body)) := by
  have hit := sI it S.ok h3 (en_of h2)
  refine (ps_for S.hp S.ok.calm hit.1 (s_tg S.ok h1) hb (folded_ok hit.2)).imp fun D σ H ⟨env, w, Gh, K, r, hw, en⟩ => ?_
  refine ⟨env, w, Gh, _, r, hw, fun J H1 ds env1 w1 G1 r1 s1 id1 hw1 => ?_⟩
  refine ⟨fun i m σ' H' => m = ds.length - i ∧ i ≤ ds.length ∧ ∃ env' w' G', Rel c σ' H' env' w' G' ∧ SStep σ env1 G1 H1 σ' env' G' H' ∧
    forL (fun d env w nx => bindT G t d env fun env => wpSs G R body env w { K with nx := nx, ct := nx, bk := K.nx }) (ds.drop i) env' w' K.nx, ⟨_, rfl, Nat.zero_le _, env1, w1, G1, r1, SStep.rfl', hw1⟩, ?_⟩
  rintro i m σ5 H5 ⟨rfl, hi, env5, w5, G5, r5, s5, hf⟩
  have hO : ∀ a, c.O a → c.O a ∨ H1 a = none := fun a h => .inl h
  by_cases hlt : i < ds.length
  · refine .inr ⟨id1.go c _ _ _ _ _ rfl hO r5 s5 i hlt, fun σ' H' => ∃ env' w' G', Rel c σ' H' env' w' G' ∧ SStep σ env1 G1 H1 σ' env' G' H' ∧
      forL (fun d env w nx => bindT G t d env fun env => wpSs G R body env w { K with nx := nx, ct := nx, bk := K.nx }) (ds.drop (i + 1)) env' w' K.nx, fun σ' H' h => ⟨_, by omega, rfl, hlt, h⟩, fun x H6 hy => ?_⟩
    obtain ⟨d, hd, r6, s6, p6⟩ := id1.yld c _ _ _ _ _ rfl hO r5 s5 i x H6 hlt hy
    have ed : ds.drop i = d :: ds.drop (i + 1) := by
      rw [List.drop_eq_getElem_cons hlt]
      congr 1
      rw [List.getElem?_eq_getElem hlt] at hd
      exact Option.some.inj hd
    rw [ed, forL] at hf
    refine bind_ok S.ok.sf r6 p6 hf fun σ7 env7 r7 s7 o7 hwp hc7 => ?_
    have s57 := s5.trans (s6.ss.trans s7)
    refine ⟨env7, w5, G5, _, r7, hc7, ⟨fun σ' H' env' w' G' r' s' h => ⟨env', w', G', r', s57.trans s', h⟩, fun v σ' H' d env' w' G' r' s' p' h => ?_, fun σ' H' env' w' G' r' s' h => ?_, fun σ' H' env' w' G' r' s' h => ⟨env', w', G', r', s57.trans s', h⟩⟩⟩
    · exact en.rt v σ' H' d env' w' G' r' (s1.ss.trans (s57.trans s')) p' h
    · exact en.nx σ' H' env' w' G' r' (s1.ss.trans (s57.trans s')) h
  · have e : i = ds.length := by omega
    subst e
    rw [List.drop_length, forL] at hf
    exact .inl ⟨id1.stop c _ _ _ _ _ rfl hO r5 s5, en.nx _ _ _ _ _ r5 (s1.ss.trans s5) hf⟩
theorem st_while (S : XSt G c R sc k X) {t : E} {body : Ss} {z : Expr} {b : List Stmt} (ht : PT X z (tC' G c R t)) (hb : PSs X b (tSs G c R body)) : PS X (.While z b [] pos) (tS G c R (.while_ t body)) := by
  refine (ps_while S.hp ht hb).imp fun D σ H ⟨env, w, Gh, K, r, hw, en⟩ => ?_
  obtain ⟨J, ⟨m0, j0⟩, turn⟩ := hw
  refine ⟨fun m σ' H' => ∃ env' w' G', Rel c σ' H' env' w' G' ∧ SStep σ env Gh H σ' env' G' H' ∧ J m env' w', ⟨m0, env, w, Gh, r, SStep.rfl', j0⟩, ?_⟩
  rintro m σ5 H5 ⟨env5, w5, G5, r5, s5, j5⟩
  refine ⟨env5, w5, G5, _, r5, turn m env5 w5 j5, fun b' H6 env6 w6 G6 r6 s6 h6 => ?_⟩
  have s56 := s5.trans s6.ss
  cases b' with
  | true =>
    refine ⟨fun σ' H' => ∃ m', m' < m ∧ ∃ env' w' G', Rel c σ' H' env' w' G' ∧ SStep σ env Gh H σ' env' G' H' ∧ J m' env' w', fun σ' H' h => h, ?_⟩
    refine ⟨env6, w6, G6, _, r6, h6, ⟨fun σ' H' env' w' G' r' s' ⟨m', hm, h⟩ => ⟨m', hm, env', w', G', r', s56.trans s', h⟩, fun v σ' H' d env' w' G' r' s' p' h => ?_, fun σ' H' env' w' G' r' s' h => ?_, fun σ' H' env' w' G' r' s' ⟨m', hm, h⟩ => ⟨m', hm, env', w', G', r', s56.trans s', h⟩⟩⟩
    · exact en.rt v σ' H' d env' w' G' r' (s56.trans s') p' h
    · exact en.nx σ' H' env' w' G' r' (s56.trans s') h
  | false => exact en.nx _ _ _ _ _ r6 s56 h6
end
variable {G : Gam}
mutual
theorem sS : ∀ (s : S) {x : Stmt} {c : Ct} {R : Exn → Fm → W → Prop} {sc : Scope} {k : Nat} {X : Cx}, XSt G c R sc k X → chkS G sc s x = true → PS X x (tS G c R s)
  | .set i e, x, c, R, sc, k, X, S, h => by
    cases x <;> try (cases h)
    rename_i tgs v p
    cases tgs <;> try (cases h)
    rename_i tg tgs
    cases tgs <;> try (cases tg <;> cases h)
    cases tg <;> try (cases h)
    rename_i y py
    have h1 := and2 (show (nameIs G.N i y && locB sc y && chkE G sc e v) = true from h)
    have h2 := and2 h1.1
    exact st_set S h2.1 h2.2 h1.2
  | .setT l e, x, c, R, sc, k, X, S, h => by
    cases x <;> try (cases h)
    rename_i tgs v p
    cases tgs <;> try (cases h)
    rename_i tg tgs
    cases tgs <;> try (cases tg <;> cases h)
    cases tg <;> try (cases h)
    rename_i ts n py
    have h1 := and2 (show (!isTup v && chkNs G.N sc l ts && chkE G sc e v) = true from h)
    have h2 := and2 h1.1
    exact st_setT S (not1 h2.1) h2.2 h1.2
  | .par l es, x, c, R, sc, k, X, S, h => by
    cases x <;> try (cases h)
    rename_i tgs v p
    cases tgs <;> try (cases h)
    rename_i tg tgs
    cases tgs <;> try (cases tg <;> first | (cases h; done) | (cases v <;> cases h))
    cases tg <;> try (cases h)
    rename_i ts n py
    cases v <;> try (cases h)
    rename_i vs n2 py2
    have h1 := and2 (show (decide (l.length ≤ 9) && chkNs G.N sc l ts && chkEs G sc es vs && (parY sc ts vs || parN sc ts vs)) = true from h)
    have h2 := and2 h1.1
    have h3 := and2 h2.1
    exact st_par S (of_decide_eq_true h3.1) h3.2 h2.2 h1.2
  | .app a e, x, c, R, sc, k, X, S, h => by
    cases x <;> try (cases h)
    rename_i v p
    cases v <;> try (cases h)
    rename_i fn args kws cpos
    cases fn <;> try (cases h)
    rename_i y m apos
    cases args <;> try (cases h)
    rename_i z args
    cases args <;> try (cases h)
    cases kws <;> try (cases h)
    have h1 := and2 (show (decide (m = ("append" : Str)) && (apos.endLine == cpos.line) && noSuper y && !isStar z && chkE G sc a y && chkE G sc e z) = true from h)
    have h2 := and2 h1.1
    have h3 := and2 h2.1
    have h4 := and2 h3.1
    have h5 := and2 h4.1
    have e : m = ("append" : Str) := of_decide_eq_true h5.1
    subst e
    exact st_app S h5.2 h4.2 (not1 h3.2) h2.2 h1.2
  | .ins a b e, x, c, R, sc, k, X, S, h => ⟨fun pins s σ H D I ⟨env, w, Gh, K, r, hw, en⟩ => hw.elim⟩
  | .setIx a kx e, x, c, R, sc, k, X, S, h => by
    cases x <;> try (cases h)
    rename_i tgs v p
    cases tgs <;> try (cases h)
    rename_i tg tgs
    cases tgs <;> try (cases tg <;> cases h)
    cases tg <;> try (cases h)
    rename_i y z py
    have h1 := and2 (show (!isSlice z && !isComp v && chkE G sc a y && chkE G sc kx z && chkE G sc e v) = true from h)
    have h2 := and2 h1.1
    have h3 := and2 h2.1
    have h4 := and2 h3.1
    exact st_setIx S (not1 h4.1) (not1 h4.2) h3.2 h2.2 h1.2
  | .fld a f e, x, c, R, sc, k, X, S, h => by
    cases x <;> try (cases h)
    rename_i tgs v p
    cases tgs <;> try (cases h)
    rename_i tg tgs
    cases tgs <;> try (cases tg <;> cases h)
    cases tg <;> try (cases h)
    rename_i y g py
    have h1 := and2 (show (decide (f = g) && decide (f ∈ G.fl) && !isComp v && chkE G sc a y && chkE G sc e v) = true from h)
    have h2 := and2 h1.1
    have h3 := and2 h2.1
    have h4 := and2 h3.1
    have e : f = g := of_decide_eq_true h4.1
    subst e
    exact st_fld S (of_decide_eq_true h4.2) (not1 h3.2) h2.2 h1.2
  | .ex e, x, c, R, sc, k, X, S, h => by
    cases x <;> try (cases h)
    rename_i v p
    have h1 := and2 (show (!isComp v && chkE G sc e v) = true from h)
    exact st_ex S (not1 h1.1) h1.2
  | .ret e, x, c, R, sc, k, X, S, h => by
    cases x <;> try (cases h)
    rename_i v p
    cases v <;> try (cases h)
    exact st_ret S h
  | .retN, x, c, R, sc, k, X, S, h => by
    cases x <;> try (cases h)
    rename_i v p
    cases v <;> try (cases h)
    exact st_retN
  | .retH e, x, c, R, sc, k, X, S, h => by
    cases x <;> try (cases h)
    rename_i v p
    cases v <;> try (cases h)
    rename_i v
    have h1 := and2 (show (e.fresh && chkE G sc e v) = true from h)
    exact st_retH S h1.1 h1.2
  | .if_ t a b, x, c, R, sc, k, X, S, h => by
    cases x <;> try (cases h)
    rename_i z y1 y2 p
    have h1 := and2 (show (chkE G sc t z && chkSs G sc a y1 && chkSs G sc b y2) = true from h)
    have h2 := and2 h1.1
    exact st_if (sE t S.ok h2.1).2 (sSs a S h2.2) (sSs b S h1.2)
  | .for_ t it body, x, c, R, sc, k, X, S, h => by
    cases x <;> try (cases h)
    rename_i tg i b els p
    cases els <;> try (cases h)
    have h1 := and2 (show (chkT G.N sc t tg && enB it tg && chkI G sc it i && chkSs G sc body b) = true from h)
    have h2 := and2 h1.1
    have h3 := and2 h2.1
    exact st_for S h3.1 h3.2 h2.2 (sSs body S h1.2)
  | .while_ t body, x, c, R, sc, k, X, S, h => by
    cases x <;> try (cases h)
    rename_i z b els p
    cases els <;> try (cases h)
    have h1 := and2 (show (chkE G sc t z && chkSs G sc body b) = true from h)
    exact st_while S (sE t S.ok h1.1).2 (sSs body S h1.2)
  | .never, x, c, R, sc, k, X, S, h => ⟨fun pins s σ H D I ⟨env, w, Gh, K, r, hw, en⟩ => hw.elim⟩
  | .pass, x, c, R, sc, k, X, S, h => by
    cases x <;> try (cases h)
    · rename_i v p
      cases v <;> try (cases h)
      rename_i v j p2
      cases v <;> try (cases h)
      exact ps_doc.imp fun D σ H ⟨env, w, Gh, K, r, hw, en⟩ => en.nx _ _ _ _ _ r SStep.rfl' hw
    · exact ps_pass.imp fun D σ H ⟨env, w, Gh, K, r, hw, en⟩ => en.nx _ _ _ _ _ r SStep.rfl' hw
  | .cont, x, c, R, sc, k, X, S, h => by
    cases x <;> try (cases h)
    exact ps_continue.imp fun D σ H ⟨env, w, Gh, K, r, hw, en⟩ => en.ct _ _ _ _ _ r SStep.rfl' hw
  | .brk, x, c, R, sc, k, X, S, h => by
    cases x <;> try (cases h)
    exact ps_break.imp fun D σ H ⟨env, w, Gh, K, r, hw, en⟩ => en.bk _ _ _ _ _ r SStep.rfl' hw
theorem sSs : ∀ (s : Ss) {x : List Stmt} {c : Ct} {R : Exn → Fm → W → Prop} {sc : Scope} {k : Nat} {X : Cx}, XSt G c R sc k X → chkSs G sc s x = true → PSs X x (tSs G c R s)
  | .nil, x, c, R, sc, k, X, S, h => by
    cases x <;> try (cases h)
    exact st_nil
  | .cons s r, x, c, R, sc, k, X, S, h => by
    cases x <;> try (cases h)
    rename_i y ys
    have h1 := and2 (show (chkS G sc s y && chkSs G sc r ys) = true from h)
    exact st_cons (sS s S h1.1) (sSs r S h1.2)
end
end Py

set_option Elab.async false
set_option linter.all false
set_option maxRecDepth 100000
set_option maxHeartbeats 4000000
/-! PyS: defs keep their promises. -/
namespace Py
open PySem PySem.Spec PyProof.Rows L2
/-- the module, as a body at level k sees it -/
structure GOk (G : Gam) (P : Program) (w : World) (m : Mo) (base : Heap) (k : Nat) : Prop where
  fns : ∀ e, e ∈ G.fns → FnHas P w m base k e
  cls : ∀ e, e ∈ G.cls → ∃ j, k = j + 1 ∧ ClHas P w m base j e
  gis : ∀ p, p ∈ G.gis → ∃ t, m.mg p.1 = some (.int p.2 t)
  blt : ∀ x, x ∈ bltNames → m.mg x = none
  eqs : ∀ e, e ∈ G.eqs → ∃ j, k = j + 1 ∧ EqHas P w m base j e
  fl : ∀ f, f ∈ G.fl → f ∈ m.fl
theorem cx_ok {G : Gam} {P : Program} {w : World} {m : Mo} {base : Heap} {k : Nat} {ps : List Str} {qual : Str} {scope : Scope} {f : Addr} {cd : Value} {A : Around} {outer : List Env} {s : Shared} {H : Hp} {E : XK} {c : Ct} {R : RS}
    (S : FnScope G.N ps scope) (g : GOk G P w m base k) (hm : c.m = m) (hr : Room k (A.deeper (envOfC qual scope s.heap.objs.size f cd))) (hsf : ∀ x, c.B.sf = some x → G.self = true)
    (hE : ∀ cls d σ H', wish c R cls d σ H' → E cls d H') : XSt G c R scope k (cxOf (L2.CX P w) P w m.K m.mg base G.N qual scope f cd A outer s H E) := by
  subst hm
  refine ⟨⟨rfl, S.nd, rfl, rfl, rfl, hr, fun x h => vis_cases h, fun x h => ⟨loc_cases h, .inl rfl⟩, fun x h => (of_decide_eq_true h : scope.names.lookup x = some .globalImplicit), fun x h => h, hsf, g.fl, g.fns, g.cls, g.gis, g.blt, g.eqs, ?_⟩, rfl, S.kind, ?_⟩
  · exact (takes_of (X := cxOf (L2.CX P w) P w c.m.K c.m.mg base G.N qual scope f cd A outer s H E) (E := E) rfl rfl rfl rfl).imp hE
  · exact passes_of (X := cxOf (L2.CX P w) P w c.m.K c.m.mg base G.N qual scope f cd A outer s H E) rfl
def nones (n : Nat) : Fm := List.replicate n .none
/-- a def's slots at its entry -/
def entry (n : Nat) (ds : List D) : Fm := ds.map .val ++ nones (n - ds.length)
theorem entry_get {n : Nat} {ds : List D} {i : Nat} {s : Slot} (h : (entry n ds)[i]? = some s) : s = .none ∨ ∃ d, s = .val d ∧ ds[i]? = some d := by
  unfold entry at h
  by_cases hi : i < (ds.map Slot.val).length
  · rw [List.getElem?_append_left hi, List.getElem?_map] at h
    cases e : ds[i]? with
    | none =>
      rw [e] at h
      cases h
    | some d =>
      rw [e] at h
      cases h
      exact .inr ⟨d, rfl, rfl⟩
  · rw [List.getElem?_append_right (by omega)] at h
    unfold nones at h
    have := List.mem_of_getElem? h
    exact .inl (List.eq_of_mem_replicate this)
theorem no_own {n : Nat} {ds : List D} {σ : L2.St} {a : Addr} : ¬ Own σ (entry n ds) a := fun ⟨i, k, e1, _⟩ => by
  rcases entry_get e1 with e | ⟨d, e, _⟩ <;> cases e
section
variable {m : Mo} {O : Addr → Prop} {H H' : Hp} {G0 G' : List Addr} {ds : List D} {vs : List V} {w w' : W} {N : List Str} {σ : L2.St} {env : Fm}
theorem start_get {i : Nat} {v : V} (h : vs[i]? = some v) : (start N vs)[i]? = some (some v) := by
  have hi := (List.getElem?_eq_some_iff.mp h).1
  unfold L2.start
  rw [List.getElem?_append_left (by rw [List.length_map]; exact hi), List.getElem?_map, h]
  rfl
/-- at the entry -/
theorem rel_entry (hN : vs.length ≤ N.length) (r : Reps m H (okO O G0) G0 vs ds) (wr : WRel m O H w G0) : Rel ⟨m, O, ⟨H, G0, none⟩⟩ (start N vs) H (entry N.length ds) w G0 := by
  have hok : ∀ a, okO O G0 a → Okk O (start N vs) (entry N.length ds) G0 a := fun a h => ⟨h.1, no_own, h.2⟩
  refine ⟨?_, fun i d e => ?_, fun i k e => ?_, fun i j k k' a e => ?_, wr.wl, wr.nd, fun n k a e1 e2 => ?_, fun a o e _ _ => ⟨e, no_own⟩, ⟨[], (List.append_nil G0).symm⟩, fun a h => .inl h, fun x h => (nomatch h), wr.ot, fun x h => (nomatch h)⟩
  · unfold entry nones L2.start
    simp only [List.length_append, List.length_map, List.length_replicate, r.length]
  · rcases entry_get e with z | ⟨d', z, e1⟩
    · cases z
    · cases z
      obtain ⟨v, e2, p⟩ := r.get e1
      exact ⟨v, start_get e2, p.ok hok⟩
  · rcases entry_get e with z | ⟨d', z, e1⟩ <;> cases z
  · rcases entry_get e with z | ⟨d', z, e1⟩ <;> cases z
  · obtain ⟨h1, h2⟩ := wr.st n k a e1 e2
    exact ⟨h1.ok hok, h2⟩
/-- at the end -/
theorem rel_exit (r : Rel ⟨m, O, ⟨H, G0, none⟩⟩ σ H' env w' G') : CStep H G0 H' G' ∧ WRel m O H' w' G' := by
  have tr : ∀ a, H a ≠ none → H' a ≠ none := fun a h => by
    cases e : H a with
    | none => exact absurd e h
    | some o =>
      by_cases q : a ∈ G0
      · obtain ⟨l, hl⟩ := r.gx
        obtain ⟨u, hu, _⟩ := r.gAt (a := a) (by rw [hl]; exact List.mem_append_left _ q)
        rw [hu]
        intro z
        cases z
      · rw [(r.fr a o e q (by intro z; cases z)).1]
        intro z
        cases z
  exact ⟨⟨fun a o e h => (r.fr a o e h (by intro z; cases z)).1, r.gx, r.gn, tr⟩, r.wl, r.nd, fun n k a e1 e2 => by
    obtain ⟨h1, h2⟩ := r.st n k a e1 e2
    exact ⟨h1.ok fun a h => ⟨h.1, h.2.2⟩, h2⟩, r.ot⟩
end
section
variable {P : Program} {w : World} {m : Mo} {base : Heap} {x qual : Str} {params : Arguments} {body : List Stmt} {scope : Scope} {dvs : List V} {kws : List (Str × V)} {f : Addr} {fd : FuncData} {G : Gam} {ps : List Str} {k : Nat} {ir : Ss} {sp : Spec}
theorem ps_len (S : FnScope G.N ps scope) : ps.length ≤ G.N.length := by
  have := congrArg List.length S.pre
  rw [List.length_take] at this
  omega
/-- a def keeps its plain promise -/
theorem fn_ok (F : FunD m.K x qual params body scope dvs kws f fd) (S : FnScope G.N ps scope) (g : GOk G P w m base k) (hself : G.self = false) (hchk : chkSs G scope ir body = true)
    (pure : ∀ (ds : List D) (w : W) (Q : D → W → Prop) (R : Exn → W → Prop), ds.length = ps.length → sp ds w Q R → wpSs G (fun x _ w => R x w) ir (entry G.N.length ds) w { nx := fun _ w => Q .non w, rt := Q }) :
    FnOk P w m.K m.mg base (L2.CX P w) (k + 1) f fd ps (spOf m ps.length sp) := by
  refine F.ok S (fun vs H Q E ⟨O, ds, w, G0, Q', R', h, _⟩ => h) fun cdv A outer s H vs Q E hr ⟨O, ds, w1, G0, Q', R', hl, rp, wr, hs, hQ, hE⟩ => ?_
  have r0 := rel_entry (N := G.N) (by rw [hl]; exact ps_len S) rp wr
  have hx := cx_ok (outer := outer) (H := H) (c := ⟨m, O, ⟨H, G0, none⟩⟩) (R := fun x _ w => R' x w) (E := E) S g rfl hr (fun x h => nomatch h) fun cls d σ H' ⟨y, env, w', G', r, ex, hR⟩ => by
    obtain ⟨cs, wr'⟩ := rel_exit r
    obtain ⟨C, d2, fvs, e1, e2, e3, e4, e5⟩ := ex
    exact hE cls d H' y w' G' cs wr' ⟨C, d2, fvs, e1, e2, e3, e4, e5.ok fun a h => ⟨h.1, h.2.2⟩⟩ hR
  refine ⟨_, sSs ir hx hchk, entry G.N.length ds, w1, G0, _, r0, pure ds w1 Q' R' (by rw [← rp.length]; exact hl) hs, ⟨fun σ' H' env' w' G' r s h => ?_, fun v σ' H' d env' w' G' r s p h => ?_, fun _ _ _ _ _ _ _ h => h, fun _ _ _ _ _ _ _ h => h⟩⟩
  · obtain ⟨cs, wr'⟩ := rel_exit r
    exact hQ .non H' .non w' G' cs wr' .non h
  · obtain ⟨cs, wr'⟩ := rel_exit r
    exact hQ v H' d w' G' cs wr' (p.ok fun a h => ⟨h.1, h.2.2⟩) h
/-- what an __init__ ends with -/
def selfEnd (Q : D → W → Prop) : Fm → W → Prop := fun env w => match env[(0 : Nat)]? with
  | some (.own (.obj n fs)) => Q (.obj n fs) w
  | _ => False
theorem entryS_get {n : Nat} {nm : Str} {ds : List D} {i : Nat} {s : Slot} (h : (Slot.own (.obj nm []) :: entry n ds)[i]? = some s) : (i = 0 ∧ s = .own (.obj nm [])) ∨ ∃ j, i = j + 1 ∧ (s = .none ∨ ∃ d, s = .val d ∧ ds[j]? = some d) := by
  cases i with
  | zero =>
    simp at h
    exact .inl ⟨rfl, h.symm⟩
  | succ j =>
    rw [List.getElem?_cons_succ] at h
    exact .inr ⟨j, rfl, entry_get h⟩
theorem mk_ok {nm : Str} (F : FunD m.K x qual params body scope dvs kws f fd) (S : FnScope G.N ps scope) (g : GOk G P w m base k) (hself : G.self = true) (hchk : chkSs G scope ir body = true)
    (pure : ∀ (ds : List D) (w : W) (Q : D → W → Prop) (R : Exn → W → Prop), ds.length + 1 = ps.length → sp ds w Q R → wpSs G (fun x _ w => R x w) ir (.own (.obj nm []) :: entry (G.N.length - 1) ds) w { nx := selfEnd Q, rt := fun _ _ => False }) :
    FnOk P w m.K m.mg base (L2.CX P w) (k + 1) f fd ps (spMk m nm ps.length sp) := by
  refine F.ok S (fun vs H Q E ⟨O, x, C, dx, rest, ds, w, G0, Q', R', h, _⟩ => h) fun cdv A outer s H vs Q E hr ⟨O, x0, C, dx, rest, ds, w1, G0, Q', R', hl, ev, hx, hmg, cf, hxG, hxO, rp, wr, hs, hQ, hE⟩ => ?_
  subst ev
  have hpl := ps_len S
  have hrl : rest.length + 1 = ps.length := hl
  have est : start G.N (V.ref x0 :: rest) = some (.ref x0) :: start G.N.tail rest := by
    unfold L2.start
    rw [List.map_cons, List.cons_append, List.length_tail, List.length_cons]
    have : G.N.length - (rest.length + 1) = G.N.length - 1 - rest.length := by omega
    rw [this]
  have own : ∀ a, Own (start G.N (V.ref x0 :: rest)) (Slot.own (.obj nm []) :: entry (G.N.length - 1) ds) a ↔ a = x0 := fun a => by
    constructor
    · rintro ⟨i, kc, e1, e2⟩
      rcases entryS_get e1 with ⟨rfl, _⟩ | ⟨j, rfl, e | ⟨d, e, _⟩⟩
      · rw [est] at e2
        simp at e2
        exact e2.symm
      · cases e
      · cases e
    · intro e
      subst e
      exact ⟨0, _, rfl, by rw [est]; rfl⟩
  have hok : ∀ a, okO (fun a => O a ∨ a = x0) G0 a → Okk O (start G.N (V.ref x0 :: rest)) (Slot.own (.obj nm []) :: entry (G.N.length - 1) ds) G0 a := fun a h => ⟨fun z => h.1 (.inl z), fun z => h.1 (.inr ((own a).mp z)), h.2⟩
  have r0 : Rel ⟨m, O, ⟨H, G0, some x0⟩⟩ (start G.N (V.ref x0 :: rest)) H (Slot.own (.obj nm []) :: entry (G.N.length - 1) ds) w1 G0 := by
    refine ⟨?_, fun i d e => ?_, fun i kc e => ?_, fun i j kc kc' a e1 e2 _ _ => ?_, wr.wl, wr.nd, fun n kc a e1 e2 => ?_, fun a o e _ h => ⟨e, fun z => h (by rw [(own a).mp z])⟩, ⟨[], (List.append_nil G0).symm⟩, fun a h => .inl h, fun y h => ?_, fun a h => wr.ot a (.inl h), fun y h => ?_⟩
    · rw [est]
      unfold entry nones L2.start
      simp only [List.length_append, List.length_map, List.length_replicate, List.length_cons, List.length_tail, rp.length]
    · rcases entryS_get e with ⟨_, z⟩ | ⟨j, rfl, z | ⟨d', z, e1⟩⟩
      · cases z
      · cases z
      · cases z
        obtain ⟨v, e2, p⟩ := rp.get e1
        refine ⟨v, ?_, p.ok hok⟩
        rw [est, List.getElem?_cons_succ]
        exact start_get e2
    · rcases entryS_get e with ⟨rfl, z⟩ | ⟨j, rfl, z | ⟨d', z, e1⟩⟩
      · cases z
        exact ⟨x0, by rw [est]; rfl, .obj hx hmg cf (fun p hp => nomatch hp) .nil, hxG, hxO⟩
      · cases z
      · cases z
    · rcases entryS_get e1 with ⟨rfl, z⟩ | ⟨j1, rfl, z | ⟨d', z, _⟩⟩
      · rcases entryS_get e2 with ⟨rfl, z⟩ | ⟨j2, rfl, z | ⟨d', z, _⟩⟩
        · rfl
        · cases z
        · cases z
      · cases z
      · cases z
    · obtain ⟨h1, h2⟩ := wr.st n kc a e1 e2
      exact ⟨h1.ok hok, fun z => h2 (.inl z)⟩
    · cases h
      rw [est]
      rfl
    · cases h
      rw [hx]
      intro z
      cases z
  have exit : ∀ {σ : L2.St} {H' : Hp} {env : Fm} {w' : W} {G' : List Addr}, Rel ⟨m, O, ⟨H, G0, some x0⟩⟩ σ H' env w' G' → CStep (fun a => if a = x0 then none else H a) G0 H' G' ∧ WRel m O H' w' G' := fun {σ H' env w' G'} r => by
    have low : ∀ {a : Addr} {o : HO}, (if a = x0 then none else H a) = some o → H a = some o ∧ a ≠ x0 := fun {a o} e => by
      by_cases q : a = x0
      · rw [if_pos q] at e
        cases e
      · rw [if_neg q] at e
        exact ⟨e, q⟩
    have frr : ∀ a o, (if a = x0 then none else H a) = some o → a ∉ G0 → H' a = some o := fun a o e h => by
      obtain ⟨e1, q⟩ := low e
      exact (r.fr a o e1 h fun z => q (Option.some.inj z).symm).1
    refine ⟨⟨frr, r.gx, fun a h => (r.gn a h).imp_right fun z => ?_, fun a h => ?_⟩, r.wl, r.nd, fun n kc a e1 e2 => ?_, r.ot⟩
    · show (if a = x0 then none else H a) = none
      by_cases q : a = x0
      · rw [if_pos q]
      · rw [if_neg q]
        exact z
    · cases e : (if a = x0 then none else H a) with
      | none => exact absurd e h
      | some o =>
        by_cases q : a ∈ G0
        · obtain ⟨l, hl⟩ := r.gx
          obtain ⟨u, hu, _⟩ := r.gAt (a := a) (by rw [hl]; exact List.mem_append_left _ q)
          rw [hu]
          intro z
          cases z
        · rw [frr a o e q]
          intro z
          cases z
    · obtain ⟨h1, h2⟩ := r.st n kc a e1 e2
      exact ⟨h1.ok fun a h => ⟨h.1, h.2.2⟩, h2⟩
  have xG : ∀ {σ : L2.St} {H' : Hp} {env : Fm} {w' : W} {G' : List Addr}, Rel ⟨m, O, ⟨H, G0, some x0⟩⟩ σ H' env w' G' → x0 ∉ G' := fun {σ H' env w' G'} r z => by
    rcases r.gn x0 z with q | q
    · exact hxG q
    · have q : H x0 = none := q
      rw [hx] at q
      cases q
  have hX := cx_ok (outer := outer) (H := H) (c := ⟨m, O, ⟨H, G0, some x0⟩⟩) (R := fun x _ w => R' x w) (E := E) S g rfl hr (fun x h => hself) fun cls d σ H' ⟨y, env, w', G', r, ex, hR⟩ => by
    obtain ⟨cs, wr'⟩ := exit r
    obtain ⟨C, d2, fvs, e1, e2, e3, e4, e5⟩ := ex
    exact hE cls d H' y w' G' cs (xG r) wr' ⟨C, d2, fvs, e1, e2, e3, e4, e5.ok fun a h => ⟨h.1, h.2.2⟩⟩ hR
  refine ⟨_, sSs ir hX hchk, _, w1, G0, _, r0, pure ds w1 Q' R' (by rw [← rp.length]; exact hl) hs, ⟨fun σ' H' env' w' G' r s h => ?_, fun v σ' H' d env' w' G' r s p h => h.elim, fun _ _ _ _ _ _ _ h => h, fun _ _ _ _ _ _ _ h => h⟩⟩
  obtain ⟨cs, wr'⟩ := exit r
  replace h : (match env'[(0 : Nat)]? with
    | some (.own (.obj n fs)) => Q' (.obj n fs) w'
    | _ => False) := h
  cases e : env'[(0 : Nat)]? with
  | none => simp only [e] at h
  | some sl =>
    rw [e] at h
    cases sl with
    | none => exact h.elim
    | val d => exact h.elim
    | own kc =>
      cases kc with
      | lst _ => exact h.elim
      | obj n fs =>
        obtain ⟨a, e1, cr, n1, n2⟩ := r.own 0 _ e
        have e2 := r.sf x0 rfl
        rw [e2] at e1
        cases e1
        refine hQ .non H' (.obj n fs) w' G' cs (xG r) wr' ?_ rfl h
        have cr2 := CellR.ok (q := okO O G') cr fun a h => ⟨h.1, h.2.2⟩
        cases cr2 with
        | obj h m f nf r => exact .obj ⟨n2, n1⟩ h m f nf r
end
end Py

set_option Elab.async false
set_option linter.all false
set_option maxRecDepth 100000
set_option maxHeartbeats 4000000
/-! PyU: words for pure proofs. -/
namespace Py
open PySem PySem.Spec PyProof.Rows L2
theorem forL_ind {step : D → Fm → W → (Fm → W → Prop) → Prop} {Q : Fm → W → Prop} (P : List D → Fm → W → Prop)
    (hs : ∀ d rest env w nx, P (d :: rest) env w → (∀ env' w', P rest env' w' → nx env' w') → step d env w nx) (hd : ∀ env w, P [] env w → Q env w) : ∀ (ds : List D) (env : Fm) (w : W), P ds env w → forL step ds env w Q
  | [], env, w, h => by
    rw [forL]
    exact hd env w h
  | d :: ds, env, w, h => by
    rw [forL]
    exact hs d ds env w _ h fun env' w' h' => forL_ind P hs hd ds env' w' h'
theorem compL_ind {step : D → Fm → W → (Option D → Fm → W → Prop) → Prop} {Q : List D → Fm → W → Prop} (P : List D → List D → Fm → W → Prop)
    (hs : ∀ d rest acc env w nx, P (d :: rest) acc env w → (∀ env' w', P rest acc env' w' → nx none env' w') → (∀ y env' w', acc.length < sizeLine → P rest (acc ++ [y]) env' w' → nx (some y) env' w') → step d env w nx)
    (hd : ∀ acc env w, P [] acc env w → Q acc env w) : ∀ (ds acc : List D) (env : Fm) (w : W), acc.length + ds.length ≤ sizeLine → P ds acc env w → compL step ds acc env w Q
  | [], acc, env, w, _, h => by
    rw [compL]
    exact hd acc env w h
  | d :: ds, acc, env, w, hl, h => by
    rw [compL]
    have hl' : acc.length + (ds.length + 1) ≤ sizeLine := hl
    refine hs d ds acc env w _ h (fun env' w' h' => compL_ind P hs hd ds acc env' w' (by omega) h') fun y env' w' hz h' => ⟨hz, compL_ind P hs hd ds (acc ++ [y]) env' w' ?_ h'⟩
    rw [List.length_append, List.length_singleton]
    omega
/-- a comprehension that changes nothing -/
theorem compL_fm {step : D → Fm → W → (Option D → Fm → W → Prop) → Prop} {Q : List D → Fm → W → Prop} (f : D → Option D) {env : Fm} {w : W} : ∀ {ds acc : List D}, (∀ d, d ∈ ds → ∀ nx, nx (f d) env w → step d env w nx) → acc.length + ds.length ≤ sizeLine → Q (acc ++ ds.filterMap f) env w → compL step ds acc env w Q
  | [], acc, _, _, h => by
    rw [compL]
    rw [List.filterMap_nil, List.append_nil] at h
    exact h
  | d :: ds, acc, hs, hl, h => by
    rw [compL]
    have hl' : acc.length + (ds.length + 1) ≤ sizeLine := hl
    refine hs d (List.mem_cons_self ..) _ ?_
    cases e : f d with
    | none =>
      rw [List.filterMap_cons_none e] at h
      exact compL_fm f (fun d hd => hs d (List.mem_cons_of_mem _ hd)) (by omega) h
    | some y =>
      rw [List.filterMap_cons_some e] at h
      refine ⟨by omega, compL_fm f (fun d hd => hs d (List.mem_cons_of_mem _ hd)) (by rw [List.length_append, List.length_singleton]; omega) ?_⟩
      rw [List.append_assoc]
      exact h
theorem compL_map {step : D → Fm → W → (Option D → Fm → W → Prop) → Prop} {Q : List D → Fm → W → Prop} (f : D → D) {env : Fm} {w : W} {ds : List D} (hs : ∀ d, d ∈ ds → ∀ nx, nx (some (f d)) env w → step d env w nx) (hl : ds.length ≤ sizeLine) (h : Q (ds.map f) env w) : compL step ds [] env w Q := by
  refine compL_fm (fun d => some (f d)) hs (by rw [List.length_nil, Nat.zero_add]; exact hl) ?_
  rw [List.nil_append]
  have : ds.filterMap (fun d => some (f d)) = ds.map f := by
    rw [← List.filterMap_eq_map]
    rfl
  rw [this]
  exact h
theorem eqv_ints : ∀ (a b : List Int), PyData.eqvAll (toPs (a.map D.int)) (toPs (b.map D.int)) = decide (a = b)
  | [], [] => rfl
  | [], _ :: _ => rfl
  | _ :: _, [] => rfl
  | x :: a, y :: b => by
    show ((x == y) && PyData.eqvAll (toPs (a.map D.int)) (toPs (b.map D.int))) = _
    rw [eqv_ints a b, Bool.beq_eq_decide_eq, ← Bool.decide_and]
    exact decide_eq_decide.mpr (by simp)
theorem isPs_ints : ∀ (a : List Int), isPs (a.map D.int) = true
  | [] => rfl
  | _ :: a => isPs_ints a
inductive All2 {α β : Type} (r : α → β → Prop) : List α → List β → Prop
  | nil : All2 r [] []
  | cons {a b l m} (h : r a b) (t : All2 r l m) : All2 r (a :: l) (b :: m)
theorem All2.length {α β : Type} {r : α → β → Prop} : ∀ {l : List α} {m : List β}, All2 r l m → l.length = m.length
  | _, _, .nil => rfl
  | _, _, .cons _ t => congrArg Nat.succ t.length
theorem atI_nat {α : Type} {l : List α} {i : Nat} (h : i < l.length) : atI l (i : Int) = l[i]? := by
  unfold atI ixN
  have h1 : (0 : Int) ≤ i := Int.natCast_nonneg i
  simp [h]
end Py

set_option Elab.async false
set_option linter.all false
set_option maxRecDepth 100000
set_option maxHeartbeats 4000000
/-! PyT: defs, classes and == by the head's facts; the law's end. -/
namespace Py
open PySem PySem.Spec PyProof.Rows L2
theorem all_nil {α : Type} {P : α → Prop} : ∀ e, e ∈ ([] : List α) → P e := fun _ h => nomatch h
theorem all_cons {α : Type} {P : α → Prop} {a : α} {l : List α} (h : P a) (t : ∀ e, e ∈ l → P e) : ∀ e, e ∈ a :: l → P e := fun e he => by
  rcases List.mem_cons.mp he with rfl | he
  · exact h
  · exact t e he
section
variable {P : Program} {w : World} {m : Mo} {base : Heap} {e : Fe}
theorem FnHas.up {j k : Nat} (h : FnHas P w m base j e) (le : j ≤ k) : FnHas P w m base k e := by
  obtain ⟨f, fd, ps, h1, h2, h3, h4, h5⟩ := h.ex
  exact ⟨f, fd, ps, h1, h2, h3, h4.mono le, h5⟩
theorem ClHas.up {j k : Nat} (h : ClHas P w m base j e) (le : j ≤ k) : ClHas P w m base k e := by
  obtain ⟨C, f, fd, ps, h1, h2, h3, h4, h5, h6, h7⟩ := h.ex
  exact ⟨C, f, fd, ps, h1, h2, h3, h4, h5, h6.mono le, h7⟩
theorem EqHas.up {j k : Nat} (h : EqHas P w m base j e) (le : j ≤ k) : EqHas P w m base k e := by
  obtain ⟨C, f, fd, ps, h⟩ := h
  exact ⟨C, f, fd, ps, { h with ok := h.ok.mono le }⟩
end
section
variable {P : Program} {w : World} {K : PySem.W.Frag} {mg : Str → Option Value} {fl cn : List Str} {base : Heap} {x qual : Str} {params : Arguments} {body : List Stmt} {scope : Scope} {dvs : List V} {kws : List (Str × V)} {fd : FuncData} {G : Gam} {ps : List Str} {k : Nat} {ir : Ss} {e : Fe}
def BodyP (G : Gam) (ir : Ss) (n : Nat) (sp : Spec) : Prop := ∀ (ds : List D) (w : W) (Q : D → W → Prop) (R : Exn → W → Prop), ds.length = n → sp ds w Q R → wpSs G (fun x _ w => R x w) ir (entry G.N.length ds) w { nx := fun _ w => Q .non w, rt := Q }
def BodyIP (nm : Str) (G : Gam) (ir : Ss) (n : Nat) (sp : Spec) : Prop := ∀ (ds : List D) (w : W) (Q : D → W → Prop) (R : Exn → W → Prop), ds.length + 1 = n → sp ds w Q R → wpSs G (fun x _ w => R x w) ir (.own (.obj nm []) :: entry (G.N.length - 1) ds) w { nx := selfEnd Q, rt := fun _ _ => False }
theorem fn_has (F : FunD K x qual params body scope dvs kws (He.ga K e.nm) fd) (hmg : mg e.nm = some (.ref (He.ga K e.nm))) (S : FnScope G.N ps scope) (g : GOk G P w ⟨mg, K, fl, cn⟩ base k) (hself : G.self = false) (hchk : chkSs G scope ir body = true) (har : ps.length = e.ar)
    (pure : BodyP G ir ps.length e.sp) (hb : ∀ dd, dd ∈ e.dfl → ∃ ds, Binds K fd ps ds ∧ Vals dd ds) : FnHas P w ⟨mg, K, fl, cn⟩ base (k + 1) e :=
  ⟨_, fd, ps, hmg, F.kp, har, fn_ok (m := ⟨mg, K, fl, cn⟩) F S g hself hchk pure, hb⟩
theorem cl_has (F : FunD K x qual params body scope [] kws (He.ma K (He.ga K e.nm) "__init__") fd) (hmk : Mk K (He.ga K e.nm) (He.ma K (He.ga K e.nm) "__init__")) (hcl : Cls K (He.ga K e.nm)) (hcn : e.nm ∈ cn) (hmg : ∀ n, n ∈ cn → mg n = some (.ref (He.ga K n)))
    (hx : clsX fl cn e.nm K = true) (S : FnScope G.N ps scope) (g : GOk G P w ⟨mg, K, fl, cn⟩ base k) (hself : G.self = true) (hchk : chkSs G scope ir body = true) (har : ps.length = e.ar)
    (pure : BodyIP e.nm G ir ps.length e.sp) (hb : Binds K fd ps []) : ClHas P w ⟨mg, K, fl, cn⟩ base (k + 1) e := by
  unfold clsX at hx
  simp only [Bool.and_eq_true, List.all_eq_true, decide_eq_true_eq] at hx
  obtain ⟨h1, h2, h3, h4, h5, h6, h7, h8⟩ := hx
  refine ⟨_, _, fd, ps, hmg _ hcn, hmk, ⟨hcl, fun f hf => He.eqO_ok (h1 f hf), He.eqO_ok h2, He.eqO_ok h3, h4, h5, fun n' C' hn' hC' => ?_, h7⟩, hcn, har, mk_ok (m := ⟨mg, K, fl, cn⟩) F S g hself hchk pure, hb, h8⟩
  have e1 := (hmg n' hn').symm.trans hC'
  cases e1
  exact h6 n' hn'
theorem eq_has (F : FunD K x qual params body scope [] kws (He.ma K (He.ga K e.nm) "__eq__") fd) (hM : Meth K (He.ga K e.nm) "__eq__" (He.ma K (He.ga K e.nm) "__eq__")) (hcn : e.nm ∈ cn) (hmg : ∀ n, n ∈ cn → mg n = some (.ref (He.ga K n)))
    (hx : clsX fl cn e.nm K = true) (hn : eqX e.nm K = true) (S : FnScope G.N ps scope) (g : GOk G P w ⟨mg, K, fl, cn⟩ base k) (hself : G.self = false) (hchk : chkSs G scope ir body = true) (h2 : ps.length = 2)
    (pure : BodyP G ir ps.length e.sp) (hb : Binds K fd ps []) : EqHas P w ⟨mg, K, fl, cn⟩ base (k + 1) e := by
  unfold clsX at hx
  simp only [Bool.and_eq_true, List.all_eq_true, decide_eq_true_eq] at hx
  exact ⟨_, _, fd, ps, hmg _ hcn, hM.at_, hM.fn, He.eqO_ok hn, hx.2.2.2.2.1, fn_ok (m := ⟨mg, K, fl, cn⟩) F S g hself hchk pure, hb, h2⟩
end
/-- the law's promise, from its plain spec -/
def LawSp (sp : Spec) (n : Nat) : Prop := ∀ (ns : List Int), ns.length ≤ n → ∀ (Q : D → W → Prop) (R : Exn → W → Prop), (∀ w, Q (.bl true) w) → sp [.scr ns] [] Q R
theorem law_sp {m : Mo} {sp : Spec} {n : Nat} (h : LawSp sp n) {H : Hp} {a : Addr} {ns : List Int} (hl : ns.length ≤ n) (hO : Only H) (hS : SqL m.K H a (ns.map V.int)) : spOf m 1 sp [.ref a] H (fun v _ => v = .bl true) fun _ _ _ => False := by
  refine ⟨fun _ => False, [.scr ns], [], [], fun d _ => d = .bl true, fun _ _ => False, rfl, .cons (.scr ?_) .nil, ⟨rfl, List.nodup_nil, fun n k a e => by simp at e, fun _ h => h.elim⟩, h ns hl _ _ fun _ => rfl, fun v H' d w' G' _ _ r e => ?_, fun _ _ _ _ _ _ _ _ _ h => h⟩
  · rcases hS with (h | h) | h
    · rcases hO a with z | ⟨o, xs, z⟩
      · rw [z] at h
        cases h
      · rw [z] at h
        cases h
    · exact .inl h
    · exact .inr h
  · subst e
    cases r
    rfl
theorem law_end {l : PySem.W.OpenLaw} {n k : Nat} {q : Program} {loose : List Str} {XP : (Str → Option Value) → Heap → Prop} {fa : List He.Fa} {fn : List He.DefD} {xb : PySem.W.Frag → Bool} {nh : Nat} {d : DefRec} {x : Str} {sp : Spec} {fl cn : List Str}
    (hn : l.most = some n) (hn2 : n ≤ sizeLine) (hdf : d.params.defaults = []) (hr : Room k callerA) (hs : LawSp sp n)
    (F : ∀ (w : World) (mg : Str → Option Value) (K : PySem.W.Frag) (h : Heap), K.In h → h.Ns mainGlobals mg → He.SaysD fa fn K → xb K = true →
      ∃ (f : Addr) (fd : FuncData), mg d.name = some (.ref f) ∧ (∀ (s : Shared) (u : Value), BindsTo s fd ⟨[u], []⟩ [(x, u)]) ∧
        ∀ base : Heap, K.In base → base.Ns mainGlobals mg → FnOk l.prog w K mg base (L2.CX l.prog w) k f fd [x] (spOf ⟨mg, K, fl, cn⟩ 1 sp)) :
    PySem.W.WalkO q loose XP (hookX nh fa fn xb).says l.row.toRowW d [] (fun f vs => PySem.call f vs) := by
  have hCX : ∀ (w : World) (H : Hp) (s : Shared) (e : Value) (s' : Shared), L2.CX l.prog w [] H s (fun _ _ _ => False) e s' → False := by
    intro w H s e s' h
    obtain ⟨_, _, _, _, _, _, _, _, _, _, _, _, z⟩ := h
    exact z
  refine Att.attach_call hn hdf fun w s₀ s₁ mg mb fa o pm cd doc a vs ns G Y ho hd hcd hmg hobj hints hlen hg => ?_
  obtain ⟨K, KX, c, cx⟩ := Y
  obtain ⟨f, fd, hf, hb, hF⟩ := F w mg K _ KX G.T.g c cx
  have e := hmg.symm.trans hf
  cases e
  exact law_call KX G.T.g G.T.b G.T.builtins G.T.nolimit hg hobj hints (Nat.le_trans hlen hn2) hr hF hb (fun H hO hS => law_sp (m := ⟨mg, K, fl, cn⟩) hs hlen hO hS) fun H e s' => hCX w H s₁ e s'
end Py
namespace Py
open PySem PySem.Spec PyProof.Rows L2
theorem exV {K : PySem.W.Frag} {fd : FuncData} {ps : List Str} {dd : List V} (h : ∃ ds, Vals dd ds ∧ Binds K fd ps ds) : ∃ ds, Binds K fd ps ds ∧ Vals dd ds := by
  obtain ⟨ds, a, b⟩ := h
  exact ⟨ds, b, a⟩
theorem bindsAll {K : PySem.W.Frag} {x qual : Str} {params : Arguments} {body : List Stmt} {scope : Scope} {dvs : List V} {kws : List (Str × V)} {f : Addr} {fd : FuncData} {ps : List Str} (F : FunD K x qual params body scope dvs kws f fd)
    (h : ∀ (dV kV doc pm : Value) (an : Option Addr) (cdv ct : Value) (us : List Value), us.length = ps.length → bindArgs (PySem.W.fnOf x qual params body scope dV kV doc pm an cdv ct) ⟨us, []⟩ = pure (ps.zip us)) : Binds K fd ps [] := by
  obtain ⟨oc, od, dV, kV, doc, pm, an, cdv, ct, osl, rfl, lk, hcd, hD, hK⟩ := F.ex
  exact .all (h dV kV doc pm an cdv ct)
theorem fn_false {P : Program} {w : World} {K : PySem.W.Frag} {mg : Str → Option Value} {fl cn : List Str} {base : Heap} {x qual : Str} {params : Arguments} {body : List Stmt} {scope : Scope} {dvs : List V} {kws : List (Str × V)} {fd : FuncData} {N ps : List Str} {e : Fe}
    (F : FunD K x qual params body scope dvs kws (He.ga K e.nm) fd) (hmg : mg e.nm = some (.ref (He.ga K e.nm))) (S : FnScope N ps scope) (har : ps.length = e.ar) (hb : ∀ dd, dd ∈ e.dfl → ∃ ds, Binds K fd ps ds ∧ Vals dd ds) (hsp : e.sp = fun _ _ _ _ => False) : FnHas P w ⟨mg, K, fl, cn⟩ base 1 e := by
  refine ⟨_, fd, ps, hmg, F.kp, har, F.ok (k := 0) S (fun vs H Q E ⟨O, ds, w, G, Q', R', h, _⟩ => h) fun cdv A outer s H vs Q E hr ⟨O, ds, w, G, Q', R', _, _, _, h, _⟩ => ?_, hb⟩
  rw [hsp] at h
  exact h.elim
end Py

set_option Elab.async false
set_option linter.all false
set_option maxRecDepth 100000
set_option maxHeartbeats 4000000
/-! D79: what each def of k79 does, in plain Lean. -/
namespace Pr
open PySem PySem.Spec PyProof.Rows L2 Py
abbrev Vis : Type := List Int × List Int
abbrev iL (l : List Int) : List D := l.map D.int
def tI (l : List Int) : D := .tup (iL l)
def tVis (v : Vis) : D := .tup [tI v.1, tI v.2]
def tV (l : List Vis) : D := .tup (l.map tVis)
def tM (l : List (List Int)) : D := .tup (l.map tI)
/-- a list or a tuple of these -/
def Sq (xs : List D) (d : D) : Prop := d = .tup xs ∨ d = .lst xs
def LI (P : List Int) (d : D) : Prop := Sq (iL P) d
def LVis (v : Vis) (d : D) : Prop := ∃ a b, Sq [a, b] d ∧ LI v.1 a ∧ LI v.2 b
def LV (V : List Vis) (d : D) : Prop := ∃ vs, Sq vs d ∧ All2 LVis V vs
def LM (M : List (List Int)) (d : D) : Prop := ∃ vs, Sq vs d ∧ All2 LI M vs
def In (a b : Int) (l : List Int) : Prop := ∀ x, x ∈ l → a ≤ x ∧ x ≤ b
/-! numbers and rows -/
def isI : D → Bool
  | .int _ => true
  | _ => false
def sp_is_integer : Py.Spec := fun ds w Q _ => match ds with
  | [d] => Q (.bl (isI d)) w
  | _ => False
def sp_is_below : Py.Spec := fun ds w Q _ => match ds with
  | [.int i, .int l] => ∀ r : Bool, (r = true ↔ 0 ≤ i ∧ i < l) → Q (.bl r) w
  | [.non, .int _] => Q (.bl false) w
  | _ => False
def sp_is_between : Py.Spec := fun ds w Q _ => match ds with
  | [.int i, .int a, .int b] => ∀ r : Bool, (r = true ↔ a ≤ i ∧ i ≤ b) → Q (.bl r) w
  | _ => False
def sp_is_sequence : Py.Spec := fun ds w Q _ => match ds with
  | [.lst _] => Q (.bl true) w
  | [.tup _] => Q (.bl true) w
  | _ => False
def sp_is_row : Py.Spec := fun ds w Q _ => match ds with
  | [.lst xs, .int m] => ∀ r : Bool, (r = true ↔ (xs.length : Int) = m) → Q (.bl r) w
  | [.tup xs, .int m] => ∀ r : Bool, (r = true ↔ (xs.length : Int) = m) → Q (.bl r) w
  | _ => False
/-! books -/
def sp_Book_init : Py.Spec := fun ds w Q _ => match ds with
  | [.int k, rd] => ∃ rs, Sq rs rd ∧ (1 ≤ k ∧ k ≤ 6 ∧ 1 ≤ rs.length ∧ rs.length ≤ 40) ∧
      (∀ r, r ∈ rs → ∃ es, Sq es r ∧ (es.length : Int) = k ∧ ∀ e, e ∈ es → e = .non ∨ ∃ i : Int, e = .int i ∧ 0 ≤ i ∧ i < rs.length) ∧ ∀ fs, Q (.obj "Book" fs) w
  | _ => False
def sp_Book_eq : Py.Spec := fun _ _ _ _ => False
def sp_row_wrong : Py.Spec := fun ds w Q _ => match ds with
  | [rd, .int k] => ∃ row, LI row rd ∧ row.length ≤ 400 ∧ In 0 (k - 1) row ∧ Q .non w
  | _ => False
/-! doors -/
abbrev big18 : Int := 1000000000000000000
def okVis (n : Nat) (v : Vis) : Prop := v.1.length = n ∧ v.2.length = n ∧ In 0 big18 v.1 ∧ In 0 big18 v.2
def okD (P : List Int) (V : List Vis) : Prop := P.length ≤ 60 ∧ In 0 big18 P ∧ 1 ≤ V.length ∧ V.length ≤ 6 ∧ ∀ v, v ∈ V → okVis P.length v
def oD (P : List Int) (V : List Vis) : D := .obj "Doors" [("purse", tI P), ("visits", tV V)]
def sp_Doors_init : Py.Spec := fun ds w Q _ => match ds with
  | [pd, vd] => ∃ P V, LI P pd ∧ LV V vd ∧ okD P V ∧ Q (oD P V) w
  | _ => False
def sp_Doors_eq : Py.Spec := fun ds w Q _ => match ds with
  | [a, b] => ∃ P V P' V', a = oD P V ∧ b = oD P' V' ∧ Q (.bl (decide (P = P' ∧ V = V'))) w
  | _ => False
def sp_is_tickets : Py.Spec := fun ds w Q _ => match ds with
  | [d, .int n] => ∃ P, LI P d ∧ (P.length : Int) = n ∧ P.length ≤ 60 ∧ In 0 big18 P ∧ Q (.bl true) w
  | _ => False
def sp_is_visit : Py.Spec := fun ds w Q _ => match ds with
  | [d, .int n] => ∃ (v : Vis) (m : Nat), LVis v d ∧ (m : Int) = n ∧ m ≤ 60 ∧ okVis m v ∧ Q (.bl true) w
  | _ => False
abbrev big30 : Int := 999999999999999999999999999999
def sp_need_purse : Py.Spec := fun ds w Q _ => match ds with
  | [o, pd] => ∃ P V p, o = oD P V ∧ LI p pd ∧ p.length = P.length ∧ In 0 big30 p ∧ Q (tI p) w
  | _ => False
/-- the colours of which there is too little -/
def lacksF (p f : List Int) : List Int := ((List.range f.length).filter fun i => decide (p.getD i 0 < f.getD i 0)).map Int.ofNat
def paidF (p : List Int) (v : Vis) : List Int := (List.range p.length).map fun i => p.getD i 0 - v.1.getD i 0 + v.2.getD i 0
def sp_lacks_in : Py.Spec := fun ds w Q _ => match ds with
  | [pd, fd] => ∃ p f, pd = tI p ∧ fd = tI f ∧ f.length = p.length ∧ p.length ≤ 60 ∧ Q (tI (lacksF p f)) w
  | _ => False
def sp_paid : Py.Spec := fun ds w Q _ => match ds with
  | [pd, vd] => ∃ p v, pd = tI p ∧ vd = tVis v ∧ v.1.length = p.length ∧ v.2.length = p.length ∧ p.length ≤ 60 ∧ Q (tI (paidF p v)) w
  | _ => False
/-- the walk of a row -/
inductive Way | stop (at_ : Int) (lacks : List Int) | let_ (p : List Int)
def Way.toD : Way → D
  | .stop a l => .tup [.str "stopped", .int a, tI l]
  | .let_ p => .tup [.str "let", tI p]
def visAt (V : List Vis) (k : Int) : Vis := V.getD k.toNat ([], [])
def walkF (V : List Vis) : List Int → Int → List Int → Way
  | [], _, p => .let_ p
  | k :: r, at_, p => if lacksF p (visAt V k).1 = [] then walkF V r (at_ + 1) (paidF p (visAt V k)) else .stop at_ (lacksF p (visAt V k).1)
def okW (n : Nat) (V : List Vis) (p row : List Int) : Prop := p.length = n ∧ n ≤ 60 ∧ (∀ v, v ∈ V → v.1.length = n ∧ v.2.length = n) ∧ In 0 ((V.length : Int) - 1) row ∧ row.length ≤ 400
def sp_walk_from : Py.Spec := fun ds w Q _ => match ds with
  | [o, pd, rd] => ∃ P V p row, o = oD P V ∧ pd = tI p ∧ rd = tI row ∧ okW P.length V p row ∧ Q (walkF V row 0 p).toD w
  | _ => False
/-! changes -/
structure Ch where
  P : List Int
  V : List Vis
  P' : List Int
  V' : List Vis
  r : List (List Int)
  x : List Int
  deriving DecidableEq
def okR (c : Ch) : Prop := c.r.length = c.P.length ∧ ∀ l, l ∈ c.r → l.length = c.P'.length ∧ In 0 1000000000 l
def okC (c : Ch) : Prop := okD c.P c.V ∧ okD c.P' c.V' ∧ c.V'.length = c.V.length ∧ okR c ∧ c.x.length = c.P'.length ∧ In 0 big18 c.x
def oC (c : Ch) : D := .obj "Change" [("old", oD c.P c.V), ("new", oD c.P' c.V'), ("rates", tM c.r), ("extra", tI c.x)]
def sp_need_rates : Py.Spec := fun ds w Q _ => match ds with
  | [o, n, rd] => ∃ c : Ch, o = oD c.P c.V ∧ n = oD c.P' c.V' ∧ LM c.r rd ∧ okC c ∧ Q .non w
  | _ => False
def sp_Change_init : Py.Spec := fun ds w Q _ => match ds with
  | [o, n, rd, xd] => ∃ c : Ch, o = oD c.P c.V ∧ n = oD c.P' c.V' ∧ LM c.r rd ∧ LI c.x xd ∧ okC c ∧ Q (oC c) w
  | _ => False
def sp_Change_eq : Py.Spec := fun ds w Q _ => match ds with
  | [a, b] => ∃ c c' : Ch, a = oC c ∧ b = oC c' ∧ Q (.bl (decide (c = c'))) w
  | _ => False
def sp_need_change : Py.Spec := fun ds w Q _ => match ds with
  | [a, .int _, .non] => ∃ c : Ch, a = oC c ∧ Q .non w
  | _ => False
def worthF (r : List (List Int)) (col : Nat) (p : List Int) : Int := ((List.range p.length).map fun i => p.getD i 0 * (r.getD i []).getD col 0).sum
def exF (r : List (List Int)) (x p : List Int) : List Int := (List.range x.length).map fun i => x.getD i 0 + worthF r i p
def sp_worth : Py.Spec := fun ds w Q _ => match ds with
  | [rd, .int k, pd] => ∃ (r : List (List Int)) (n : Nat) (p : List Int) (m : Nat), rd = tM r ∧ k = (n : Nat) ∧ pd = tI p ∧ r.length = p.length ∧ p.length ≤ 60 ∧ n < m ∧ (∀ l, l ∈ r → l.length = m ∧ In 0 1000000000 l) ∧ Q (.int (worthF r n p)) w
  | _ => False
def sp_exchange_of : Py.Spec := fun ds w Q _ => match ds with
  | [a, pd] => ∃ (c : Ch) (p : List Int), a = oC c ∧ pd = tI p ∧ okC c ∧ p.length = c.P.length ∧ Q (tI (exF c.r c.x p)) w
  | _ => False
def sp_exchanged : Py.Spec := fun ds w Q _ => match ds with
  | [a, pd] => ∃ (c : Ch) (p : List Int), a = oC c ∧ LI p pd ∧ okC c ∧ p.length = c.P.length ∧ In 0 big30 p ∧ Q (tI (exF c.r c.x p)) w
  | _ => False
/-- over the exchange -/
def overF (c : Ch) (b a : List Int) : Way := match walkF c.V b 0 c.P with
  | .stop i l => .stop i l
  | .let_ p => match walkF c.V' a 0 (exF c.r c.x p) with
    | .let_ q => .let_ q
    | .stop i l => .stop ((b.length : Int) + i) l
def rowOk (V : List Vis) (row : List Int) : Prop := row.length ≤ 400 ∧ In 0 ((V.length : Int) - 1) row
def sp_gone_over : Py.Spec := fun ds w Q _ => match ds with
  | [o, bd, ad] => ∃ (c : Ch) (b a : List Int), o = oC c ∧ LI b bd ∧ LI a ad ∧ okC c ∧ rowOk c.V b ∧ rowOk c.V a ∧ Q (overF c b a).toD w
  | _ => False
/-! the law's draws -/
def BoxW (w : W) : Prop := ∃ (cs : List Int) (b p : Int), w = [.lst [.lst (iL cs), .int b, .int p]] ∧ 0 ≤ p ∧ 0 ≤ b ∧ b < 2147483629
def sp_law_box : Py.Spec := fun ds w Q _ => match ds with
  | [.scr ns] => w = [] ∧ ns.length ≤ 63 ∧ ∀ w', BoxW w' → Q (.h 0) w'
  | _ => False
def sp_law_take : Py.Spec := fun ds w Q _ => match ds with
  | [.h 0, .int m] => BoxW w ∧ 0 < m ∧ ∀ r w', 0 ≤ r → r < m → BoxW w' → Q (.int r) w'
  | _ => False
def sp_law_pick : Py.Spec := fun ds w Q _ => match ds with
  | [.h 0, .lst xs] => BoxW w ∧ xs ≠ [] ∧ xs.length ≤ 1000 ∧ ∀ x w', x ∈ xs → BoxW w' → Q x w'
  | _ => False
/-- a tree of tuples -/
inductive Tr : Nat → D → Prop
  | int {n} (i : Int) : Tr n (.int i)
  | non {n} : Tr n .non
  | str {n} (s : Str) (hs : SeqAt.shaped (toP (.str s)) = true) : Tr n (.str s)
  | tup {n xs} (h : ∀ x, x ∈ xs → Tr n x) (hl : xs.length ≤ 1000) : Tr (n + 1) (.tup xs)
mutual
inductive Ls : Nat → D → D → Prop
  | int {n} (i : Int) : Ls n (.int i) (.int i)
  | non {n} : Ls n .non .non
  | str {n} (s : Str) : Ls n (.str s) (.str s)
  | tup {n xs ys} (h : Lss n xs ys) : Ls (n + 1) (.tup xs) (.tup ys)
  | lst {n xs ys} (h : Lss n xs ys) : Ls (n + 1) (.tup xs) (.lst ys)
inductive Lss : Nat → List D → List D → Prop
  | nil {n} : Lss n [] []
  | cons {n x y xs ys} (h : Ls n x y) (t : Lss n xs ys) : Lss n (x :: xs) (y :: ys)
end
def sp_law_looseN (n : Nat) : Py.Spec := fun ds w Q _ => match ds with
  | [.h 0, v] => BoxW w ∧ Tr n v ∧ ∀ v' w', Ls n v v' → BoxW w' → Q v' w'
  | _ => False
def sp_law_loose : Py.Spec := sp_law_looseN 6
def sp_law_is_int : Py.Spec := fun ds w Q _ => match ds with
  | [.int _] => Q (.bl true) w
  | _ => False
def sp_law_sameN (n : Nat) : Py.Spec := fun ds w Q _ => match ds with
  | [a, b] => a = b ∧ Tr n a ∧ Q (.bl true) w
  | _ => False
def sp_law_same : Py.Spec := sp_law_sameN 6
def sp_law_fits : Py.Spec := fun ds w Q _ => match ds with
  | [pd, fd] => ∃ p f, pd = tI p ∧ fd = tI f ∧ f.length = p.length ∧ p.length ≤ 60 ∧ ∀ b, Q (.bl b) w
  | _ => False
def sp_law_paid : Py.Spec := fun ds w Q _ => match ds with
  | [pd, vd] => ∃ p v, pd = tI p ∧ vd = tVis v ∧ v.1.length = p.length ∧ v.2.length = p.length ∧ p.length ≤ 60 ∧ Q (tI (paidF p v)) w
  | _ => False
/-- a drawn book's rows -/
def rowsOk (k s : Nat) (R : List D) : Prop := R.length = s ∧ ∀ r, r ∈ R → ∃ es, r = .tup es ∧ es.length = k ∧ ∀ e, e ∈ es → e = .non ∨ ∃ i : Int, e = .int i ∧ 0 ≤ i ∧ i < s
def sp_law_rows : Py.Spec := fun ds w Q _ => match ds with
  | [.h 0, .int k, .int s] => ∃ kn sn : Nat, k = kn ∧ s = sn ∧ BoxW w ∧ 1 ≤ kn ∧ kn ≤ 6 ∧ 1 ≤ sn ∧ sn ≤ 40 ∧ ∀ R w', rowsOk kn sn R → BoxW w' → Q (.tup R) w'
  | _ => False
def sp_law_number : Py.Spec := fun ds w Q _ => match ds with
  | [.h 0, .int m] => BoxW w ∧ 0 ≤ m ∧ ∀ r w', 0 ≤ r → r ≤ max m 1 → BoxW w' → Q (.int r) w'
  | _ => False
/-- drawn visits: k kinds, n colours, numbers to m -/
def visOk (k n : Nat) (m : Int) (V : List Vis) : Prop := V.length = k ∧ ∀ v, v ∈ V → v.1.length = n ∧ v.2.length = n ∧ In 0 m v.1 ∧ In 0 m v.2
def sp_law_visits : Py.Spec := fun ds w Q _ => match ds with
  | [.h 0, .int k, .int n, .int m] => ∃ kn nn : Nat, k = kn ∧ n = nn ∧ BoxW w ∧ 1 ≤ kn ∧ kn ≤ 6 ∧ nn ≤ 3 ∧ 0 ≤ m ∧ m ≤ 1000 ∧ ∀ V w', visOk kn nn (max m 1) V → BoxW w' → Q (tV V) w'
  | _ => False
def hallV : List Vis := [([0, 1], [1, 0]), ([1, 0], [0, 1])]
def sp_law_hall : Py.Spec := fun ds w Q _ => match ds with
  | [.int s] => ∃ n : Nat, s = n ∧ 1 ≤ n ∧ n ≤ 5 ∧ ∀ R, rowsOk 2 (n + 1) R → Q (.tup [.tup R, tI [0, (n : Int)], tV hallV]) w
  | _ => False
/-- a drawn book, doors -/
structure CaseOk (R : List D) (p : List Int) (V : List Vis) : Prop where
  rows : ∃ s, 1 ≤ s ∧ s ≤ 10 ∧ rowsOk V.length s R
  one : 1 ≤ V.length ∧ V.length ≤ 3
  vis : ∀ v, v ∈ V → v.1.length = p.length ∧ v.2.length = p.length ∧ In 0 10 v.1 ∧ In 0 10 v.2
  len : p.length ≤ 3
  inn : In 0 10 p
def sp_law_case : Py.Spec := fun ds w Q _ => match ds with
  | [.h 0] => BoxW w ∧ ∀ R p V w', CaseOk R p V → BoxW w' → Q (.tup [.tup R, tI p, tV V]) w'
  | _ => False
def sp_law_book : Py.Spec := fun ds w Q _ => match ds with
  | [.h 0, .tup R] => BoxW w ∧ (∃ k s, rowsOk k s R ∧ 1 ≤ k ∧ k ≤ 6 ∧ 1 ≤ s ∧ s ≤ 40) ∧ ∀ fs w', BoxW w' → Q (.obj "Book" fs) w'
  | _ => False
def sp_law_doors : Py.Spec := fun ds w Q _ => match ds with
  | [.h 0, pd, vd] => ∃ P V, pd = tI P ∧ vd = tV V ∧ okD P V ∧ BoxW w ∧ ∀ w', BoxW w' → Q (oD P V) w'
  | _ => False
def sp_law_are_doors : Py.Spec := fun ds w Q _ => match ds with
  | [o, pd, vd] => ∃ P V, o = oD P V ∧ pd = tI P ∧ vd = tV V ∧ okD P V ∧ Q (.bl true) w
  | _ => False
def sp_law_worth : Py.Spec := sp_worth
def sp_law_exchange : Py.Spec := fun ds w Q _ => match ds with
  | [rd, xd, pd] => ∃ r x p, rd = tM r ∧ xd = tI x ∧ pd = tI p ∧ r.length = p.length ∧ p.length ≤ 60 ∧ x.length ≤ 60 ∧ (∀ l, l ∈ r → l.length = x.length ∧ In 0 1000000000 l) ∧ Q (tI (exF r x p)) w
  | _ => False
/-- a change as the law holds it -/
def tC (c : Ch) : D := .tup [.tup [tI c.P, tV c.V], .tup [tI c.P', tV c.V'], tM c.r, tI c.x]
structure ChOk (b : Int) (x : Int) (c : Ch) : Prop where
  l : c.P.length ≤ 3
  l' : c.P'.length ≤ 3
  p : In 0 10 c.P
  p' : In 0 10 c.P'
  one : 1 ≤ c.V.length ∧ c.V.length ≤ 3
  v : ∀ v, v ∈ c.V → v.1.length = c.P.length ∧ v.2.length = c.P.length ∧ In 0 10 v.1 ∧ In 0 10 v.2
  v' : ∀ v, v ∈ c.V' → v.1.length = c.P'.length ∧ v.2.length = c.P'.length ∧ In 0 11 v.1 ∧ In 0 11 v.2
  len : c.V'.length = c.V.length
  r : c.r.length = c.P.length ∧ ∀ l, l ∈ c.r → l.length = c.P'.length ∧ In 0 b l
  x : c.x.length = c.P'.length ∧ In 0 x c.x
def rowsFor (V : List Vis) (R : List D) : Prop := ∃ s, 1 ≤ s ∧ s ≤ 10 ∧ rowsOk V.length s R
def sp_law_hall_change : Py.Spec := fun ds w Q _ => match ds with
  | [.h 0] => BoxW w ∧ ∀ R (c : Ch) w', ChOk 2 2 c → c.P.length = 2 → c.P'.length = 2 → c.V.length = 2 → rowsFor c.V R → BoxW w' → Q (.tup [.tup R, tC c]) w'
  | _ => False
def sp_law_change_case : Py.Spec := fun ds w Q _ => match ds with
  | [.h 0] => BoxW w ∧ ∀ R (c : Ch) w', ChOk 2 2 c → rowsFor c.V R → BoxW w' → Q (.tup [.tup R, tC c]) w'
  | _ => False
def sp_law_change : Py.Spec := fun ds w Q _ => match ds with
  | [.h 0, cd] => ∃ c, cd = tC c ∧ okC c ∧ c.P.length ≤ 10 ∧ BoxW w ∧ ∀ w', BoxW w' → Q (oC c) w'
  | _ => False
def sp_law_is_change : Py.Spec := fun ds w Q _ => match ds with
  | [o, cd] => ∃ c, o = oC c ∧ cd = tC c ∧ okC c ∧ Q (.bl true) w
  | _ => False
def sp_law_lacks : Py.Spec := sp_lacks_in
def sp_law_walk : Py.Spec := fun ds w Q _ => match ds with
  | [pd, vd, rd] => ∃ n V p row, vd = tV V ∧ pd = tI p ∧ rd = tI row ∧ okW n V p row ∧ Q (walkF V row 0 p).toD w
  | _ => False
def sp_law_walk_over : Py.Spec := fun ds w Q _ => match ds with
  | [cd, bd, ad] => ∃ (c : Ch) (b a : List Int), cd = tC c ∧ bd = tI b ∧ ad = tI a ∧ okC c ∧ rowOk c.V b ∧ rowOk c.V a ∧ Q (overF c b a).toD w
  | _ => False
def sp_law_drawn_row : Py.Spec := fun ds w Q _ => match ds with
  | [.h 0, pd, vd, .int m] => ∃ p V, pd = tI p ∧ vd = tV V ∧ p.length ≤ 60 ∧ (∀ v, v ∈ V → v.1.length = p.length ∧ v.2.length = p.length) ∧ 1 ≤ V.length ∧ V.length ≤ 6 ∧ 0 ≤ m ∧ m ≤ 400 ∧ BoxW w ∧ ∀ row w', rowOk V row → BoxW w' → Q (tI row) w'
  | _ => False
def sp_law_greater : Py.Spec := fun ds w Q _ => match ds with
  | [.h 0, cd] => ∃ c, cd = tC c ∧ ChOk 2 2 c ∧ BoxW w ∧ ∀ c' w', ChOk 800000000 200000000000000000 c' → c'.V = c.V → BoxW w' → Q (tC c') w'
  | _ => False
def sp_law_turned : Py.Spec := fun ds w Q _ => match ds with
  | [.h 0, cd] => ∃ c, cd = tC c ∧ ChOk 800000000 200000000000000000 c ∧ BoxW w ∧ (∀ w', BoxW w' → Q .non w') ∧ ∀ c' w', okC c' → c' ≠ c → c'.P.length ≤ 10 → BoxW w' → Q (tC c') w'
  | _ => False
def sp_law : Py.Spec := fun ds w Q _ => match ds with
  | [.scr ns] => w = [] ∧ ns.length ≤ 63 ∧ ∀ w', Q (.bl true) w'
  | _ => False
end Pr

set_option Elab.async false
set_option linter.all false
set_option maxRecDepth 100000
set_option maxHeartbeats 0
namespace Pr
open PySem PySem.Spec PyProof.Rows L2 Py
def top (i : Nat) : Stmt := PySem.Challenge.pw_takentickets_k79_whole_changes_and_walks.main.body.getD i (.Pass ⟨0, 0, 0, 0⟩)
def ir_is_integer : Ss :=
    (.cons (.ret (.and_ (.cons (.isT (.v 0) [.int]) (.cons (.not_ (.isT (.v 0) [.bool])) .nil))))
    .nil)

def N_is_integer : List Str := ["value"]

def G_is_integer : Gam := { N := N_is_integer, fns := [], cls := [], gis := [], eqs := [], self := false, fl := [] }

theorem chk_is_integer : chkSs (G_is_integer) (defScope (top 11)) ir_is_integer (defBody (top 11)) = true := by kernel_rfl

theorem scp_is_integer : FnScope N_is_integer ["value"] (defScope (top 11)) := ⟨by kernel_rfl, by kernel_rfl, by kernel_rfl, by decide +kernel, by kernel_rfl, by decide +kernel, by decide +kernel⟩

def ir_is_below : Ss :=
    (.cons (.ret (.and_ (.cons (.call 0 (.cons (.v 0) .nil) []) (.cons (.cmp2 .le .lt (.ci 0) (.v 0) (.v 1)) .nil))))
    .nil)

def N_is_below : List Str := ["value", "limit"]

def G_is_below : Gam := { N := N_is_below, fns := [⟨"is_integer", 1, sp_is_integer, [[]]⟩], cls := [], gis := [], eqs := [], self := false, fl := [] }

theorem chk_is_below : chkSs (G_is_below) (defScope (top 12)) ir_is_below (defBody (top 12)) = true := by kernel_rfl

theorem scp_is_below : FnScope N_is_below ["value", "limit"] (defScope (top 12)) := ⟨by kernel_rfl, by kernel_rfl, by kernel_rfl, by decide +kernel, by kernel_rfl, by decide +kernel, by decide +kernel⟩

def ir_is_between : Ss :=
    (.cons (.ret (.and_ (.cons (.call 0 (.cons (.v 0) .nil) []) (.cons (.cmp2 .le .le (.v 1) (.v 0) (.v 2)) .nil))))
    .nil)

def N_is_between : List Str := ["value", "least", "greatest"]

def G_is_between : Gam := { N := N_is_between, fns := [⟨"is_integer", 1, sp_is_integer, [[]]⟩], cls := [], gis := [], eqs := [], self := false, fl := [] }

theorem chk_is_between : chkSs (G_is_between) (defScope (top 13)) ir_is_between (defBody (top 13)) = true := by kernel_rfl

theorem scp_is_between : FnScope N_is_between ["value", "least", "greatest"] (defScope (top 13)) := ⟨by kernel_rfl, by kernel_rfl, by kernel_rfl, by decide +kernel, by kernel_rfl, by decide +kernel, by decide +kernel⟩

def ir_is_sequence : Ss :=
    (.cons (.ret (.isT (.v 0) [.list, .tuple]))
    .nil)

def N_is_sequence : List Str := ["value"]

def G_is_sequence : Gam := { N := N_is_sequence, fns := [], cls := [], gis := [], eqs := [], self := false, fl := [] }

theorem chk_is_sequence : chkSs (G_is_sequence) (defScope (top 14)) ir_is_sequence (defBody (top 14)) = true := by kernel_rfl

theorem scp_is_sequence : FnScope N_is_sequence ["value"] (defScope (top 14)) := ⟨by kernel_rfl, by kernel_rfl, by kernel_rfl, by decide +kernel, by kernel_rfl, by decide +kernel, by decide +kernel⟩

def ir_is_row : Ss :=
    (.cons (.ret (.and_ (.cons (.call 0 (.cons (.v 0) .nil) []) (.cons (.cmp .eq (.b1 .len (.v 0)) (.v 1)) .nil))))
    .nil)

def N_is_row : List Str := ["value", "many"]

def G_is_row : Gam := { N := N_is_row, fns := [⟨"is_sequence", 1, sp_is_sequence, [[]]⟩], cls := [], gis := [], eqs := [], self := false, fl := [] }

theorem chk_is_row : chkSs (G_is_row) (defScope (top 15)) ir_is_row (defBody (top 15)) = true := by kernel_rfl

theorem scp_is_row : FnScope N_is_row ["value", "many"] (defScope (top 15)) := ⟨by kernel_rfl, by kernel_rfl, by kernel_rfl, by decide +kernel, by kernel_rfl, by decide +kernel, by decide +kernel⟩

def ir_Book_init : Ss :=
    (.cons (.if_ (.not_ (.call 2 (.cons (.v 1) (.cons (.ci 1) (.cons (.gi 1) .nil))) [])) (.cons .never
    .nil) .nil)
    (.cons (.if_ (.or_ (.cons (.not_ (.call 3 (.cons (.v 2) .nil) [])) (.cons (.not_ (.call 2 (.cons (.b1 .len (.v 2)) (.cons (.ci 1) (.cons (.gi 0) .nil))) [])) .nil))) (.cons .never
    .nil) .nil)
    (.cons (.for_ (.t [3, 4]) (.enum (.v 2)) (.cons (.if_ (.or_ (.cons (.not_ (.call 1 (.cons (.v 4) (.cons (.v 1) .nil)) [])) (.cons (.not_ (.b1 .all (.comp (.or_ (.cons (.cmp .is_ (.v 5) .cn) (.cons (.call 0 (.cons (.v 5) (.cons (.b1 .len (.v 2)) .nil)) []) .nil))) (.n 5) (.e (.v 4)) .nil [("to", 5)]))) .nil))) (.cons .never
    .nil) .nil)
    .nil))
    (.cons (.fld (.v 0) "kinds" (.v 1))
    (.cons (.fld (.v 0) "rows" (.b1 .tuple (.comp (.b1 .tuple (.v 4)) (.n 4) (.e (.v 2)) .nil [("row", 4)])))
    .nil)))))

def N_Book_init : List Str := ["self", "kinds", "rows", "at", "row", "to"]

def G_Book_init : Gam := { N := N_Book_init, fns := [⟨"is_below", 2, sp_is_below, [[]]⟩, ⟨"is_row", 2, sp_is_row, [[]]⟩, ⟨"is_between", 3, sp_is_between, [[]]⟩, ⟨"is_sequence", 1, sp_is_sequence, [[]]⟩], cls := [], gis := [("MOST_STATES", 40), ("MOST_KINDS", 6)], eqs := [], self := true, fl := ["rows", "kinds"] }

theorem chk_Book_init : chkSs (G_Book_init) (defScope (inClass (top 20) 0)) ir_Book_init (defBody (inClass (top 20) 0)) = true := by kernel_rfl

theorem scp_Book_init : FnScope N_Book_init ["self", "kinds", "rows"] (defScope (inClass (top 20) 0)) := ⟨by kernel_rfl, by kernel_rfl, by kernel_rfl, by decide +kernel, by kernel_rfl, by decide +kernel, by decide +kernel⟩

def ir_Book_eq : Ss :=
    (.cons (.ret (.and_ (.cons (.isC (.v 1) 0) (.cons (.cmp .eq (.attr (.v 0) "kinds") (.attr (.v 1) "kinds")) (.cons (.cmp .eq (.attr (.v 0) "rows") (.attr (.v 1) "rows")) .nil)))))
    .nil)

def N_Book_eq : List Str := ["self", "other"]

def G_Book_eq : Gam := { N := N_Book_eq, fns := [], cls := [⟨"Book", 3, sp_Book_init, [[]]⟩], gis := [], eqs := [], self := false, fl := [] }

theorem chk_Book_eq : chkSs (G_Book_eq) (defScope (inClass (top 20) 1)) ir_Book_eq (defBody (inClass (top 20) 1)) = true := by kernel_rfl

theorem scp_Book_eq : FnScope N_Book_eq ["self", "other"] (defScope (inClass (top 20) 1)) := ⟨by kernel_rfl, by kernel_rfl, by kernel_rfl, by decide +kernel, by kernel_rfl, by decide +kernel, by decide +kernel⟩

def ir_row_wrong : Ss :=
    (.cons (.if_ (.or_ (.cons (.not_ (.call 1 (.cons (.v 0) .nil) [])) (.cons (.cmp .gt (.b1 .len (.v 0)) (.gi 0)) .nil))) (.cons (.ret (.neg (.ci 1)))
    .nil) .nil)
    (.cons (.for_ (.t [2, 3]) (.enum (.v 0)) (.cons (.if_ (.not_ (.call 0 (.cons (.v 3) (.cons (.v 1) .nil)) [])) (.cons (.ret (.v 2))
    .nil) .nil)
    .nil))
    (.cons (.ret .cn)
    .nil)))

def N_row_wrong : List Str := ["row", "kinds", "at", "kind"]

def G_row_wrong : Gam := { N := N_row_wrong, fns := [⟨"is_below", 2, sp_is_below, [[]]⟩, ⟨"is_sequence", 1, sp_is_sequence, [[]]⟩], cls := [], gis := [("MOST_VISITS", 400)], eqs := [], self := false, fl := [] }

theorem chk_row_wrong : chkSs (G_row_wrong) (defScope (top 21)) ir_row_wrong (defBody (top 21)) = true := by kernel_rfl

theorem scp_row_wrong : FnScope N_row_wrong ["row", "kinds"] (defScope (top 21)) := ⟨by kernel_rfl, by kernel_rfl, by kernel_rfl, by decide +kernel, by kernel_rfl, by decide +kernel, by decide +kernel⟩

def ir_Doors_init : Ss :=
    (.cons (.if_ (.or_ (.cons (.not_ (.call 2 (.cons (.v 1) .nil) [])) (.cons (.cmp .gt (.b1 .len (.v 1)) (.gi 2)) .nil))) (.cons .never
    .nil) .nil)
    (.cons (.for_ (.t [3, 4]) (.enum (.v 1)) (.cons (.if_ (.not_ (.call 1 (.cons (.v 4) (.cons (.ci 0) (.cons (.gi 1) .nil))) [])) (.cons .never
    .nil) .nil)
    .nil))
    (.cons (.if_ (.or_ (.cons (.not_ (.call 2 (.cons (.v 2) .nil) [])) (.cons (.not_ (.call 1 (.cons (.b1 .len (.v 2)) (.cons (.ci 1) (.cons (.gi 0) .nil))) [])) .nil))) (.cons .never
    .nil) .nil)
    (.cons (.for_ (.t [3, 5]) (.enum (.v 2)) (.cons (.if_ (.not_ (.call 0 (.cons (.v 5) (.cons (.b1 .len (.v 1)) .nil)) [])) (.cons .never
    .nil) .nil)
    .nil))
    (.cons (.fld (.v 0) "purse" (.b1 .tuple (.v 1)))
    (.cons (.fld (.v 0) "visits" (.b1 .tuple (.comp (.tup (.cons (.b1 .tuple (.v 6)) (.cons (.b1 .tuple (.v 7)) .nil))) (.t [6, 7]) (.e (.v 2)) .nil [("fee", 6), ("gain", 7)])))
    .nil))))))

def N_Doors_init : List Str := ["self", "purse", "visits", "at", "many", "visit", "fee", "gain"]

def G_Doors_init : Gam := { N := N_Doors_init, fns := [⟨"is_visit", 2, sp_is_visit, [[]]⟩, ⟨"is_between", 3, sp_is_between, [[]]⟩, ⟨"is_sequence", 1, sp_is_sequence, [[]]⟩], cls := [], gis := [("MOST_KINDS", 6), ("MOST_TICKETS", 1000000000000000000), ("MOST_COLOURS", 60)], eqs := [], self := true, fl := ["visits", "purse"] }

theorem chk_Doors_init : chkSs (G_Doors_init) (defScope (inClass (top 26) 0)) ir_Doors_init (defBody (inClass (top 26) 0)) = true := by kernel_rfl

theorem scp_Doors_init : FnScope N_Doors_init ["self", "purse", "visits"] (defScope (inClass (top 26) 0)) := ⟨by kernel_rfl, by kernel_rfl, by kernel_rfl, by decide +kernel, by kernel_rfl, by decide +kernel, by decide +kernel⟩

def ir_Doors_eq : Ss :=
    (.cons (.ret (.and_ (.cons (.isC (.v 1) 0) (.cons (.cmp .eq (.attr (.v 0) "purse") (.attr (.v 1) "purse")) (.cons (.cmp .eq (.attr (.v 0) "visits") (.attr (.v 1) "visits")) .nil)))))
    .nil)

def N_Doors_eq : List Str := ["self", "other"]

def G_Doors_eq : Gam := { N := N_Doors_eq, fns := [], cls := [⟨"Doors", 3, sp_Doors_init, [[]]⟩], gis := [], eqs := [], self := false, fl := [] }

theorem chk_Doors_eq : chkSs (G_Doors_eq) (defScope (inClass (top 26) 1)) ir_Doors_eq (defBody (inClass (top 26) 1)) = true := by kernel_rfl

theorem scp_Doors_eq : FnScope N_Doors_eq ["self", "other"] (defScope (inClass (top 26) 1)) := ⟨by kernel_rfl, by kernel_rfl, by kernel_rfl, by decide +kernel, by kernel_rfl, by decide +kernel, by decide +kernel⟩

def ir_is_tickets : Ss :=
    (.cons (.ret (.and_ (.cons (.call 1 (.cons (.v 0) (.cons (.v 1) .nil)) []) (.cons (.b1 .all (.comp (.call 0 (.cons (.v 2) (.cons (.ci 0) (.cons (.gi 0) .nil))) []) (.n 2) (.e (.v 0)) .nil [("many", 2)])) .nil))))
    .nil)

def N_is_tickets : List Str := ["value", "colours", "many"]

def G_is_tickets : Gam := { N := N_is_tickets, fns := [⟨"is_between", 3, sp_is_between, [[]]⟩, ⟨"is_row", 2, sp_is_row, [[]]⟩], cls := [], gis := [("MOST_TICKETS", 1000000000000000000)], eqs := [], self := false, fl := [] }

theorem chk_is_tickets : chkSs (G_is_tickets) (defScope (top 27)) ir_is_tickets (defBody (top 27)) = true := by kernel_rfl

theorem scp_is_tickets : FnScope N_is_tickets ["value", "colours"] (defScope (top 27)) := ⟨by kernel_rfl, by kernel_rfl, by kernel_rfl, by decide +kernel, by kernel_rfl, by decide +kernel, by decide +kernel⟩

def ir_is_visit : Ss :=
    (.cons (.ret (.and_ (.cons (.call 1 (.cons (.v 0) (.cons (.ci 2) .nil)) []) (.cons (.call 0 (.cons (.ix (.v 0) (.ci 0)) (.cons (.v 1) .nil)) []) (.cons (.call 0 (.cons (.ix (.v 0) (.ci 1)) (.cons (.v 1) .nil)) []) .nil)))))
    .nil)

def N_is_visit : List Str := ["value", "colours"]

def G_is_visit : Gam := { N := N_is_visit, fns := [⟨"is_tickets", 2, sp_is_tickets, [[]]⟩, ⟨"is_row", 2, sp_is_row, [[]]⟩], cls := [], gis := [], eqs := [], self := false, fl := [] }

theorem chk_is_visit : chkSs (G_is_visit) (defScope (top 28)) ir_is_visit (defBody (top 28)) = true := by kernel_rfl

theorem scp_is_visit : FnScope N_is_visit ["value", "colours"] (defScope (top 28)) := ⟨by kernel_rfl, by kernel_rfl, by kernel_rfl, by decide +kernel, by kernel_rfl, by decide +kernel, by decide +kernel⟩

def ir_need_purse : Ss :=
    (.cons (.if_ (.not_ (.call 1 (.cons (.v 1) (.cons (.b1 .len (.attr (.v 0) "purse")) .nil)) [])) (.cons .never
    .nil) .nil)
    (.cons (.for_ (.t [2, 3]) (.enum (.v 1)) (.cons (.if_ (.not_ (.call 0 (.cons (.v 3) (.cons (.ci 0) (.cons (.gi 0) .nil))) [])) (.cons .never
    .nil) .nil)
    .nil))
    (.cons (.ret (.b1 .tuple (.v 1)))
    .nil)))

def N_need_purse : List Str := ["doors", "purse", "at", "many"]

def G_need_purse : Gam := { N := N_need_purse, fns := [⟨"is_between", 3, sp_is_between, [[]]⟩, ⟨"is_row", 2, sp_is_row, [[]]⟩], cls := [], gis := [("MOST_PURSE", 999999999999999999999999999999)], eqs := [], self := false, fl := [] }

theorem chk_need_purse : chkSs (G_need_purse) (defScope (top 29)) ir_need_purse (defBody (top 29)) = true := by kernel_rfl

theorem scp_need_purse : FnScope N_need_purse ["doors", "purse"] (defScope (top 29)) := ⟨by kernel_rfl, by kernel_rfl, by kernel_rfl, by decide +kernel, by kernel_rfl, by decide +kernel, by decide +kernel⟩

def ir_lacks_in : Ss :=
    (.cons (.ret (.b1 .tuple (.comp (.v 2) (.t [2, 3]) (.enum (.v 1)) (.cons (.cmp .lt (.ix (.v 0) (.v 2)) (.v 3)) .nil) [("colour", 2), ("many", 3)])))
    .nil)

def N_lacks_in : List Str := ["purse", "fee", "colour", "many"]

def G_lacks_in : Gam := { N := N_lacks_in, fns := [], cls := [], gis := [], eqs := [], self := false, fl := [] }

theorem chk_lacks_in : chkSs (G_lacks_in) (defScope (top 30)) ir_lacks_in (defBody (top 30)) = true := by kernel_rfl

theorem scp_lacks_in : FnScope N_lacks_in ["purse", "fee"] (defScope (top 30)) := ⟨by kernel_rfl, by kernel_rfl, by kernel_rfl, by decide +kernel, by kernel_rfl, by decide +kernel, by decide +kernel⟩

def ir_paid : Ss :=
    (.cons (.ret (.b1 .tuple (.comp (.bin .add (.bin .sub (.v 2) (.v 3)) (.v 4)) (.t [2, 3, 4]) (.e (.zipL (.cons (.v 0) (.cons (.ix (.v 1) (.ci 0)) (.cons (.ix (.v 1) (.ci 1)) .nil))))) .nil [("many", 2), ("fee", 3), ("gain", 4)])))
    .nil)

def N_paid : List Str := ["purse", "visit", "many", "fee", "gain"]

def G_paid : Gam := { N := N_paid, fns := [], cls := [], gis := [], eqs := [], self := false, fl := [] }

theorem chk_paid : chkSs (G_paid) (defScope (top 31)) ir_paid (defBody (top 31)) = true := by kernel_rfl

theorem scp_paid : FnScope N_paid ["purse", "visit"] (defScope (top 31)) := ⟨by kernel_rfl, by kernel_rfl, by kernel_rfl, by decide +kernel, by kernel_rfl, by decide +kernel, by decide +kernel⟩

def ir_walk_from : Ss :=
    (.cons (.for_ (.t [3, 4]) (.enum (.v 2)) (.cons (.set 5 (.call 1 (.cons (.v 1) (.cons (.ix (.ix (.attr (.v 0) "visits") (.v 4)) (.ci 0)) .nil)) []))
    (.cons (.if_ (.v 5) (.cons (.ret (.tup (.cons (.cs "stopped") (.cons (.v 3) (.cons (.v 5) .nil)))))
    .nil) .nil)
    (.cons (.set 1 (.call 0 (.cons (.v 1) (.cons (.ix (.attr (.v 0) "visits") (.v 4)) .nil)) []))
    .nil))))
    (.cons (.ret (.tup (.cons (.cs "let") (.cons (.v 1) .nil))))
    .nil))

def N_walk_from : List Str := ["doors", "purse", "row", "at", "kind", "lacks"]

def G_walk_from : Gam := { N := N_walk_from, fns := [⟨"paid", 2, sp_paid, [[]]⟩, ⟨"lacks_in", 2, sp_lacks_in, [[]]⟩], cls := [], gis := [], eqs := [], self := false, fl := [] }

theorem chk_walk_from : chkSs (G_walk_from) (defScope (top 32)) ir_walk_from (defBody (top 32)) = true := by kernel_rfl

theorem scp_walk_from : FnScope N_walk_from ["doors", "purse", "row"] (defScope (top 32)) := ⟨by kernel_rfl, by kernel_rfl, by kernel_rfl, by decide +kernel, by kernel_rfl, by decide +kernel, by decide +kernel⟩

def ir_Change_init : Ss :=
    (.cons (.if_ (.not_ (.isC (.v 1) 0)) (.cons .never
    .nil) .nil)
    (.cons (.if_ (.or_ (.cons (.not_ (.isC (.v 2) 0)) (.cons (.cmp .ne (.b1 .len (.attr (.v 2) "visits")) (.b1 .len (.attr (.v 1) "visits"))) .nil))) (.cons .never
    .nil) .nil)
    (.cons (.ex (.call 2 (.cons (.v 1) (.cons (.v 2) (.cons (.v 3) .nil))) []))
    (.cons (.if_ (.not_ (.call 1 (.cons (.v 4) (.cons (.b1 .len (.attr (.v 2) "purse")) .nil)) [])) (.cons .never
    .nil) .nil)
    (.cons (.for_ (.t [5, 6]) (.enum (.v 4)) (.cons (.if_ (.not_ (.call 0 (.cons (.v 6) (.cons (.ci 0) (.cons (.gi 0) .nil))) [])) (.cons .never
    .nil) .nil)
    .nil))
    (.cons (.fld (.v 0) "old" (.v 1))
    (.cons (.fld (.v 0) "new" (.v 2))
    (.cons (.fld (.v 0) "rates" (.b1 .tuple (.comp (.b1 .tuple (.v 7)) (.n 7) (.e (.v 3)) .nil [("row", 7)])))
    (.cons (.fld (.v 0) "extra" (.b1 .tuple (.v 4)))
    .nil)))))))))

def N_Change_init : List Str := ["self", "old", "new", "rates", "extra", "at", "many", "row"]

def G_Change_init : Gam := { N := N_Change_init, fns := [⟨"is_between", 3, sp_is_between, [[]]⟩, ⟨"is_row", 2, sp_is_row, [[]]⟩, ⟨"need_rates", 3, sp_need_rates, [[]]⟩], cls := [⟨"Doors", 3, sp_Doors_init, [[]]⟩], gis := [("MOST_TICKETS", 1000000000000000000)], eqs := [], self := true, fl := ["extra", "rates", "new", "old"] }

theorem chk_Change_init : chkSs (G_Change_init) (defScope (inClass (top 35) 0)) ir_Change_init (defBody (inClass (top 35) 0)) = true := by kernel_rfl

theorem scp_Change_init : FnScope N_Change_init ["self", "old", "new", "rates", "extra"] (defScope (inClass (top 35) 0)) := ⟨by kernel_rfl, by kernel_rfl, by kernel_rfl, by decide +kernel, by kernel_rfl, by decide +kernel, by decide +kernel⟩

def ir_Change_eq : Ss :=
    (.cons (.if_ (.or_ (.cons (.not_ (.isC (.v 1) 0)) (.cons (.cmp .ne (.attr (.v 0) "old") (.attr (.v 1) "old")) (.cons (.cmp .ne (.attr (.v 0) "new") (.attr (.v 1) "new")) .nil)))) (.cons (.ret (.cb false))
    .nil) .nil)
    (.cons (.ret (.and_ (.cons (.cmp .eq (.attr (.v 0) "rates") (.attr (.v 1) "rates")) (.cons (.cmp .eq (.attr (.v 0) "extra") (.attr (.v 1) "extra")) .nil))))
    .nil))

def N_Change_eq : List Str := ["self", "other"]

def G_Change_eq : Gam := { N := N_Change_eq, fns := [], cls := [⟨"Change", 5, sp_Change_init, [[]]⟩], gis := [], eqs := [⟨"Doors", 2, sp_Doors_eq, [[]]⟩], self := false, fl := [] }

theorem chk_Change_eq : chkSs (G_Change_eq) (defScope (inClass (top 35) 1)) ir_Change_eq (defBody (inClass (top 35) 1)) = true := by kernel_rfl

theorem scp_Change_eq : FnScope N_Change_eq ["self", "other"] (defScope (inClass (top 35) 1)) := ⟨by kernel_rfl, by kernel_rfl, by kernel_rfl, by decide +kernel, by kernel_rfl, by decide +kernel, by decide +kernel⟩

def ir_need_rates : Ss :=
    (.cons (.if_ (.not_ (.call 1 (.cons (.v 2) (.cons (.b1 .len (.attr (.v 0) "purse")) .nil)) [])) (.cons .never
    .nil) .nil)
    (.cons (.for_ (.t [3, 4]) (.enum (.v 2)) (.cons (.if_ (.or_ (.cons (.not_ (.call 1 (.cons (.v 4) (.cons (.b1 .len (.attr (.v 1) "purse")) .nil)) [])) (.cons (.not_ (.b1 .all (.comp (.call 0 (.cons (.v 5) (.cons (.ci 0) (.cons (.gi 0) .nil))) []) (.n 5) (.e (.v 4)) .nil [("rate", 5)]))) .nil))) (.cons .never
    .nil) .nil)
    .nil))
    .nil))

def N_need_rates : List Str := ["old", "new", "rates", "at", "row", "rate"]

def G_need_rates : Gam := { N := N_need_rates, fns := [⟨"is_between", 3, sp_is_between, [[]]⟩, ⟨"is_row", 2, sp_is_row, [[]]⟩], cls := [], gis := [("MOST_RATE", 1000000000)], eqs := [], self := false, fl := [] }

theorem chk_need_rates : chkSs (G_need_rates) (defScope (top 36)) ir_need_rates (defBody (top 36)) = true := by kernel_rfl

theorem scp_need_rates : FnScope N_need_rates ["old", "new", "rates"] (defScope (top 36)) := ⟨by kernel_rfl, by kernel_rfl, by kernel_rfl, by decide +kernel, by kernel_rfl, by decide +kernel, by decide +kernel⟩

def ir_need_change : Ss :=
    (.cons (.if_ (.or_ (.cons (.not_ (.isC (.v 0) 0)) (.cons (.and_ (.cons (.cmp .isNot (.v 2) .cn) (.cons (.cmp .ne (.b1 .len (.attr (.attr (.v 0) "old") "visits")) (.v 2)) .nil))) .nil))) (.cons .never
    .nil) .nil)
    .nil)

def N_need_change : List Str := ["value", "at", "kinds"]

def G_need_change : Gam := { N := N_need_change, fns := [], cls := [⟨"Change", 5, sp_Change_init, [[]]⟩], gis := [], eqs := [], self := false, fl := [] }

theorem chk_need_change : chkSs (G_need_change) (defScope (top 37)) ir_need_change (defBody (top 37)) = true := by kernel_rfl

theorem scp_need_change : FnScope N_need_change ["value", "at", "kinds"] (defScope (top 37)) := ⟨by kernel_rfl, by kernel_rfl, by kernel_rfl, by decide +kernel, by kernel_rfl, by decide +kernel, by decide +kernel⟩

def ir_worth : Ss :=
    (.cons (.ret (.b1 .sum (.comp (.bin .mul (.v 3) (.ix (.v 4) (.v 1))) (.t [3, 4]) (.e (.zipL (.cons (.v 2) (.cons (.v 0) .nil)))) .nil [("many", 3), ("row", 4)])))
    .nil)

def N_worth : List Str := ["rates", "colour", "purse", "many", "row"]

def G_worth : Gam := { N := N_worth, fns := [], cls := [], gis := [], eqs := [], self := false, fl := [] }

theorem chk_worth : chkSs (G_worth) (defScope (top 38)) ir_worth (defBody (top 38)) = true := by kernel_rfl

theorem scp_worth : FnScope N_worth ["rates", "colour", "purse"] (defScope (top 38)) := ⟨by kernel_rfl, by kernel_rfl, by kernel_rfl, by decide +kernel, by kernel_rfl, by decide +kernel, by decide +kernel⟩

def ir_exchange_of : Ss :=
    (.cons (.ret (.b1 .tuple (.comp (.bin .add (.v 3) (.call 0 (.cons (.attr (.v 0) "rates") (.cons (.v 2) (.cons (.v 1) .nil))) [])) (.t [2, 3]) (.enum (.attr (.v 0) "extra")) .nil [("colour", 2), ("more", 3)])))
    .nil)

def N_exchange_of : List Str := ["change", "purse", "colour", "more"]

def G_exchange_of : Gam := { N := N_exchange_of, fns := [⟨"worth", 3, sp_worth, [[]]⟩], cls := [], gis := [], eqs := [], self := false, fl := [] }

theorem chk_exchange_of : chkSs (G_exchange_of) (defScope (top 39)) ir_exchange_of (defBody (top 39)) = true := by kernel_rfl

theorem scp_exchange_of : FnScope N_exchange_of ["change", "purse"] (defScope (top 39)) := ⟨by kernel_rfl, by kernel_rfl, by kernel_rfl, by decide +kernel, by kernel_rfl, by decide +kernel, by decide +kernel⟩

def ir_exchanged : Ss :=
    (.cons (.ex (.call 2 (.cons (.v 0) .nil) [.int (-1), .non]))
    (.cons (.ret (.call 0 (.cons (.v 0) (.cons (.call 1 (.cons (.attr (.v 0) "old") (.cons (.v 1) .nil)) []) .nil)) []))
    .nil))

def N_exchanged : List Str := ["change", "purse"]

def G_exchanged : Gam := { N := N_exchanged, fns := [⟨"exchange_of", 2, sp_exchange_of, [[]]⟩, ⟨"need_purse", 2, sp_need_purse, [[]]⟩, ⟨"need_change", 3, sp_need_change, [[.int (-1), .non]]⟩], cls := [], gis := [], eqs := [], self := false, fl := [] }

theorem chk_exchanged : chkSs (G_exchanged) (defScope (top 40)) ir_exchanged (defBody (top 40)) = true := by kernel_rfl

theorem scp_exchanged : FnScope N_exchanged ["change", "purse"] (defScope (top 40)) := ⟨by kernel_rfl, by kernel_rfl, by kernel_rfl, by decide +kernel, by kernel_rfl, by decide +kernel, by decide +kernel⟩

def ir_gone_over : Ss :=
    (.cons (.ex (.call 3 (.cons (.v 0) .nil) [.int (-1), .non]))
    (.cons (.for_ (.t [5, 6]) (.enum (.tup (.cons (.v 1) (.cons (.v 2) .nil)))) (.cons (.if_ (.cmp .isNot (.call 2 (.cons (.v 6) (.cons (.b1 .len (.attr (.attr (.v 0) "old") "visits")) .nil)) []) .cn) (.cons .never
    .nil) .nil)
    .nil))
    (.cons (.set 3 (.call 0 (.cons (.attr (.v 0) "old") (.cons (.attr (.attr (.v 0) "old") "purse") (.cons (.b1 .tuple (.v 1)) .nil))) []))
    (.cons (.if_ (.cmp .eq (.ix (.v 3) (.ci 0)) (.cs "stopped")) (.cons (.ret (.v 3))
    .nil) .nil)
    (.cons (.set 4 (.call 0 (.cons (.attr (.v 0) "new") (.cons (.call 1 (.cons (.v 0) (.cons (.ix (.v 3) (.ci 1)) .nil)) []) (.cons (.b1 .tuple (.v 2)) .nil))) []))
    (.cons (.ret (.ife (.cmp .eq (.ix (.v 4) (.ci 0)) (.cs "let")) (.v 4) (.tup (.cons (.cs "stopped") (.cons (.bin .add (.b1 .len (.v 1)) (.ix (.v 4) (.ci 1))) (.cons (.ix (.v 4) (.ci 2)) .nil))))))
    .nil))))))

def N_gone_over : List Str := ["change", "before", "after", "first", "second", "at", "row"]

def G_gone_over : Gam := { N := N_gone_over, fns := [⟨"walk_from", 3, sp_walk_from, [[]]⟩, ⟨"exchange_of", 2, sp_exchange_of, [[]]⟩, ⟨"row_wrong", 2, sp_row_wrong, [[]]⟩, ⟨"need_change", 3, sp_need_change, [[.int (-1), .non]]⟩], cls := [], gis := [], eqs := [], self := false, fl := [] }

theorem chk_gone_over : chkSs (G_gone_over) (defScope (top 41)) ir_gone_over (defBody (top 41)) = true := by kernel_rfl

theorem scp_gone_over : FnScope N_gone_over ["change", "before", "after"] (defScope (top 41)) := ⟨by kernel_rfl, by kernel_rfl, by kernel_rfl, by decide +kernel, by kernel_rfl, by decide +kernel, by decide +kernel⟩

def ir_law_box : Ss :=
    (.cons (.set 1 (.comp (.bin .mod (.b1 .abs (.b1 .int (.v 3))) (.ci 2147483629)) (.n 3) (.e (.sl (.v 0) .none (.some (.ci 60)))) .nil [("cell", 3)]))
    (.cons (.set 2 (.ci 90007))
    (.cons (.for_ (.n 3) (.e (.v 1)) (.cons (.set 2 (.bin .mod (.b1 .int (.bin .add (.bin .add (.bin .mul (.v 2) (.ci 16807)) (.bin .mul (.v 3) (.ci 7))) (.ci 83))) (.ci 2147483629)))
    .nil))
    (.cons (.retH (.lst (.cons (.v 1) (.cons (.v 2) (.cons (.ci 0) .nil)))))
    .nil))))

def N_law_box : List Str := ["script", "cells", "blend", "cell"]

def G_law_box : Gam := { N := N_law_box, fns := [], cls := [], gis := [], eqs := [], self := false, fl := [] }

theorem chk_law_box : chkSs (G_law_box) (defScope (top 43)) ir_law_box (defBody (top 43)) = true := by kernel_rfl

theorem scp_law_box : FnScope N_law_box ["script"] (defScope (top 43)) := ⟨by kernel_rfl, by kernel_rfl, by kernel_rfl, by decide +kernel, by kernel_rfl, by decide +kernel, by decide +kernel⟩

def ir_law_take : Ss :=
    (.cons (.setIx (.v 0) (.ci 2) (.bin .add (.ix (.v 0) (.ci 2)) (.ci 1)))
    (.cons (.if_ (.and_ (.cons (.cmp .le (.ix (.v 0) (.ci 2)) (.b1 .len (.ix (.v 0) (.ci 0)))) (.cons (.cmp .lt (.v 1) (.ci 2147483629)) .nil))) (.cons (.ret (.bin .mod (.b1 .int (.ix (.ix (.v 0) (.ci 0)) (.bin .sub (.ix (.v 0) (.ci 2)) (.ci 1)))) (.v 1)))
    .nil) .nil)
    (.cons (.set 2 (.ci 0))
    (.cons (.for_ (.n 3) (.range1 (.ife (.cmp .lt (.v 1) (.bin .pow (.ci 10) (.ci 9))) (.ci 2) (.ci 6))) (.cons (.setIx (.v 0) (.ci 1) (.bin .mod (.b1 .int (.bin .add (.bin .mul (.ix (.v 0) (.ci 1)) (.ci 16807)) (.ci 41))) (.ci 2147483629)))
    (.cons (.set 2 (.bin .add (.bin .mul (.v 2) (.ci 2147483629)) (.ix (.v 0) (.ci 1))))
    .nil)))
    (.cons (.ret (.bin .mod (.b1 .int (.bin .fdiv (.v 2) (.ci 97))) (.v 1)))
    .nil)))))

def N_law_take : List Str := ["box", "many", "raw", "turn"]

def G_law_take : Gam := { N := N_law_take, fns := [], cls := [], gis := [], eqs := [], self := false, fl := [] }

theorem chk_law_take : chkSs (G_law_take) (defScope (top 44)) ir_law_take (defBody (top 44)) = true := by kernel_rfl

theorem scp_law_take : FnScope N_law_take ["box", "many"] (defScope (top 44)) := ⟨by kernel_rfl, by kernel_rfl, by kernel_rfl, by decide +kernel, by kernel_rfl, by decide +kernel, by decide +kernel⟩

def ir_law_pick : Ss :=
    (.cons (.ret (.ix (.v 1) (.call 0 (.cons (.v 0) (.cons (.b1 .len (.v 1)) .nil)) [])))
    .nil)

def N_law_pick : List Str := ["box", "some"]

def G_law_pick : Gam := { N := N_law_pick, fns := [⟨"_law_take", 2, sp_law_take, [[]]⟩], cls := [], gis := [], eqs := [], self := false, fl := [] }

theorem chk_law_pick : chkSs (G_law_pick) (defScope (top 45)) ir_law_pick (defBody (top 45)) = true := by kernel_rfl

theorem scp_law_pick : FnScope N_law_pick ["box", "some"] (defScope (top 45)) := ⟨by kernel_rfl, by kernel_rfl, by kernel_rfl, by decide +kernel, by kernel_rfl, by decide +kernel, by decide +kernel⟩

def ir_law_loose : Ss :=
    (.cons (.if_ (.or_ (.cons (.isT (.v 1) [.list]) (.cons (.isT (.v 1) [.tuple]) .nil))) (.cons (.set 2 (.comp (.call 1 (.cons (.v 0) (.cons (.v 3) .nil)) []) (.n 3) (.e (.v 1)) .nil [("part", 3)]))
    (.cons (.ret (.ife (.cmp .eq (.call 0 (.cons (.v 0) (.cons (.ci 2) .nil)) []) (.ci 0)) (.v 2) (.b1 .tuple (.v 2))))
    .nil)) .nil)
    (.cons (.ret (.v 1))
    .nil))

def N_law_loose : List Str := ["box", "value", "parts", "part"]

def G_law_loose (sp0 : Py.Spec) : Gam := { N := N_law_loose, fns := [⟨"_law_take", 2, sp_law_take, [[]]⟩, ⟨"_law_loose", 2, sp0, [[]]⟩], cls := [], gis := [], eqs := [], self := false, fl := [] }

theorem chk_law_loose (sp0 : Py.Spec) : chkSs (G_law_loose sp0) (defScope (top 46)) ir_law_loose (defBody (top 46)) = true := by kernel_rfl

theorem scp_law_loose : FnScope N_law_loose ["box", "value"] (defScope (top 46)) := ⟨by kernel_rfl, by kernel_rfl, by kernel_rfl, by decide +kernel, by kernel_rfl, by decide +kernel, by decide +kernel⟩

def ir_law_is_int : Ss :=
    (.cons (.ret (.and_ (.cons (.isT (.v 0) [.int]) (.cons (.not_ (.isT (.v 0) [.bool])) .nil))))
    .nil)

def N_law_is_int : List Str := ["value"]

def G_law_is_int : Gam := { N := N_law_is_int, fns := [], cls := [], gis := [], eqs := [], self := false, fl := [] }

theorem chk_law_is_int : chkSs (G_law_is_int) (defScope (top 47)) ir_law_is_int (defBody (top 47)) = true := by kernel_rfl

theorem scp_law_is_int : FnScope N_law_is_int ["value"] (defScope (top 47)) := ⟨by kernel_rfl, by kernel_rfl, by kernel_rfl, by decide +kernel, by kernel_rfl, by decide +kernel, by decide +kernel⟩

def ir_law_same : Ss :=
    (.cons (.if_ (.isT (.v 1) [.tuple]) (.cons (.if_ (.or_ (.cons (.not_ (.isT (.v 0) [.tuple])) (.cons (.cmp .ne (.b1 .len (.v 0)) (.b1 .len (.v 1))) .nil))) (.cons (.ret (.cb false))
    .nil) .nil)
    (.cons (.ret (.cmp .eq (.comp (.v 2) (.n 2) (.range1 (.b1 .len (.v 1))) (.cons (.not_ (.call 1 (.cons (.ix (.v 0) (.v 2)) (.cons (.ix (.v 1) (.v 2)) .nil)) [])) .nil) [("at", 2)]) (.lst .nil)))
    .nil)) .nil)
    (.cons (.if_ (.cmp .is_ (.v 1) .cn) (.cons (.ret (.cmp .is_ (.v 0) .cn))
    .nil) .nil)
    (.cons (.if_ (.isT (.v 1) [.str]) (.cons (.ret (.and_ (.cons (.isT (.v 0) [.str]) (.cons (.cmp .eq (.v 0) (.v 1)) .nil))))
    .nil) .nil)
    (.cons (.ret (.and_ (.cons (.call 0 (.cons (.v 0) .nil) []) (.cons (.cmp .eq (.v 0) (.v 1)) .nil))))
    .nil))))

def N_law_same : List Str := ["value", "due", "at"]

def G_law_same (sp0 : Py.Spec) : Gam := { N := N_law_same, fns := [⟨"_law_is_int", 1, sp_law_is_int, [[]]⟩, ⟨"_law_same", 2, sp0, [[]]⟩], cls := [], gis := [], eqs := [], self := false, fl := [] }

theorem chk_law_same (sp0 : Py.Spec) : chkSs (G_law_same sp0) (defScope (top 48)) ir_law_same (defBody (top 48)) = true := by kernel_rfl

theorem scp_law_same : FnScope N_law_same ["value", "due"] (defScope (top 48)) := ⟨by kernel_rfl, by kernel_rfl, by kernel_rfl, by decide +kernel, by kernel_rfl, by decide +kernel, by decide +kernel⟩

def ir_law_fits : Ss :=
    (.cons (.ret (.cmp .eq (.comp (.v 2) (.n 2) (.range1 (.b1 .len (.v 1))) (.cons (.cmp .lt (.ix (.v 0) (.v 2)) (.ix (.v 1) (.v 2))) .nil) [("at", 2)]) (.lst .nil)))
    .nil)

def N_law_fits : List Str := ["purse", "fee", "at"]

def G_law_fits : Gam := { N := N_law_fits, fns := [], cls := [], gis := [], eqs := [], self := false, fl := [] }

theorem chk_law_fits : chkSs (G_law_fits) (defScope (top 49)) ir_law_fits (defBody (top 49)) = true := by kernel_rfl

theorem scp_law_fits : FnScope N_law_fits ["purse", "fee"] (defScope (top 49)) := ⟨by kernel_rfl, by kernel_rfl, by kernel_rfl, by decide +kernel, by kernel_rfl, by decide +kernel, by decide +kernel⟩

def ir_law_paid : Ss :=
    (.cons (.ret (.b1 .tuple (.comp (.bin .add (.bin .sub (.ix (.v 0) (.v 2)) (.ix (.ix (.v 1) (.ci 0)) (.v 2))) (.ix (.ix (.v 1) (.ci 1)) (.v 2))) (.n 2) (.range1 (.b1 .len (.v 0))) .nil [("at", 2)])))
    .nil)

def N_law_paid : List Str := ["purse", "visit", "at"]

def G_law_paid : Gam := { N := N_law_paid, fns := [], cls := [], gis := [], eqs := [], self := false, fl := [] }

theorem chk_law_paid : chkSs (G_law_paid) (defScope (top 50)) ir_law_paid (defBody (top 50)) = true := by kernel_rfl

theorem scp_law_paid : FnScope N_law_paid ["purse", "visit"] (defScope (top 50)) := ⟨by kernel_rfl, by kernel_rfl, by kernel_rfl, by decide +kernel, by kernel_rfl, by decide +kernel, by decide +kernel⟩

def ir_law_rows : Ss :=
    (.cons (.set 3 (.lst .nil))
    (.cons (.for_ (.n 4) (.range1 (.v 2)) (.cons (.app (.v 3) (.b1 .tuple (.comp (.call 0 (.cons (.v 0) (.cons (.lst (.cons .cn (.cons (.call 1 (.cons (.v 0) (.cons (.v 2) .nil)) []) (.cons (.bin .mod (.bin .add (.v 4) (.ci 1)) (.v 2)) .nil)))) .nil)) []) (.n 5) (.range1 (.v 1)) .nil [("kind", 5)])))
    .nil))
    (.cons (.ret (.b1 .tuple (.v 3)))
    .nil)))

def N_law_rows : List Str := ["box", "kinds", "states", "rows", "state", "kind"]

def G_law_rows : Gam := { N := N_law_rows, fns := [⟨"_law_pick", 2, sp_law_pick, [[]]⟩, ⟨"_law_take", 2, sp_law_take, [[]]⟩], cls := [], gis := [], eqs := [], self := false, fl := [] }

theorem chk_law_rows : chkSs (G_law_rows) (defScope (top 51)) ir_law_rows (defBody (top 51)) = true := by kernel_rfl

theorem scp_law_rows : FnScope N_law_rows ["box", "kinds", "states"] (defScope (top 51)) := ⟨by kernel_rfl, by kernel_rfl, by kernel_rfl, by decide +kernel, by kernel_rfl, by decide +kernel, by decide +kernel⟩

def ir_law_number : Ss :=
    (.cons (.ret (.call 0 (.cons (.v 0) (.cons (.lst (.cons (.ci 0) (.cons (.ci 0) (.cons (.ci 1) (.cons (.ci 1) (.cons (.call 1 (.cons (.v 0) (.cons (.bin .add (.v 1) (.ci 1)) .nil)) []) .nil)))))) .nil)) []))
    .nil)

def N_law_number : List Str := ["box", "most"]

def G_law_number : Gam := { N := N_law_number, fns := [⟨"_law_pick", 2, sp_law_pick, [[]]⟩, ⟨"_law_take", 2, sp_law_take, [[]]⟩], cls := [], gis := [], eqs := [], self := false, fl := [] }

theorem chk_law_number : chkSs (G_law_number) (defScope (top 52)) ir_law_number (defBody (top 52)) = true := by kernel_rfl

theorem scp_law_number : FnScope N_law_number ["box", "most"] (defScope (top 52)) := ⟨by kernel_rfl, by kernel_rfl, by kernel_rfl, by decide +kernel, by kernel_rfl, by decide +kernel, by decide +kernel⟩

def ir_law_visits : Ss :=
    (.cons (.set 4 (.lst .nil))
    (.cons (.for_ (.n 5) (.range1 (.v 1)) (.cons (.app (.v 4) (.tup (.cons (.b1 .tuple (.comp (.call 0 (.cons (.v 0) (.cons (.v 3) .nil)) []) (.n 6) (.range1 (.v 2)) .nil [("at", 6)])) (.cons (.b1 .tuple (.comp (.call 0 (.cons (.v 0) (.cons (.v 3) .nil)) []) (.n 6) (.range1 (.v 2)) .nil [("at", 6)])) .nil))))
    .nil))
    (.cons (.ret (.b1 .tuple (.v 4)))
    .nil)))

def N_law_visits : List Str := ["box", "kinds", "colours", "most", "visits", "kind", "at"]

def G_law_visits : Gam := { N := N_law_visits, fns := [⟨"_law_number", 2, sp_law_number, [[]]⟩], cls := [], gis := [], eqs := [], self := false, fl := [] }

theorem chk_law_visits : chkSs (G_law_visits) (defScope (top 53)) ir_law_visits (defBody (top 53)) = true := by kernel_rfl

theorem scp_law_visits : FnScope N_law_visits ["box", "kinds", "colours", "most"] (defScope (top 53)) := ⟨by kernel_rfl, by kernel_rfl, by kernel_rfl, by decide +kernel, by kernel_rfl, by decide +kernel, by decide +kernel⟩

def ir_law_hall : Ss :=
    (.cons (.set 1 (.b1 .tuple (.comp (.tup (.cons (.ife (.cmp .lt (.v 2) (.v 0)) (.bin .add (.v 2) (.ci 1)) .cn) (.cons (.ife (.cmp .gt (.v 2) (.ci 0)) (.bin .sub (.v 2) (.ci 1)) .cn) .nil))) (.n 2) (.range1 (.bin .add (.v 0) (.ci 1))) .nil [("at", 2)])))
    (.cons (.ret (.tup (.cons (.v 1) (.cons (.tup (.cons (.ci 0) (.cons (.v 0) .nil))) (.cons (.tup (.cons (.tup (.cons (.tup (.cons (.ci 0) (.cons (.ci 1) .nil))) (.cons (.tup (.cons (.ci 1) (.cons (.ci 0) .nil))) .nil))) (.cons (.tup (.cons (.tup (.cons (.ci 1) (.cons (.ci 0) .nil))) (.cons (.tup (.cons (.ci 0) (.cons (.ci 1) .nil))) .nil))) .nil))) .nil)))))
    .nil))

def N_law_hall : List Str := ["size", "rows", "at"]

def G_law_hall : Gam := { N := N_law_hall, fns := [], cls := [], gis := [], eqs := [], self := false, fl := [] }

theorem chk_law_hall : chkSs (G_law_hall) (defScope (top 54)) ir_law_hall (defBody (top 54)) = true := by kernel_rfl

theorem scp_law_hall : FnScope N_law_hall ["size"] (defScope (top 54)) := ⟨by kernel_rfl, by kernel_rfl, by kernel_rfl, by decide +kernel, by kernel_rfl, by decide +kernel, by decide +kernel⟩

def ir_law_case : Ss :=
    (.cons (.set 1 (.call 3 (.cons (.v 0) (.cons (.ci 5) .nil)) []))
    (.cons (.if_ (.cmp .lt (.v 1) (.ci 3)) (.cons (.set 2 (.bin .add (.ci 1) (.call 3 (.cons (.v 0) (.cons (.ci 4) .nil)) [])))
    (.cons (.setT [6, 8, 7] (.call 5 (.cons (.v 2) .nil) []))
    (.cons (.if_ (.cmp .gt (.v 1) (.ci 0)) (.cons (.par [10, 11] (.cons (.call 3 (.cons (.v 0) (.cons (.bin .add (.v 2) (.ci 1)) .nil)) []) (.cons (.call 3 (.cons (.v 0) (.cons (.ci 2) .nil)) []) .nil)))
    (.cons (.set 9 (.call 4 (.cons (.v 0) (.cons (.lst (.cons .cn (.cons (.v 10) (.cons (.ci 0) .nil)))) .nil)) []))
    (.cons (.set 6 (.bin .add (.bin .add (.sl (.v 6) .none (.some (.v 10))) (.tup (.cons (.bin .add (.bin .add (.sl (.ix (.v 6) (.v 10)) .none (.some (.v 11))) (.tup (.cons (.v 9) .nil))) (.sl (.ix (.v 6) (.v 10)) (.some (.bin .add (.v 11) (.ci 1))) .none)) .nil))) (.sl (.v 6) (.some (.bin .add (.v 10) (.ci 1))) .none)))
    .nil))) .nil)
    (.cons (.if_ (.cmp .gt (.v 1) (.ci 1)) (.cons (.set 8 (.tup (.cons (.bin .add (.ix (.v 8) (.ci 0)) (.call 3 (.cons (.v 0) (.cons (.ci 2) .nil)) [])) (.cons (.b1 .max (.lst (.cons (.ci 0) (.cons (.bin .add (.bin .sub (.ix (.v 8) (.ci 1)) (.ci 1)) (.call 3 (.cons (.v 0) (.cons (.ci 3) .nil)) [])) .nil)))) .nil))))
    .nil) .nil)
    (.cons (.ret (.tup (.cons (.v 6) (.cons (.v 8) (.cons (.v 7) .nil)))))
    .nil))))) .nil)
    (.cons (.par [3, 4, 5] (.cons (.bin .add (.ci 1) (.call 3 (.cons (.v 0) (.cons (.ci 3) .nil)) [])) (.cons (.bin .add (.ci 1) (.call 3 (.cons (.v 0) (.cons (.ci 3) .nil)) [])) (.cons (.call 3 (.cons (.v 0) (.cons (.ci 3) .nil)) []) .nil))))
    (.cons (.par [6, 7] (.cons (.call 2 (.cons (.v 0) (.cons (.v 3) (.cons (.v 4) .nil))) []) (.cons (.call 1 (.cons (.v 0) (.cons (.v 3) (.cons (.v 5) (.cons (.ci 3) .nil)))) []) .nil)))
    (.cons (.ret (.tup (.cons (.v 6) (.cons (.b1 .tuple (.comp (.call 0 (.cons (.v 0) (.cons (.ci 3) .nil)) []) (.n 12) (.range1 (.v 5)) .nil [("at", 12)])) (.cons (.v 7) .nil)))))
    .nil)))))

def N_law_case : List Str := ["box", "sort", "size", "kinds", "states", "colours", "rows", "visits", "purse", "to", "state", "kind", "at"]

def G_law_case : Gam := { N := N_law_case, fns := [⟨"_law_number", 2, sp_law_number, [[]]⟩, ⟨"_law_visits", 4, sp_law_visits, [[]]⟩, ⟨"_law_rows", 3, sp_law_rows, [[]]⟩, ⟨"_law_take", 2, sp_law_take, [[]]⟩, ⟨"_law_pick", 2, sp_law_pick, [[]]⟩, ⟨"_law_hall", 1, sp_law_hall, [[]]⟩], cls := [], gis := [], eqs := [], self := false, fl := [] }

theorem chk_law_case : chkSs (G_law_case) (defScope (top 55)) ir_law_case (defBody (top 55)) = true := by kernel_rfl

theorem scp_law_case : FnScope N_law_case ["box"] (defScope (top 55)) := ⟨by kernel_rfl, by kernel_rfl, by kernel_rfl, by decide +kernel, by kernel_rfl, by decide +kernel, by decide +kernel⟩

def ir_law_book : Ss :=
    (.cons (.ret (.make 0 (.cons (.b1 .len (.ix (.v 1) (.ci 0))) (.cons (.call 0 (.cons (.v 0) (.cons (.v 1) .nil)) []) .nil))))
    .nil)

def N_law_book : List Str := ["box", "rows"]

def G_law_book : Gam := { N := N_law_book, fns := [⟨"_law_loose", 2, sp_law_loose, [[]]⟩], cls := [⟨"Book", 3, sp_Book_init, [[]]⟩], gis := [], eqs := [], self := false, fl := [] }

theorem chk_law_book : chkSs (G_law_book) (defScope (top 56)) ir_law_book (defBody (top 56)) = true := by kernel_rfl

theorem scp_law_book : FnScope N_law_book ["box", "rows"] (defScope (top 56)) := ⟨by kernel_rfl, by kernel_rfl, by kernel_rfl, by decide +kernel, by kernel_rfl, by decide +kernel, by decide +kernel⟩

def ir_law_doors : Ss :=
    (.cons (.ret (.make 0 (.cons (.call 0 (.cons (.v 0) (.cons (.v 1) .nil)) []) (.cons (.call 0 (.cons (.v 0) (.cons (.v 2) .nil)) []) .nil))))
    .nil)

def N_law_doors : List Str := ["box", "purse", "visits"]

def G_law_doors : Gam := { N := N_law_doors, fns := [⟨"_law_loose", 2, sp_law_loose, [[]]⟩], cls := [⟨"Doors", 3, sp_Doors_init, [[]]⟩], gis := [], eqs := [], self := false, fl := [] }

theorem chk_law_doors : chkSs (G_law_doors) (defScope (top 57)) ir_law_doors (defBody (top 57)) = true := by kernel_rfl

theorem scp_law_doors : FnScope N_law_doors ["box", "purse", "visits"] (defScope (top 57)) := ⟨by kernel_rfl, by kernel_rfl, by kernel_rfl, by decide +kernel, by kernel_rfl, by decide +kernel, by decide +kernel⟩

def ir_law_are_doors : Ss :=
    (.cons (.ret (.and_ (.cons (.isC (.v 0) 0) (.cons (.call 0 (.cons (.attr (.v 0) "purse") (.cons (.v 1) .nil)) []) (.cons (.call 0 (.cons (.attr (.v 0) "visits") (.cons (.v 2) .nil)) []) .nil)))))
    .nil)

def N_law_are_doors : List Str := ["doors", "purse", "visits"]

def G_law_are_doors : Gam := { N := N_law_are_doors, fns := [⟨"_law_same", 2, sp_law_same, [[]]⟩], cls := [⟨"Doors", 3, sp_Doors_init, [[]]⟩], gis := [], eqs := [], self := false, fl := [] }

theorem chk_law_are_doors : chkSs (G_law_are_doors) (defScope (top 58)) ir_law_are_doors (defBody (top 58)) = true := by kernel_rfl

theorem scp_law_are_doors : FnScope N_law_are_doors ["doors", "purse", "visits"] (defScope (top 58)) := ⟨by kernel_rfl, by kernel_rfl, by kernel_rfl, by decide +kernel, by kernel_rfl, by decide +kernel, by decide +kernel⟩

def ir_law_worth : Ss :=
    (.cons (.ret (.b1 .sum (.comp (.bin .mul (.ix (.v 2) (.v 3)) (.ix (.ix (.v 0) (.v 3)) (.v 1))) (.n 3) (.range1 (.b1 .len (.v 2))) .nil [("at", 3)])))
    .nil)

def N_law_worth : List Str := ["rates", "colour", "purse", "at"]

def G_law_worth : Gam := { N := N_law_worth, fns := [], cls := [], gis := [], eqs := [], self := false, fl := [] }

theorem chk_law_worth : chkSs (G_law_worth) (defScope (top 59)) ir_law_worth (defBody (top 59)) = true := by kernel_rfl

theorem scp_law_worth : FnScope N_law_worth ["rates", "colour", "purse"] (defScope (top 59)) := ⟨by kernel_rfl, by kernel_rfl, by kernel_rfl, by decide +kernel, by kernel_rfl, by decide +kernel, by decide +kernel⟩

def ir_law_exchange : Ss :=
    (.cons (.ret (.b1 .tuple (.comp (.bin .add (.ix (.v 1) (.v 3)) (.call 0 (.cons (.v 0) (.cons (.v 3) (.cons (.v 2) .nil))) [])) (.n 3) (.range1 (.b1 .len (.v 1))) .nil [("at", 3)])))
    .nil)

def N_law_exchange : List Str := ["rates", "extra", "purse", "at"]

def G_law_exchange : Gam := { N := N_law_exchange, fns := [⟨"_law_worth", 3, sp_law_worth, [[]]⟩], cls := [], gis := [], eqs := [], self := false, fl := [] }

theorem chk_law_exchange : chkSs (G_law_exchange) (defScope (top 60)) ir_law_exchange (defBody (top 60)) = true := by kernel_rfl

theorem scp_law_exchange : FnScope N_law_exchange ["rates", "extra", "purse"] (defScope (top 60)) := ⟨by kernel_rfl, by kernel_rfl, by kernel_rfl, by decide +kernel, by kernel_rfl, by decide +kernel, by decide +kernel⟩

def ir_law_hall_change : Ss :=
    (.cons (.par [2, 3] (.cons (.bin .add (.ci 1) (.call 1 (.cons (.v 0) (.cons (.ci 4) .nil)) [])) (.cons (.call 1 (.cons (.v 0) (.cons (.ci 2) .nil)) []) .nil)))
    (.cons (.setT [4, 5, 6] (.call 0 (.cons (.v 2) .nil) []))
    (.cons (.if_ (.cmp .eq (.v 3) (.ci 0)) (.cons (.ret (.tup (.cons (.v 4) (.cons (.tup (.cons (.tup (.cons (.v 5) (.cons (.v 6) .nil))) (.cons (.tup (.cons (.v 5) (.cons (.v 6) .nil))) (.cons (.tup (.cons (.tup (.cons (.ci 1) (.cons (.ci 0) .nil))) (.cons (.tup (.cons (.ci 0) (.cons (.ci 1) .nil))) .nil))) (.cons (.tup (.cons (.ci 0) (.cons (.ci 0) .nil))) .nil))))) .nil))))
    .nil) .nil)
    (.cons (.set 1 (.b1 .tuple (.comp (.tup (.cons (.bin .add (.sl (.v 7) (.some (.ci 1)) .none) (.sl (.v 7) .none (.some (.ci 1)))) (.cons (.bin .add (.sl (.v 8) (.some (.ci 1)) .none) (.sl (.v 8) .none (.some (.ci 1)))) .nil))) (.t [7, 8]) (.e (.v 6)) .nil [("fee", 7), ("gain", 8)])))
    (.cons (.ret (.tup (.cons (.v 4) (.cons (.tup (.cons (.tup (.cons (.v 5) (.cons (.v 6) .nil))) (.cons (.tup (.cons (.bin .add (.sl (.v 5) (.some (.ci 1)) .none) (.sl (.v 5) .none (.some (.ci 1)))) (.cons (.v 1) .nil))) (.cons (.tup (.cons (.tup (.cons (.ci 0) (.cons (.ci 1) .nil))) (.cons (.tup (.cons (.ci 1) (.cons (.ci 0) .nil))) .nil))) (.cons (.tup (.cons (.ci 0) (.cons (.ci 0) .nil))) .nil))))) .nil))))
    .nil)))))

def N_law_hall_change : List Str := ["box", "news", "size", "turn", "rows", "purse", "visits", "fee", "gain"]

def G_law_hall_change : Gam := { N := N_law_hall_change, fns := [⟨"_law_hall", 1, sp_law_hall, [[]]⟩, ⟨"_law_take", 2, sp_law_take, [[]]⟩], cls := [], gis := [], eqs := [], self := false, fl := [] }

theorem chk_law_hall_change : chkSs (G_law_hall_change) (defScope (top 61)) ir_law_hall_change (defBody (top 61)) = true := by kernel_rfl

theorem scp_law_hall_change : FnScope N_law_hall_change ["box"] (defScope (top 61)) := ⟨by kernel_rfl, by kernel_rfl, by kernel_rfl, by decide +kernel, by kernel_rfl, by decide +kernel, by decide +kernel⟩

def ir_law_change_case : Ss :=
    (.cons (.setT [5, 6] (.call 3 (.cons (.v 0) .nil) []))
    (.cons (.set 1 (.call 0 (.cons (.v 0) (.cons (.ci 5) .nil)) []))
    (.cons (.if_ (.cmp .eq (.v 1) (.ci 0)) (.cons (.ret (.tup (.cons (.v 5) (.cons (.v 6) .nil))))
    .nil) .nil)
    (.cons (.if_ (.cmp .eq (.v 1) (.ci 1)) (.cons (.set 7 (.tup (.cons (.call 0 (.cons (.v 0) (.cons (.ci 3) .nil)) []) (.cons (.call 0 (.cons (.v 0) (.cons (.ci 2) .nil)) []) .nil))))
    (.cons (.ret (.tup (.cons (.v 5) (.cons (.tup (.cons (.ix (.v 6) (.ci 0)) (.cons (.ix (.v 6) (.ci 1)) (.cons (.ix (.v 6) (.ci 2)) (.cons (.v 7) .nil))))) .nil))))
    .nil)) .nil)
    (.cons (.if_ (.cmp .eq (.v 1) (.ci 2)) (.cons (.set 4 (.b1 .tuple (.comp (.b1 .tuple (.comp (.call 0 (.cons (.v 0) (.cons (.ci 3) .nil)) []) (.n 11) (.range1 (.ci 2)) .nil [("at", 11)])) (.n 10) (.range1 (.ci 2)) .nil [("place", 10)])))
    (.cons (.ret (.tup (.cons (.v 5) (.cons (.tup (.cons (.ix (.v 6) (.ci 0)) (.cons (.ix (.v 6) (.ci 1)) (.cons (.v 4) (.cons (.ix (.v 6) (.ci 3)) .nil))))) .nil))))
    .nil)) .nil)
    (.cons (.if_ (.cmp .eq (.v 1) (.ci 3)) (.cons (.set 2 (.call 0 (.cons (.v 0) (.cons (.ci 3) .nil)) []))
    (.cons (.set 3 (.tup (.cons (.b1 .tuple (.comp (.call 0 (.cons (.v 0) (.cons (.ci 4) .nil)) []) (.n 11) (.range1 (.v 2)) .nil [("at", 11)])) (.cons (.call 1 (.cons (.v 0) (.cons (.ci 2) (.cons (.v 2) (.cons (.ci 2) .nil)))) []) .nil))))
    (.cons (.set 4 (.b1 .tuple (.comp (.b1 .tuple (.comp (.call 0 (.cons (.v 0) (.cons (.ci 3) .nil)) []) (.n 11) (.range1 (.v 2)) .nil [("at", 11)])) (.n 10) (.range1 (.ci 2)) .nil [("place", 10)])))
    (.cons (.ret (.tup (.cons (.v 5) (.cons (.tup (.cons (.ix (.v 6) (.ci 0)) (.cons (.v 3) (.cons (.v 4) (.cons (.b1 .tuple (.comp (.call 0 (.cons (.v 0) (.cons (.ci 3) .nil)) []) (.n 11) (.range1 (.v 2)) .nil [("at", 11)])) .nil))))) .nil))))
    .nil)))) .nil)
    (.cons (.setT [5, 8, 9] (.call 2 (.cons (.v 0) .nil) []))
    (.cons (.set 2 (.call 0 (.cons (.v 0) (.cons (.ci 3) .nil)) []))
    (.cons (.set 3 (.tup (.cons (.b1 .tuple (.comp (.call 0 (.cons (.v 0) (.cons (.ci 4) .nil)) []) (.n 11) (.range1 (.v 2)) .nil [("at", 11)])) (.cons (.call 1 (.cons (.v 0) (.cons (.b1 .len (.v 9)) (.cons (.v 2) (.cons (.ci 2) .nil)))) []) .nil))))
    (.cons (.set 4 (.b1 .tuple (.comp (.b1 .tuple (.comp (.call 0 (.cons (.v 0) (.cons (.ci 3) .nil)) []) (.n 11) (.range1 (.v 2)) .nil [("at", 11)])) (.n 10) (.range1 (.b1 .len (.v 8))) .nil [("place", 10)])))
    (.cons (.ret (.tup (.cons (.v 5) (.cons (.tup (.cons (.tup (.cons (.v 8) (.cons (.v 9) .nil))) (.cons (.v 3) (.cons (.v 4) (.cons (.b1 .tuple (.comp (.call 0 (.cons (.v 0) (.cons (.ci 3) .nil)) []) (.n 11) (.range1 (.v 2)) .nil [("at", 11)])) .nil))))) .nil))))
    .nil)))))))))))

def N_law_change_case : List Str := ["box", "sort", "colours", "news", "rates", "rows", "change", "extra", "purse", "visits", "place", "at"]

def G_law_change_case : Gam := { N := N_law_change_case, fns := [⟨"_law_take", 2, sp_law_take, [[]]⟩, ⟨"_law_visits", 4, sp_law_visits, [[]]⟩, ⟨"_law_case", 1, sp_law_case, [[]]⟩, ⟨"_law_hall_change", 1, sp_law_hall_change, [[]]⟩], cls := [], gis := [], eqs := [], self := false, fl := [] }

theorem chk_law_change_case : chkSs (G_law_change_case) (defScope (top 62)) ir_law_change_case (defBody (top 62)) = true := by kernel_rfl

theorem scp_law_change_case : FnScope N_law_change_case ["box"] (defScope (top 62)) := ⟨by kernel_rfl, by kernel_rfl, by kernel_rfl, by decide +kernel, by kernel_rfl, by decide +kernel, by decide +kernel⟩

def ir_law_change : Ss :=
    (.cons (.par [2, 3] (.cons (.call 1 (.cons (.v 0) (.cons (.ix (.ix (.v 1) (.ci 0)) (.ci 0)) (.cons (.ix (.ix (.v 1) (.ci 0)) (.ci 1)) .nil))) []) (.cons (.call 1 (.cons (.v 0) (.cons (.ix (.ix (.v 1) (.ci 1)) (.ci 0)) (.cons (.ix (.ix (.v 1) (.ci 1)) (.ci 1)) .nil))) []) .nil)))
    (.cons (.ret (.make 0 (.cons (.v 2) (.cons (.v 3) (.cons (.call 0 (.cons (.v 0) (.cons (.ix (.v 1) (.ci 2)) .nil)) []) (.cons (.call 0 (.cons (.v 0) (.cons (.ix (.v 1) (.ci 3)) .nil)) []) .nil))))))
    .nil))

def N_law_change : List Str := ["box", "change", "old", "new"]

def G_law_change : Gam := { N := N_law_change, fns := [⟨"_law_loose", 2, sp_law_loose, [[]]⟩, ⟨"_law_doors", 3, sp_law_doors, [[]]⟩], cls := [⟨"Change", 5, sp_Change_init, [[]]⟩], gis := [], eqs := [], self := false, fl := [] }

theorem chk_law_change : chkSs (G_law_change) (defScope (top 63)) ir_law_change (defBody (top 63)) = true := by kernel_rfl

theorem scp_law_change : FnScope N_law_change ["box", "change"] (defScope (top 63)) := ⟨by kernel_rfl, by kernel_rfl, by kernel_rfl, by decide +kernel, by kernel_rfl, by decide +kernel, by decide +kernel⟩

def ir_law_is_change : Ss :=
    (.cons (.if_ (.or_ (.cons (.not_ (.isC (.v 0) 0)) (.cons (.not_ (.call 1 (.cons (.attr (.v 0) "old") (.cons (.ix (.ix (.v 1) (.ci 0)) (.ci 0)) (.cons (.ix (.ix (.v 1) (.ci 0)) (.ci 1)) .nil))) [])) .nil))) (.cons (.ret (.cb false))
    .nil) .nil)
    (.cons (.if_ (.not_ (.call 1 (.cons (.attr (.v 0) "new") (.cons (.ix (.ix (.v 1) (.ci 1)) (.ci 0)) (.cons (.ix (.ix (.v 1) (.ci 1)) (.ci 1)) .nil))) [])) (.cons (.ret (.cb false))
    .nil) .nil)
    (.cons (.ret (.and_ (.cons (.call 0 (.cons (.attr (.v 0) "rates") (.cons (.ix (.v 1) (.ci 2)) .nil)) []) (.cons (.call 0 (.cons (.attr (.v 0) "extra") (.cons (.ix (.v 1) (.ci 3)) .nil)) []) .nil))))
    .nil)))

def N_law_is_change : List Str := ["value", "change"]

def G_law_is_change : Gam := { N := N_law_is_change, fns := [⟨"_law_same", 2, sp_law_same, [[]]⟩, ⟨"_law_are_doors", 3, sp_law_are_doors, [[]]⟩], cls := [⟨"Change", 5, sp_Change_init, [[]]⟩], gis := [], eqs := [], self := false, fl := [] }

theorem chk_law_is_change : chkSs (G_law_is_change) (defScope (top 64)) ir_law_is_change (defBody (top 64)) = true := by kernel_rfl

theorem scp_law_is_change : FnScope N_law_is_change ["value", "change"] (defScope (top 64)) := ⟨by kernel_rfl, by kernel_rfl, by kernel_rfl, by decide +kernel, by kernel_rfl, by decide +kernel, by decide +kernel⟩

def ir_law_lacks : Ss :=
    (.cons (.ret (.b1 .tuple (.comp (.v 2) (.n 2) (.range1 (.b1 .len (.v 1))) (.cons (.cmp .lt (.ix (.v 0) (.v 2)) (.ix (.v 1) (.v 2))) .nil) [("at", 2)])))
    .nil)

def N_law_lacks : List Str := ["purse", "fee", "at"]

def G_law_lacks : Gam := { N := N_law_lacks, fns := [], cls := [], gis := [], eqs := [], self := false, fl := [] }

theorem chk_law_lacks : chkSs (G_law_lacks) (defScope (top 65)) ir_law_lacks (defBody (top 65)) = true := by kernel_rfl

theorem scp_law_lacks : FnScope N_law_lacks ["purse", "fee"] (defScope (top 65)) := ⟨by kernel_rfl, by kernel_rfl, by kernel_rfl, by decide +kernel, by kernel_rfl, by decide +kernel, by decide +kernel⟩

def ir_law_walk : Ss :=
    (.cons (.for_ (.n 3) (.range1 (.b1 .len (.v 2))) (.cons (.set 4 (.call 1 (.cons (.v 0) (.cons (.ix (.ix (.v 1) (.ix (.v 2) (.v 3))) (.ci 0)) .nil)) []))
    (.cons (.if_ (.cmp .ne (.v 4) (.tup .nil)) (.cons (.ret (.tup (.cons (.cs "stopped") (.cons (.v 3) (.cons (.v 4) .nil)))))
    .nil) .nil)
    (.cons (.set 0 (.call 0 (.cons (.v 0) (.cons (.ix (.v 1) (.ix (.v 2) (.v 3))) .nil)) []))
    .nil))))
    (.cons (.ret (.tup (.cons (.cs "let") (.cons (.v 0) .nil))))
    .nil))

def N_law_walk : List Str := ["purse", "visits", "row", "at", "lacks"]

def G_law_walk : Gam := { N := N_law_walk, fns := [⟨"_law_paid", 2, sp_law_paid, [[]]⟩, ⟨"_law_lacks", 2, sp_law_lacks, [[]]⟩], cls := [], gis := [], eqs := [], self := false, fl := [] }

theorem chk_law_walk : chkSs (G_law_walk) (defScope (top 66)) ir_law_walk (defBody (top 66)) = true := by kernel_rfl

theorem scp_law_walk : FnScope N_law_walk ["purse", "visits", "row"] (defScope (top 66)) := ⟨by kernel_rfl, by kernel_rfl, by kernel_rfl, by decide +kernel, by kernel_rfl, by decide +kernel, by decide +kernel⟩

def ir_law_walk_over : Ss :=
    (.cons (.set 3 (.call 0 (.cons (.ix (.ix (.v 0) (.ci 0)) (.ci 0)) (.cons (.ix (.ix (.v 0) (.ci 0)) (.ci 1)) (.cons (.v 1) .nil))) []))
    (.cons (.if_ (.cmp .eq (.ix (.v 3) (.ci 0)) (.cs "stopped")) (.cons (.ret (.v 3))
    .nil) .nil)
    (.cons (.set 4 (.call 0 (.cons (.call 1 (.cons (.ix (.v 0) (.ci 2)) (.cons (.ix (.v 0) (.ci 3)) (.cons (.ix (.v 3) (.ci 1)) .nil))) []) (.cons (.ix (.ix (.v 0) (.ci 1)) (.ci 1)) (.cons (.v 2) .nil))) []))
    (.cons (.ret (.ife (.cmp .eq (.ix (.v 4) (.ci 0)) (.cs "let")) (.v 4) (.tup (.cons (.cs "stopped") (.cons (.bin .add (.b1 .len (.v 1)) (.ix (.v 4) (.ci 1))) (.cons (.ix (.v 4) (.ci 2)) .nil))))))
    .nil))))

def N_law_walk_over : List Str := ["change", "before", "after", "first", "second"]

def G_law_walk_over : Gam := { N := N_law_walk_over, fns := [⟨"_law_walk", 3, sp_law_walk, [[]]⟩, ⟨"_law_exchange", 3, sp_law_exchange, [[]]⟩], cls := [], gis := [], eqs := [], self := false, fl := [] }

theorem chk_law_walk_over : chkSs (G_law_walk_over) (defScope (top 67)) ir_law_walk_over (defBody (top 67)) = true := by kernel_rfl

theorem scp_law_walk_over : FnScope N_law_walk_over ["change", "before", "after"] (defScope (top 67)) := ⟨by kernel_rfl, by kernel_rfl, by kernel_rfl, by decide +kernel, by kernel_rfl, by decide +kernel, by decide +kernel⟩

def ir_law_drawn_row : Ss :=
    (.cons (.set 4 (.tup .nil))
    (.cons (.for_ (.n 5) (.range1 (.call 0 (.cons (.v 0) (.cons (.bin .add (.v 3) (.ci 1)) .nil)) [])) (.cons (.set 6 (.comp (.v 7) (.n 7) (.range1 (.b1 .len (.v 2))) (.cons (.call 3 (.cons (.v 1) (.cons (.ix (.ix (.v 2) (.v 7)) (.ci 0)) .nil)) []) .nil) [("kind", 7)]))
    (.cons (.if_ (.or_ (.cons (.cmp .eq (.v 6) (.lst .nil)) (.cons (.cmp .eq (.call 0 (.cons (.v 0) (.cons (.ci 40) .nil)) []) (.ci 0)) .nil))) (.cons (.set 6 (.rangeL (.b1 .len (.v 2))))
    .nil) .nil)
    (.cons (.set 7 (.call 2 (.cons (.v 0) (.cons (.v 6) .nil)) []))
    (.cons (.par [4, 1] (.cons (.bin .add (.v 4) (.tup (.cons (.v 7) .nil))) (.cons (.call 1 (.cons (.v 1) (.cons (.ix (.v 2) (.v 7)) .nil)) []) .nil)))
    .nil)))))
    (.cons (.ret (.v 4))
    .nil)))

def N_law_drawn_row : List Str := ["box", "purse", "visits", "most", "row", "turn", "kinds", "kind"]

def G_law_drawn_row : Gam := { N := N_law_drawn_row, fns := [⟨"_law_take", 2, sp_law_take, [[]]⟩, ⟨"_law_paid", 2, sp_law_paid, [[]]⟩, ⟨"_law_pick", 2, sp_law_pick, [[]]⟩, ⟨"_law_fits", 2, sp_law_fits, [[]]⟩], cls := [], gis := [], eqs := [], self := false, fl := [] }

theorem chk_law_drawn_row : chkSs (G_law_drawn_row) (defScope (top 68)) ir_law_drawn_row (defBody (top 68)) = true := by kernel_rfl

theorem scp_law_drawn_row : FnScope N_law_drawn_row ["box", "purse", "visits", "most"] (defScope (top 68)) := ⟨by kernel_rfl, by kernel_rfl, by kernel_rfl, by decide +kernel, by kernel_rfl, by decide +kernel, by decide +kernel⟩

def ir_law_greater : Ss :=
    (.cons (.set 2 (.call 0 (.cons (.v 0) (.cons (.lst (.cons (.ci 1) (.cons (.bin .pow (.ci 10) (.ci 4)) (.cons (.bin .mul (.ci 4) (.bin .pow (.ci 10) (.ci 8))) .nil)))) .nil)) []))
    (.cons (.set 3 (.b1 .tuple (.comp (.b1 .tuple (.comp (.bin .mul (.v 6) (.v 2)) (.n 6) (.e (.v 4)) .nil [("rate", 6)])) (.n 4) (.e (.ix (.v 1) (.ci 2))) .nil [("row", 4)])))
    (.cons (.ret (.tup (.cons (.ix (.v 1) (.ci 0)) (.cons (.ix (.v 1) (.ci 1)) (.cons (.v 3) (.cons (.b1 .tuple (.comp (.bin .mul (.v 5) (.bin .pow (.ci 10) (.ci 17))) (.n 5) (.e (.ix (.v 1) (.ci 3))) .nil [("many", 5)])) .nil))))))
    .nil)))

def N_law_greater : List Str := ["box", "change", "factor", "rates", "row", "many", "rate"]

def G_law_greater : Gam := { N := N_law_greater, fns := [⟨"_law_pick", 2, sp_law_pick, [[]]⟩], cls := [], gis := [], eqs := [], self := false, fl := [] }

theorem chk_law_greater : chkSs (G_law_greater) (defScope (top 69)) ir_law_greater (defBody (top 69)) = true := by kernel_rfl

theorem scp_law_greater : FnScope N_law_greater ["box", "change"] (defScope (top 69)) := ⟨by kernel_rfl, by kernel_rfl, by kernel_rfl, by decide +kernel, by kernel_rfl, by decide +kernel, by decide +kernel⟩

def ir_law_turned : Ss :=
    (.cons (.set 2 (.call 0 (.cons (.v 0) (.cons (.ci 4) .nil)) []))
    (.cons (.set 3 (.ife (.cmp .eq (.v 2) (.ci 0)) (.ix (.v 1) (.ci 0)) (.ix (.v 1) (.ci 1))))
    (.cons (.if_ (.cmp .lt (.v 2) (.ci 2)) (.cons (.set 4 (.call 0 (.cons (.v 0) (.cons (.b1 .len (.ix (.v 3) (.ci 1))) .nil)) []))
    (.cons (.setT [8, 9] (.ix (.ix (.v 3) (.ci 1)) (.v 4)))
    (.cons (.if_ (.cmp .eq (.v 8) (.tup .nil)) (.cons (.ret .cn)
    .nil) .nil)
    (.cons (.set 5 (.tup (.cons (.ix (.v 3) (.ci 0)) (.cons (.bin .add (.bin .add (.sl (.ix (.v 3) (.ci 1)) .none (.some (.v 4))) (.tup (.cons (.tup (.cons (.v 8) (.cons (.bin .add (.tup (.cons (.bin .add (.ix (.v 9) (.ci 0)) (.ci 1)) .nil)) (.sl (.v 9) (.some (.ci 1)) .none)) .nil))) .nil))) (.sl (.ix (.v 3) (.ci 1)) (.some (.bin .add (.v 4) (.ci 1))) .none)) .nil))))
    (.cons (.ret (.tup (.cons (.ife (.cmp .eq (.v 2) (.ci 0)) (.v 5) (.ix (.v 1) (.ci 0))) (.cons (.ife (.cmp .eq (.v 2) (.ci 1)) (.v 5) (.ix (.v 1) (.ci 1))) (.cons (.ix (.v 1) (.ci 2)) (.cons (.ix (.v 1) (.ci 3)) .nil))))))
    .nil))))) .nil)
    (.cons (.if_ (.or_ (.cons (.cmp .eq (.ix (.v 1) (.ci 3)) (.tup .nil)) (.cons (.and_ (.cons (.cmp .eq (.v 2) (.ci 2)) (.cons (.cmp .eq (.ix (.v 1) (.ci 2)) (.tup .nil)) .nil))) .nil))) (.cons (.ret .cn)
    .nil) .nil)
    (.cons (.if_ (.cmp .eq (.v 2) (.ci 2)) (.cons (.set 6 (.call 0 (.cons (.v 0) (.cons (.b1 .len (.ix (.v 1) (.ci 2))) .nil)) []))
    (.cons (.set 7 (.bin .add (.tup (.cons (.bin .add (.ix (.ix (.ix (.v 1) (.ci 2)) (.v 6)) (.ci 0)) (.ci 1)) .nil)) (.sl (.ix (.ix (.v 1) (.ci 2)) (.v 6)) (.some (.ci 1)) .none)))
    (.cons (.ret (.tup (.cons (.ix (.v 1) (.ci 0)) (.cons (.ix (.v 1) (.ci 1)) (.cons (.bin .add (.bin .add (.sl (.ix (.v 1) (.ci 2)) .none (.some (.v 6))) (.tup (.cons (.v 7) .nil))) (.sl (.ix (.v 1) (.ci 2)) (.some (.bin .add (.v 6) (.ci 1))) .none)) (.cons (.ix (.v 1) (.ci 3)) .nil))))))
    .nil))) .nil)
    (.cons (.ret (.tup (.cons (.ix (.v 1) (.ci 0)) (.cons (.ix (.v 1) (.ci 1)) (.cons (.ix (.v 1) (.ci 2)) (.cons (.bin .add (.tup (.cons (.bin .add (.ix (.ix (.v 1) (.ci 3)) (.ci 0)) (.ci 1)) .nil)) (.sl (.ix (.v 1) (.ci 3)) (.some (.ci 1)) .none)) .nil))))))
    .nil))))))

def N_law_turned : List Str := ["box", "change", "sort", "part", "kind", "other", "at", "row", "fee", "gain"]

def G_law_turned : Gam := { N := N_law_turned, fns := [⟨"_law_take", 2, sp_law_take, [[]]⟩], cls := [], gis := [], eqs := [], self := false, fl := [] }

theorem chk_law_turned : chkSs (G_law_turned) (defScope (top 70)) ir_law_turned (defBody (top 70)) = true := by kernel_rfl

theorem scp_law_turned : FnScope N_law_turned ["box", "change"] (defScope (top 70)) := ⟨by kernel_rfl, by kernel_rfl, by kernel_rfl, by decide +kernel, by kernel_rfl, by decide +kernel, by decide +kernel⟩

def ir_law : Ss :=
    (.cons (.set 1 (.call 16 (.cons (.v 0) .nil) []))
    (.cons (.for_ (.n 2) (.range1 (.ci 3)) (.cons (.setT [10, 11] (.call 15 (.cons (.v 1) .nil) []))
    (.cons (.if_ (.cmp .eq (.call 13 (.cons (.v 1) (.cons (.ci 2) .nil)) []) (.ci 0)) (.cons (.set 11 (.call 14 (.cons (.v 1) (.cons (.v 11) .nil)) []))
    .nil) .nil)
    (.cons (.par [12, 13] (.cons (.call 11 (.cons (.v 1) (.cons (.v 11) .nil)) []) (.cons (.call 11 (.cons (.v 1) (.cons (.v 11) .nil)) []) .nil)))
    (.cons (.if_ (.or_ (.cons (.not_ (.call 1 (.cons (.v 12) (.cons (.v 11) .nil)) [])) (.cons (.cmp .isNot (.cmp .eq (.v 12) (.v 13)) (.cb true)) (.cons (.cmp .isNot (.cmp .ne (.v 12) (.v 13)) (.cb false)) .nil)))) (.cons (.ret (.cb false))
    .nil) .nil)
    (.cons (.set 3 (.call 12 (.cons (.v 1) (.cons (.v 11) .nil)) []))
    (.cons (.if_ (.and_ (.cons (.cmp .isNot (.v 3) .cn) (.cons (.or_ (.cons (.cmp .isNot (.cmp .eq (.v 12) (.call 11 (.cons (.v 1) (.cons (.v 3) .nil)) [])) (.cb false)) (.cons (.cmp .isNot (.cmp .ne (.v 12) (.call 11 (.cons (.v 1) (.cons (.v 3) .nil)) [])) (.cb true)) .nil))) .nil))) (.cons (.ret (.cb false))
    .nil) .nil)
    (.cons (.set 4 (.b1 .tuple (.comp (.call 9 (.cons (.v 1) (.cons (.lst (.cons (.ci 0) (.cons (.ci 1) (.cons (.ci 7) (.cons (.bin .sub (.bin .pow (.ci 10) (.ci 30)) (.ci 1)) .nil))))) .nil)) []) (.n 16) (.range1 (.b1 .len (.ix (.ix (.v 11) (.ci 0)) (.ci 0)))) .nil [("at", 16)])))
    (.cons (.if_ (.not_ (.call 2 (.cons (.call 10 (.cons (.v 12) (.cons (.call 5 (.cons (.v 1) (.cons (.v 4) .nil)) []) .nil)) []) (.cons (.call 7 (.cons (.ix (.v 11) (.ci 2)) (.cons (.ix (.v 11) (.ci 3)) (.cons (.v 4) .nil))) []) .nil)) [])) (.cons (.ret (.cb false))
    .nil) .nil)
    (.cons (.set 5 (.call 9 (.cons (.v 1) (.cons (.lst (.cons (.ci 3) (.cons (.ci 20) (.cons (.ci 400) .nil)))) .nil)) []))
    (.cons (.set 6 (.call 6 (.cons (.v 1) (.cons (.ix (.ix (.v 11) (.ci 0)) (.ci 0)) (.cons (.ix (.ix (.v 11) (.ci 0)) (.ci 1)) (.cons (.v 5) .nil)))) []))
    (.cons (.set 7 (.call 8 (.cons (.ix (.ix (.v 11) (.ci 0)) (.ci 0)) (.cons (.ix (.ix (.v 11) (.ci 0)) (.ci 1)) (.cons (.v 6) .nil))) []))
    (.cons (.set 8 (.call 7 (.cons (.ix (.v 11) (.ci 2)) (.cons (.ix (.v 11) (.ci 3)) (.cons (.ife (.cmp .eq (.ix (.v 7) (.ci 0)) (.cs "let")) (.ix (.v 7) (.ci 1)) (.ix (.ix (.v 11) (.ci 0)) (.ci 0))) .nil))) []))
    (.cons (.set 9 (.call 6 (.cons (.v 1) (.cons (.v 8) (.cons (.ix (.ix (.v 11) (.ci 1)) (.ci 1)) (.cons (.v 5) .nil)))) []))
    (.cons (.for_ (.t [14, 15]) (.e (.lst (.cons (.tup (.cons (.v 6) (.cons (.v 9) .nil))) (.cons (.tup (.cons (.sl (.v 6) .none (.some (.neg (.ci 1)))) (.cons (.v 9) .nil))) (.cons (.tup (.cons (.v 6) (.cons (.tup .nil) .nil))) (.cons (.tup (.cons (.tup .nil) (.cons (.v 9) .nil))) .nil)))))) (.cons (.if_ (.not_ (.call 2 (.cons (.call 4 (.cons (.v 12) (.cons (.call 5 (.cons (.v 1) (.cons (.v 14) .nil)) []) (.cons (.call 5 (.cons (.v 1) (.cons (.v 15) .nil)) []) .nil))) []) (.cons (.call 3 (.cons (.v 11) (.cons (.v 14) (.cons (.v 15) .nil))) []) .nil)) [])) (.cons (.ret (.cb false))
    .nil) .nil)
    .nil))
    (.cons (.if_ (.or_ (.cons (.not_ (.call 1 (.cons (.v 12) (.cons (.v 11) .nil)) [])) (.cons (.not_ (.isC (.call 0 (.cons (.v 1) (.cons (.v 10) .nil)) []) 0)) .nil))) (.cons (.ret (.cb false))
    .nil) .nil)
    .nil))))))))))))))))
    (.cons (.ret (.cb true))
    .nil)))

def N_law : List Str := ["script", "box", "turn", "other", "purse", "most", "before", "first", "left", "after", "rows", "change", "value", "same", "one", "two", "at"]

def G_law : Gam := { N := N_law, fns := [⟨"_law_book", 2, sp_law_book, [[]]⟩, ⟨"_law_is_change", 2, sp_law_is_change, [[]]⟩, ⟨"_law_same", 2, sp_law_same, [[]]⟩, ⟨"_law_walk_over", 3, sp_law_walk_over, [[]]⟩, ⟨"gone_over", 3, sp_gone_over, [[]]⟩, ⟨"_law_loose", 2, sp_law_loose, [[]]⟩, ⟨"_law_drawn_row", 4, sp_law_drawn_row, [[]]⟩, ⟨"_law_exchange", 3, sp_law_exchange, [[]]⟩, ⟨"_law_walk", 3, sp_law_walk, [[]]⟩, ⟨"_law_pick", 2, sp_law_pick, [[]]⟩, ⟨"exchanged", 2, sp_exchanged, [[]]⟩, ⟨"_law_change", 2, sp_law_change, [[]]⟩, ⟨"_law_turned", 2, sp_law_turned, [[]]⟩, ⟨"_law_take", 2, sp_law_take, [[]]⟩, ⟨"_law_greater", 2, sp_law_greater, [[]]⟩, ⟨"_law_change_case", 1, sp_law_change_case, [[]]⟩, ⟨"_law_box", 1, sp_law_box, [[]]⟩], cls := [⟨"Book", 3, sp_Book_init, [[]]⟩], gis := [], eqs := [⟨"Change", 2, sp_Change_eq, [[]]⟩], self := false, fl := [] }

theorem chk_law : chkSs (G_law) (defScope (top 71)) ir_law (defBody (top 71)) = true := by kernel_rfl

theorem scp_law : FnScope N_law ["script"] (defScope (top 71)) := ⟨by kernel_rfl, by kernel_rfl, by kernel_rfl, by decide +kernel, by kernel_rfl, by decide +kernel, by decide +kernel⟩
end Pr

set_option Elab.async false
set_option linter.all false
set_option maxRecDepth 100000
set_option maxHeartbeats 4000000
namespace Pr
open PySem PySem.Spec PyProof.Rows L2 Py
theorem bsplit {b : Bool} {f : ¬ b = true → Prop} {g : b = true → Prop} (h1 : ∀ h : b = true, g h) (h2 : ∀ h, f h) : @Decidable.rec (b = true) (fun _ => Prop) f g (instDecidableEqBool b true) := by
  cases b
  · exact h2 _
  · exact h1 _
theorem lt900 {n : Nat} (h : Nat.ble (n + 1) 900 = true) : n < 900 := Nat.le_of_ble_eq_true h
theorem le100 {n : Nat} (h : Nat.ble n 100 = true) : n ≤ sizeLine := Nat.le_trans (Nat.le_of_ble_eq_true h) (by decide)
local macro_rules | `(tactic| walk_at "go") => `(tactic| ((conv => whnf); repeat (first | (refine And.intro rfl ?_; (conv => whnf)) | (refine And.intro (lt900 rfl) ?_; (conv => whnf)) | (refine And.intro (by decide) ?_; (conv => whnf)) | (refine And.intro (le100 rfl) ?_; (conv => whnf)))))
def Body (G : Gam) (ir : Ss) (n : Nat) (sp : Py.Spec) : Prop := ∀ (ds : List D) (w : W) (Q : D → W → Prop) (R : Exn → W → Prop), ds.length = n → sp ds w Q R → wpSs G (fun x _ w => R x w) ir (entry G.N.length ds) w { nx := fun _ w => Q .non w, rt := Q }
def BodyI (nm : Str) (G : Gam) (ir : Ss) (n : Nat) (sp : Py.Spec) : Prop := ∀ (ds : List D) (w : W) (Q : D → W → Prop) (R : Exn → W → Prop), ds.length + 1 = n → sp ds w Q R → wpSs G (fun x _ w => R x w) ir (.own (.obj nm []) :: entry (G.N.length - 1) ds) w { nx := selfEnd Q, rt := fun _ _ => False }
theorem pu_is_integer : Body G_is_integer ir_is_integer 1 sp_is_integer := by
  intro ds w Q R hl h
  match ds, hl, h with
  | [d], _, h =>
    replace h : Q (.bl (isI d)) w := h
    cases d with
    | h n =>
      have e : ∀ T, T = Ty.int ∨ T = Ty.bool → isTD (res w (.h n)) [T] = false := by
        intro T hT
        show isTD (match w[n]? with | some c => c.toD | none => .h n) [T] = false
        rcases hT with rfl | rfl <;> (cases w[n]? with
          | none => rfl
          | some c => cases c <;> rfl)
      walk_at "go"
      refine bsplit (fun e1 => ?_) (fun e1 => ?_)
      · rw [e .int (.inl rfl)] at e1
        cases e1
      · exact h
    | _ =>
      walk_at "go"
      exact h
theorem pu_is_below : Body G_is_below ir_is_below 2 sp_is_below := by
  intro ds w Q R hl h
  match ds, hl, h with
  | [.int i, .int l], _, h =>
    walk_at "go"
    refine bsplit (fun e1 => ?_) (fun e1 => ?_)
    · walk_at "go"
      exact h _ ⟨fun z => ⟨of_decide_eq_true e1, of_decide_eq_true z⟩, fun z => decide_eq_true z.2⟩
    · exact h _ ⟨fun z => (nomatch z), fun z => absurd (decide_eq_true z.1) e1⟩
  | [.non, .int l], _, h =>
    walk_at "go"
    exact h
theorem pu_is_between : Body G_is_between ir_is_between 3 sp_is_between := by
  intro ds w Q R hl h
  match ds, hl, h with
  | [.int i, .int a, .int l], _, h =>
    walk_at "go"
    refine bsplit (fun e1 => ?_) (fun e1 => ?_)
    · walk_at "go"
      exact h _ ⟨fun z => ⟨of_decide_eq_true e1, of_decide_eq_true z⟩, fun z => decide_eq_true z.2⟩
    · exact h _ ⟨fun z => (nomatch z), fun z => absurd (decide_eq_true z.1) e1⟩
theorem pu_is_sequence : Body G_is_sequence ir_is_sequence 1 sp_is_sequence := by
  intro ds w Q R hl h
  match ds, hl, h with
  | [.lst xs], _, h =>
    walk_at "go"
    exact h
  | [.tup xs], _, h =>
    walk_at "go"
    exact h
theorem beq_iff {x y : Int} : (x == y) = true ↔ x = y := beq_iff_eq
theorem pu_is_row : Body G_is_row ir_is_row 2 sp_is_row := by
  intro ds w Q R hl h
  match ds, hl, h with
  | [.lst xs, .int m], _, h =>
    walk_at "go"
    exact h _ beq_iff
  | [.tup xs, .int m], _, h =>
    walk_at "go"
    exact h _ beq_iff
/-! loops over numbered items -/
theorem enum_mem {xs : List D} {d : D} (h : d ∈ enumD xs) : ∃ (i : Nat) (x : D), d = .tup [.int i, x] ∧ x ∈ xs := by
  unfold enumD at h
  obtain ⟨i, hi, e⟩ := List.mem_map.mp h
  have hl := List.mem_range.mp hi
  refine ⟨i, xs[i], ?_, List.getElem_mem hl⟩
  rw [← e, List.getD_eq_getElem?_getD, List.getElem?_eq_getElem hl]
  rfl

/-- a slot that holds no list of its own -/
def PlS (s : Py.Slot) : Prop := s = .none ∨ ∃ d, s = .val d
/-- a loop that only looks: i and the item's slots change, nothing else -/
theorem for_look {step : D → Fm → W → (Fm → W → Prop) → Prop} {Q : Fm → W → Prop} {w : W} (mk : Py.Slot → Py.Slot → Fm) (P : D → Prop) {ds : List D} (hds : ∀ d, d ∈ ds → P d) {s1 s2 : Py.Slot}
    (hs : ∀ d s1 s2 nx, P d → (∀ t1 t2, nx (mk (.val t1) (.val t2)) w) → step d (mk s1 s2) w nx) (hd : ∀ s1 s2, PlS s1 → PlS s2 → Q (mk s1 s2) w) (h1 : PlS s1 := by exact .inl rfl) (h2 : PlS s2 := by exact .inl rfl) : forL step ds (mk s1 s2) w Q := by
  refine forL_ind (fun rest env w' => w' = w ∧ (∀ d, d ∈ rest → P d) ∧ ∃ s1 s2, PlS s1 ∧ PlS s2 ∧ env = mk s1 s2) ?_ ?_ ds _ _ ⟨rfl, hds, s1, s2, h1, h2, rfl⟩
  · rintro d rest env w' nx ⟨rfl, hp, s1, s2, h1, h2, rfl⟩ hnx
    exact hs d s1 s2 nx (hp d (List.mem_cons_self ..)) fun t1 t2 => hnx _ _ ⟨rfl, fun d hd => hp d (List.mem_cons_of_mem _ hd), _, _, .inr ⟨_, rfl⟩, .inr ⟨_, rfl⟩, rfl⟩
  · rintro env w' ⟨rfl, _, s1, s2, h1, h2, rfl⟩
    exact hd s1 s2 h1 h2
theorem mem_iL {p : List Int} {d : D} (h : d ∈ iL p) : ∃ x, d = .int x ∧ x ∈ p := by
  obtain ⟨x, hx, e⟩ := List.mem_map.mp h
  exact ⟨x, e.symm, hx⟩
theorem iL_len (p : List Int) : ((iL p).length : Int) = p.length := by rw [List.length_map]
theorem pu_need_purse : Body G_need_purse ir_need_purse 2 sp_need_purse := by
  intro ds w Q R hl h
  match ds, hl, h with
  | [o, pd], _, h =>
    obtain ⟨P, V, p, rfl, hp, hlen, hin, hq⟩ := h
    have key : ∀ pd, Sq (iL p) pd → wpSs G_need_purse (fun x _ w => R x w) ir_need_purse (entry G_need_purse.N.length [oD P V, pd]) w { nx := fun _ w => Q .non w, rt := Q } := by
      intro pd hp
      have h1 : (((iL p).length : Nat) : Int) = ((iL P).length : Nat) := by rw [iL_len, iL_len, hlen]
      rcases hp with rfl | rfl <;> (
        walk_at "go"
        intro r hr
        obtain rfl := hr.mpr h1
        walk_at "go"
        refine for_look (fun s1 s2 => [.val (oD P V), .val _, s1, s2]) (fun d => ∃ (i : Nat) (x : Int), d = .tup [.int i, .int x] ∧ 0 ≤ x ∧ x ≤ big30) (fun d hd => ?_) (fun d s1 s2 nx hd hnx => ?_) fun s1 s2 p1 p2 => ?_
        · obtain ⟨i, x, e, hx⟩ := enum_mem hd
          obtain ⟨y, rfl, hy⟩ := mem_iL hx
          exact ⟨i, y, e, hin y hy⟩
        · obtain ⟨i, x, rfl, hx⟩ := hd
          walk_at "go"
          intro r hr
          obtain rfl := hr.mpr hx
          walk_at "go"
          exact hnx _ _
        · walk_at "go"
          exact hq)
    exact key pd hp
theorem bls_true {α : Type} : ∀ l : List α, blsOf (l.map fun _ => D.bl true) = some (l.map fun _ => true)
  | [] => rfl
  | _ :: l => by
    show (blsOf (l.map fun _ => D.bl true)).map (true :: ·) = _
    rw [bls_true l]
    rfl
theorem all_true {α : Type} (l : List α) : (l.map fun _ => true).all id = true := by
  induction l with
  | nil => rfl
  | cons x l ih => exact ih
theorem le60 {n : Nat} (h : n ≤ 60) : n ≤ sizeLine := Nat.le_trans h (by decide)
theorem iL_le {p : List Int} (h : p.length ≤ 60) : (iL p).length ≤ sizeLine := by rw [List.length_map]; exact le60 h
theorem pu_is_tickets : Body G_is_tickets ir_is_tickets 2 sp_is_tickets := by
  intro ds w Q R hl h
  match ds, hl, h with
  | [d, .int n], _, h =>
    obtain ⟨P, hp, hlen, h60, hin, hq⟩ := h
    have h1 : (((iL P).length : Nat) : Int) = n := by rw [iL_len, hlen]
    rcases hp with rfl | rfl <;> (
      walk_at "go"
      intro r hr
      obtain rfl := hr.mpr h1
      walk_at "go"
      refine compL_map (fun _ => .bl true) (fun d hd nx hnx => ?_) (iL_le h60) ?_
      · obtain ⟨x, rfl, hx⟩ := mem_iL hd
        walk_at "go"
        intro r hr
        obtain rfl := hr.mpr (hin x hx)
        walk_at "go"
        exact hnx
      · walk_at "go"
        rw [bls_true]
        walk_at "go"
        rw [all_true]
        exact hq)
theorem pu_is_visit : Body G_is_visit ir_is_visit 2 sp_is_visit := by
  intro ds w Q R hl h
  match ds, hl, h with
  | [d, .int n], _, h =>
    obtain ⟨v, m, ⟨a, b, hd, ha, hb⟩, hm, h60, ⟨l1, l2, i1, i2⟩, hq⟩ := h
    rcases hd with rfl | rfl <;> (
      walk_at "go"
      intro r hr
      obtain rfl := hr.mpr rfl
      walk_at "go"
      refine ⟨v.1, ha, by rw [l1]; exact hm, by rw [l1]; exact h60, i1, ?_⟩
      walk_at "go"
      refine ⟨v.2, hb, by rw [l2]; exact hm, by rw [l2]; exact h60, i2, ?_⟩
      walk_at "go"
      exact hq)
theorem all2_mem {α β : Type} {r : α → β → Prop} : ∀ {l : List α} {m : List β}, All2 r l m → ∀ {y}, y ∈ m → ∃ x, x ∈ l ∧ r x y
  | _, _, .cons h t, y, hy => by
    rcases List.mem_cons.mp hy with e | e
    · subst e
      exact ⟨_, List.mem_cons_self .., h⟩
    · obtain ⟨x, hx, hr⟩ := all2_mem t e
      exact ⟨x, List.mem_cons_of_mem _ hx, hr⟩
theorem compL_all2 {β : Type} {r : β → D → Prop} (g : β → D) {step : D → Fm → W → (Option D → Fm → W → Prop) → Prop} {Q : List D → Fm → W → Prop} {env : Fm} {w : W} : ∀ {V : List β} {vs acc : List D}, All2 r V vs → (∀ v d nx, v ∈ V → r v d → nx (some (g v)) env w → step d env w nx) → acc.length + vs.length ≤ sizeLine → Q (acc ++ V.map g) env w → compL step vs acc env w Q
  | _, _, acc, .nil, _, _, h => by
    rw [compL]
    rw [List.map_nil, List.append_nil] at h
    exact h
  | v :: V, d :: vs, acc, .cons hx t, hs, hl, h => by
    rw [compL]
    have hl' : acc.length + (vs.length + 1) ≤ sizeLine := hl
    refine hs v d _ (List.mem_cons_self ..) hx ⟨by omega, compL_all2 g t (fun v d nx hv => hs v d nx (List.mem_cons_of_mem _ hv)) (by rw [List.length_append, List.length_singleton]; omega) ?_⟩
    rw [List.map_cons] at h
    rw [List.append_assoc]
    exact h
theorem le6 {n : Nat} (h : n ≤ 6) : n ≤ sizeLine := Nat.le_trans h (by decide)
theorem le400 {n : Nat} (h : n ≤ 400) : n ≤ sizeLine := Nat.le_trans h (by decide)
theorem pu_Doors_init : BodyI "Doors" G_Doors_init ir_Doors_init 3 sp_Doors_init := by
  intro ds w Q R hl h
  match ds, hl, h with
  | [pd, vd], _, h =>
    obtain ⟨P, V, hp, ⟨vs, hv, ha⟩, ⟨o1, o2, o3, o4, o5⟩, hq⟩ := h
    have hl2 := ha.length
    have hlen : ((iL P).length : Int) = P.length := iL_len P
    rcases hp with rfl | rfl <;> rcases hv with rfl | rfl <;> (
      walk_at "go"
      refine bsplit (fun e => ?_) (fun e => ?_)
      · exact absurd (of_decide_eq_true e) (by show ¬ (60 : Int) < ((iL P).length : Int); rw [hlen]; omega)
      walk_at "go"
      refine for_look (fun s1 s2 => [.own (.obj "Doors" []), .val _, .val _, s1, s2, .none, .none, .none]) (fun d => ∃ (i : Nat) (x : Int), d = .tup [.int i, .int x] ∧ 0 ≤ x ∧ x ≤ big18) (fun d hd => ?_) (fun d s1 s2 nx hd hnx => ?_) fun s1 s2 p1 p2 => ?_
      · obtain ⟨i, x, e, hx⟩ := enum_mem hd
        obtain ⟨y, rfl, hy⟩ := mem_iL hx
        exact ⟨i, y, e, o2 y hy⟩
      · obtain ⟨i, x, rfl, hx⟩ := hd
        walk_at "go"
        intro r hr
        obtain rfl := hr.mpr hx
        walk_at "go"
        exact hnx _ _
      walk_at "go"
      intro r hr
      obtain rfl := hr.mpr (show (1 : Int) ≤ (vs.length : Int) ∧ (vs.length : Int) ≤ 6 by omega)
      walk_at "go"
      refine for_look (fun s1 s3 => [.own (.obj "Doors" []), .val _, .val _, s1, s2, s3, .none, .none]) (fun d => ∃ (i : Nat) (x : D) (v : Vis), d = .tup [.int i, x] ∧ LVis v x ∧ okVis P.length v) (fun d hd => ?_) (fun d s1 s2 nx hd hnx => ?_) (fun s1 s3 p3 p4 => ?_) p1
      · obtain ⟨i, x, e, hx⟩ := enum_mem hd
        obtain ⟨v, hv, hr⟩ := all2_mem ha hx
        exact ⟨i, x, v, e, hr, o5 v hv⟩
      · obtain ⟨i, x, v, rfl, hx, hok⟩ := hd
        walk_at "go"
        refine ⟨v, P.length, hx, hlen.symm, o1, hok, ?_⟩
        walk_at "go"
        exact hnx _ _
      walk_at "go"
      refine compL_all2 tVis ha (fun v d nx hv hx hnx => ?_) (by rw [List.length_nil, Nat.zero_add, ← hl2]; exact le6 o4) ?_
      · obtain ⟨a, b, hd, h1, h2⟩ := hx
        rcases hd with rfl | rfl <;> rcases h1 with rfl | rfl <;> rcases h2 with rfl | rfl <;> (
          walk_at "go"
          exact hnx)
      walk_at "go"
      exact hq)
theorem pu_need_rates : Body G_need_rates ir_need_rates 3 sp_need_rates := by
  intro ds w Q R hl h
  match ds, hl, h with
  | [o, n, rd], _, h =>
    obtain ⟨c, rfl, rfl, ⟨rs, hr, ha⟩, ⟨d1, d2, d3, ⟨l1, l2⟩, x1, x2⟩, hq⟩ := h
    have hl2 := ha.length
    have e1 : ((rs.length : Nat) : Int) = ((iL c.P).length : Nat) := by rw [iL_len, ← hl2, l1]
    rcases hr with rfl | rfl <;> (
      walk_at "go"
      intro r hr
      obtain rfl := hr.mpr e1
      walk_at "go"
      refine for_look (fun s1 s2 => [.val (oD c.P c.V), .val (oD c.P' c.V'), .val _, s1, s2, .none]) (fun d => ∃ (i : Nat) (x : D) (l : List Int), d = .tup [.int i, x] ∧ LI l x ∧ l.length = c.P'.length ∧ In 0 1000000000 l) (fun d hd => ?_) (fun d s1 s2 nx hd hnx => ?_) fun s1 s2 p1 p2 => ?_
      · obtain ⟨i, x, e, hx⟩ := enum_mem hd
        obtain ⟨l, hl, hr⟩ := all2_mem ha hx
        exact ⟨i, x, l, e, hr, l2 l hl⟩
      · obtain ⟨i, x, l, rfl, hx, hlen, hin⟩ := hd
        have e2 : (((iL l).length : Nat) : Int) = ((iL c.P').length : Nat) := by rw [iL_len, iL_len, hlen]
        have hz : (iL l).length ≤ sizeLine := iL_le (by rw [hlen]; exact d2.1)
        rcases hx with rfl | rfl <;> (
          walk_at "go"
          intro r hr
          obtain rfl := hr.mpr e2
          walk_at "go"
          refine compL_map (fun _ => .bl true) (fun d hd nx hnx => ?_) hz ?_
          · obtain ⟨x, rfl, hx⟩ := mem_iL hd
            walk_at "go"
            intro r hr
            obtain rfl := hr.mpr (hin x hx)
            walk_at "go"
            exact hnx
          walk_at "go"
          rw [bls_true]
          walk_at "go"
          rw [all_true]
          walk_at "go"
          exact hnx _ _)
      walk_at "go"
      exact hq)
end Pr

set_option Elab.async false
set_option linter.all false
set_option maxRecDepth 100000
set_option maxHeartbeats 4000000
namespace Pr
open PySem PySem.Spec PyProof.Rows L2 Py
local macro_rules | `(tactic| walk_at "go") => `(tactic| ((conv => whnf); repeat (first | (refine And.intro rfl ?_; (conv => whnf)) | (refine And.intro (lt900 rfl) ?_; (conv => whnf)) | (refine And.intro (by decide) ?_; (conv => whnf)) | (refine And.intro (le100 rfl) ?_; (conv => whnf)))))
theorem pu_Change_init : BodyI "Change" G_Change_init ir_Change_init 5 sp_Change_init := by
  intro ds w Q R hl h
  match ds, hl, h with
  | [o, n, rd, xd], _, h =>
    obtain ⟨c, rfl, rfl, hrd, hx, hok, hq⟩ := h
    have hok2 := hok
    have hrd2 := hrd
    obtain ⟨d1, d2, d3, ⟨l1, l2⟩, x1, x2⟩ := hok2
    obtain ⟨rs, hr, ha⟩ := hrd2
    have hl2 := ha.length
    have e1 : (((iL c.x).length : Nat) : Int) = ((iL c.P').length : Nat) := by rw [iL_len, iL_len, x1]
    have e3 : (((c.V'.map tVis).length : Nat) : Int) = ((c.V.map tVis).length : Nat) := by rw [List.length_map, List.length_map, d3]
    have hz : rs.length ≤ sizeLine := by rw [← hl2, l1]; exact le60 d1.1
    rcases hr with rfl | rfl <;> rcases hx with rfl | rfl <;> (
      walk_at "go"
      refine bsplit (fun e => ?_) (fun e => ?_)
      · exact absurd (show (!decide ((((c.V'.map tVis).length : Nat) : Int) = ((c.V.map tVis).length : Nat))) = true from e) (by rw [e3]; simp)
      walk_at "go"
      refine ⟨c, rfl, rfl, hrd, hok, ?_⟩
      walk_at "go"
      intro r hr
      obtain rfl := hr.mpr e1
      walk_at "go"
      refine for_look (fun s1 s2 => [.own (.obj "Change" []), .val (oD c.P c.V), .val (oD c.P' c.V'), .val _, .val _, s1, s2, .none]) (fun d => ∃ (i : Nat) (x : Int), d = .tup [.int i, .int x] ∧ 0 ≤ x ∧ x ≤ big18) (fun d hd => ?_) (fun d s1 s2 nx hd hnx => ?_) fun s1 s2 p1 p2 => ?_
      · obtain ⟨i, x, e, hx⟩ := enum_mem hd
        obtain ⟨y, rfl, hy⟩ := mem_iL hx
        exact ⟨i, y, e, x2 y hy⟩
      · obtain ⟨i, x, rfl, hx⟩ := hd
        walk_at "go"
        intro r hr
        obtain rfl := hr.mpr hx
        walk_at "go"
        exact hnx _ _
      walk_at "go"
      refine compL_all2 tI ha (fun l d nx hv hx hnx => ?_) (by rw [List.length_nil, Nat.zero_add]; exact hz) ?_
      · rcases hx with rfl | rfl <;> (
          walk_at "go"
          exact hnx)
      walk_at "go"
      exact hq)
end Pr

set_option Elab.async false
set_option linter.all false
set_option maxRecDepth 100000
set_option maxHeartbeats 4000000
namespace Pr
open PySem PySem.Spec PyProof.Rows L2 Py
local macro_rules | `(tactic| walk_at "go") => `(tactic| ((conv => whnf); repeat (first | (refine And.intro rfl ?_; (conv => whnf)) | (refine And.intro (lt900 rfl) ?_; (conv => whnf)) | (refine And.intro (by decide) ?_; (conv => whnf)) | (refine And.intro (le100 rfl) ?_; (conv => whnf)))))
theorem sq_mem_row {es : List D} {r : D} (h : Sq es r) : ∃ C : D, r = C := ⟨r, rfl⟩
theorem pu_Book_init : BodyI "Book" G_Book_init ir_Book_init 3 sp_Book_init := by
  intro ds w Q R hl h
  match ds, hl, h with
  | [.int k, rd], _, h =>
    obtain ⟨rs, hr, ⟨b1, b2, b3, b4⟩, hrs, hq⟩ := h
    have hz : rs.length ≤ sizeLine := Nat.le_trans b4 (by decide)
    rcases hr with rfl | rfl <;> (
      walk_at "go"
      intro r hr
      obtain rfl := hr.mpr ⟨b1, b2⟩
      walk_at "go"
      intro r hr
      obtain rfl := hr.mpr (show (1 : Int) ≤ (rs.length : Int) ∧ (rs.length : Int) ≤ 40 by omega)
      walk_at "go"
      refine for_look (fun s1 s2 => [.own (.obj "Book" []), .val (.int k), .val _, s1, s2, .none]) (fun d => ∃ (i : Nat) (x : D) (es : List D), d = .tup [.int i, x] ∧ Sq es x ∧ (es.length : Int) = k ∧ ∀ e, e ∈ es → e = .non ∨ ∃ i : Int, e = .int i ∧ 0 ≤ i ∧ i < rs.length) (fun d hd => ?_) (fun d s1 s2 nx hd hnx => ?_) fun s1 s2 p1 p2 => ?_
      · obtain ⟨i, x, e, hx⟩ := enum_mem hd
        obtain ⟨es, h1, h2, h3⟩ := hrs x hx
        exact ⟨i, x, es, e, h1, h2, h3⟩
      · obtain ⟨i, x, es, rfl, hx, hlen, hin⟩ := hd
        have hze : es.length ≤ sizeLine := le6 (by omega)
        rcases hx with rfl | rfl <;> (
          walk_at "go"
          intro r hr
          obtain rfl := hr.mpr hlen
          walk_at "go"
          refine compL_map (fun _ => .bl true) (fun d hd nx hnx => ?_) hze ?_
          · rcases hin d hd with rfl | ⟨i, rfl, hi⟩
            · walk_at "go"
              exact hnx
            · walk_at "go"
              intro r hr
              obtain rfl := hr.mpr hi
              walk_at "go"
              exact hnx
          walk_at "go"
          rw [bls_true]
          walk_at "go"
          rw [all_true]
          walk_at "go"
          exact hnx _ _)
      rcases p2 with rfl | ⟨d2, rfl⟩ <;> (
      walk_at "go"
      refine compL_map (fun d => match d with | .lst x => .tup x | d => d) (fun d hd nx hnx => ?_) hz ?_
      · obtain ⟨es, h1, _, _⟩ := hrs d hd
        rcases h1 with rfl | rfl <;> (
          walk_at "go"
          exact hnx)
      walk_at "go"
      exact hq _))
theorem pu_row_wrong : Body G_row_wrong ir_row_wrong 2 sp_row_wrong := by
  intro ds w Q R hl h
  match ds, hl, h with
  | [rd, .int k], _, h =>
    obtain ⟨row, hr, h4, hin, hq⟩ := h
    have hlen := iL_len row
    rcases hr with rfl | rfl <;> (
      walk_at "go"
      refine bsplit (fun e => ?_) (fun e => ?_)
      · exact absurd (of_decide_eq_true e) (by show ¬ (400 : Int) < ((iL row).length : Int); rw [hlen]; omega)
      walk_at "go"
      refine for_look (fun s1 s2 => [.val _, .val (.int k), s1, s2]) (fun d => ∃ (i : Nat) (x : Int), d = .tup [.int i, .int x] ∧ 0 ≤ x ∧ x ≤ k - 1) (fun d hd => ?_) (fun d s1 s2 nx hd hnx => ?_) fun s1 s2 p1 p2 => ?_
      · obtain ⟨i, x, e, hx⟩ := enum_mem hd
        obtain ⟨y, rfl, hy⟩ := mem_iL hx
        exact ⟨i, y, e, hin y hy⟩
      · obtain ⟨i, x, rfl, hx⟩ := hd
        walk_at "go"
        intro r hr
        obtain rfl := hr.mpr ⟨hx.1, by omega⟩
        walk_at "go"
        exact hnx _ _
      walk_at "go"
      exact hq)
/-! equality of plain things -/
structure Pl (n : Nat) (d : D) : Prop where
  p : isP d = true
  l : (toP d).canLay0 = true
  d : (toP d).depth ≤ n
theorem Pl.sh {n : Nat} {d : D} (h : Pl n d) (hn : n ≤ 64) : SeqAt.shaped (toP d) = true := by
  unfold SeqAt.shaped
  rw [h.l, decide_eq_true (Nat.le_trans h.d hn)]
  rfl
theorem pl_int (n : Nat) (i : Int) : Pl n (.int i) := ⟨rfl, rfl, Nat.zero_le _⟩
theorem pl_all {n : Nat} : ∀ {l : List D}, (∀ d, d ∈ l → Pl n d) → isPs l = true ∧ PyData.canLayAll0 (toPs l) = true ∧ PyData.depthAll (toPs l) ≤ n
  | [], _ => ⟨rfl, rfl, Nat.zero_le _⟩
  | d :: l, h => by
    obtain ⟨a1, a2, a3⟩ := pl_all fun d hd => h d (List.mem_cons_of_mem _ hd)
    have b := h d (List.mem_cons_self ..)
    refine ⟨?_, ?_, ?_⟩
    · show (isP d && isPs l) = true
      rw [b.p, a1]
      rfl
    · show ((toP d).canLay0 && PyData.canLayAll0 (toPs l)) = true
      rw [b.l, a2]
      rfl
    · show max ((toP d).depth) (PyData.depthAll (toPs l)) ≤ n
      exact Nat.max_le.mpr ⟨b.d, a3⟩
theorem pl_tup {n : Nat} {l : List D} (h : ∀ d, d ∈ l → Pl n d) : Pl (n + 1) (.tup l) := by
  obtain ⟨a1, a2, a3⟩ := pl_all h
  exact ⟨a1, a2, Nat.succ_le_succ a3⟩
theorem pl_tI (l : List Int) : Pl 1 (tI l) := pl_tup fun d hd => by
  obtain ⟨x, rfl, _⟩ := mem_iL hd
  exact pl_int 0 x
theorem pl_tVis (v : Vis) : Pl 2 (tVis v) := pl_tup fun d hd => by
  rcases List.mem_cons.mp hd with rfl | hd
  · exact pl_tI _
  · rw [List.mem_singleton.mp hd]
    exact pl_tI _
theorem pl_tV (V : List Vis) : Pl 3 (tV V) := pl_tup fun d hd => by
  obtain ⟨v, _, rfl⟩ := List.mem_map.mp hd
  exact pl_tVis v
theorem pl_tM (V : List (List Int)) : Pl 2 (tM V) := pl_tup fun d hd => by
  obtain ⟨v, _, rfl⟩ := List.mem_map.mp hd
  exact pl_tI v
theorem eqv_map {α : Type} [DecidableEq α] {f : α → D} (h : ∀ a b, PyData.eqv (toP (f a)) (toP (f b)) = decide (a = b)) : ∀ (l m : List α), PyData.eqvAll (toPs (l.map f)) (toPs (m.map f)) = decide (l = m)
  | [], [] => rfl
  | [], _ :: _ => rfl
  | _ :: _, [] => rfl
  | x :: a, y :: b => by
    show (PyData.eqv (toP (f x)) (toP (f y)) && PyData.eqvAll (toPs (a.map f)) (toPs (b.map f))) = _
    rw [eqv_map h a b, h, ← Bool.decide_and]
    exact decide_eq_decide.mpr (by simp)
theorem eqv_tI (a b : List Int) : PyData.eqv (toP (tI a)) (toP (tI b)) = decide (a = b) := eqv_ints a b
theorem eqv_tVis (a b : Vis) : PyData.eqv (toP (tVis a)) (toP (tVis b)) = decide (a = b) := by
  show (PyData.eqv (toP (tI a.1)) (toP (tI b.1)) && (PyData.eqv (toP (tI a.2)) (toP (tI b.2)) && true)) = _
  rw [eqv_tI, eqv_tI, Bool.and_true, ← Bool.decide_and]
  exact decide_eq_decide.mpr (Prod.ext_iff.symm)
theorem eqv_tV (a b : List Vis) : PyData.eqv (toP (tV a)) (toP (tV b)) = decide (a = b) := eqv_map eqv_tVis a b
theorem eqv_tM (a b : List (List Int)) : PyData.eqv (toP (tM a)) (toP (tM b)) = decide (a = b) := eqv_map eqv_tI a b
theorem pu_Doors_eq : Body G_Doors_eq ir_Doors_eq 2 sp_Doors_eq := by
  intro ds w Q R hl h
  match ds, hl, h with
  | [a, b], _, h =>
    obtain ⟨P, V, P', V', rfl, rfl, hq⟩ := h
    walk_at "go"
    refine ⟨(pl_tI P).p, (pl_tI P').p, (pl_tI P).sh (by decide), (pl_tI P').sh (by decide), ?_⟩
    generalize he : PyData.eqv _ _ = c
    have e1 := he.symm.trans (eqv_tI P P')
    by_cases e : P = P'
    · rw [decide_eq_true e] at e1
      subst e1
      walk_at "go"
      refine ⟨(pl_tV V).p, (pl_tV V').p, (pl_tV V).sh (by decide), (pl_tV V').sh (by decide), ?_⟩
      generalize he2 : PyData.eqv (toP (tV V)) _ = c2
      have e2 := he2.symm.trans (eqv_tV V V')
      have e3 : decide (P = P' ∧ V = V') = c2 := by rw [e2]; exact decide_eq_decide.mpr ⟨fun z => z.2, fun z => ⟨e, z⟩⟩
      rw [e3] at hq
      exact hq
    · rw [decide_eq_false e] at e1
      subst e1
      walk_at "go"
      rw [decide_eq_false fun z => e z.1] at hq
      exact hq
theorem pu_need_change : Body G_need_change ir_need_change 3 sp_need_change := by
  intro ds w Q R hl h
  match ds, hl, h with
  | [a, .int i, .non], _, h =>
    obtain ⟨c, rfl, hq⟩ := h
    walk_at "go"
    exact hq
end Pr

set_option Elab.async false
set_option linter.all false
set_option maxRecDepth 100000
set_option maxHeartbeats 4000000
namespace Pr
open PySem PySem.Spec PyProof.Rows L2 Py
local macro_rules | `(tactic| walk_at "go") => `(tactic| ((conv => whnf); repeat (first | (refine And.intro rfl ?_; (conv => whnf)) | (refine And.intro (lt900 rfl) ?_; (conv => whnf)) | (refine And.intro (by decide) ?_; (conv => whnf)) | (refine And.intro (le100 rfl) ?_; (conv => whnf)))))
theorem compL_ix {step : D → Fm → W → (Option D → Fm → W → Prop) → Prop} {Q : List D → Fm → W → Prop} {g : Nat → D} (F : Nat → Option D) {env : Fm} {w : W} : ∀ {is : List Nat} {acc : List D}, (∀ i nx, i ∈ is → nx (F i) env w → step (g i) env w nx) → acc.length + is.length ≤ sizeLine → Q (acc ++ is.filterMap F) env w → compL step (is.map g) acc env w Q
  | [], acc, _, _, h => by
    rw [List.map_nil, compL]
    rw [List.filterMap_nil, List.append_nil] at h
    exact h
  | i :: is, acc, hs, hl, h => by
    rw [List.map_cons, compL]
    have hl' : acc.length + (is.length + 1) ≤ sizeLine := hl
    refine hs i _ (List.mem_cons_self ..) ?_
    cases e : F i with
    | none =>
      rw [List.filterMap_cons_none e] at h
      exact compL_ix F (fun i nx hi => hs i nx (List.mem_cons_of_mem _ hi)) (by omega) h
    | some y =>
      rw [List.filterMap_cons_some e] at h
      refine ⟨by omega, compL_ix F (fun i nx hi => hs i nx (List.mem_cons_of_mem _ hi)) (by rw [List.length_append, List.length_singleton]; omega) ?_⟩
      rw [List.append_assoc]
      exact h
/-- over the first n numbers -/
theorem compL_rng {step : D → Fm → W → (Option D → Fm → W → Prop) → Prop} {Q : List D → Fm → W → Prop} {g : Nat → D} (F : Nat → Option D) {env : Fm} {w : W} {n : Nat} (hn : n ≤ sizeLine) (hs : ∀ i nx, i < n → nx (F i) env w → step (g i) env w nx) (h : Q ((List.range n).filterMap F) env w) : compL step ((List.range n).map g) [] env w Q :=
  compL_ix F (fun i nx hi => hs i nx (List.mem_range.mp hi)) (by rw [List.length_nil, Nat.zero_add, List.length_range]; exact hn) (by rw [List.nil_append]; exact h)
theorem compL_rngS {step : D → Fm → W → (Option D → Fm → W → Prop) → Prop} {Q : List D → Fm → W → Prop} {g : Nat → D} (F : Nat → D) {env : Fm} {w : W} {n : Nat} (hn : n ≤ sizeLine) (hs : ∀ i nx, i < n → nx (some (F i)) env w → step (g i) env w nx) (h : Q ((List.range n).map F) env w) : compL step ((List.range n).map g) [] env w Q :=
  compL_rng (fun i => some (F i)) hn hs (by
    have : (List.range n).filterMap (fun i => some (F i)) = (List.range n).map F := by
      rw [← List.filterMap_eq_map]
      rfl
    rw [this]
    exact h)
theorem get_iL {p : List Int} {i : Nat} (h : i < p.length) : (iL p)[i]? = some (.int (p.getD i 0)) := by
  rw [List.getElem?_map, List.getElem?_eq_getElem h, List.getD_eq_getElem?_getD, List.getElem?_eq_getElem h]
  rfl
theorem at_iL {p : List Int} {i : Nat} (h : i < p.length) : atI (iL p) (i : Int) = some (.int (p.getD i 0)) := by
  rw [atI_nat (by rw [List.length_map]; exact h), get_iL h]
theorem enum_iL (f : List Int) : enumD (iL f) = (List.range f.length).map fun i => D.tup [.int (i : Nat), .int (f.getD i 0)] := by
  unfold enumD
  rw [List.length_map]
  apply List.map_congr_left
  intro i hi
  rw [List.getD_eq_getElem?_getD, get_iL (List.mem_range.mp hi)]
  rfl
theorem zip2_range : ∀ {xs ys : List D}, xs.length = ys.length → zip2 xs ys = (List.range xs.length).map fun i => D.tup [xs.getD i .non, ys.getD i .non]
  | [], [], _ => rfl
  | x :: xs, y :: ys, h => by
    show D.tup [x, y] :: zip2 xs ys = _
    rw [zip2_range (Nat.succ.inj h), List.length_cons, List.range_succ_eq_map, List.map_cons, List.map_map]
    rfl
theorem zip3_range : ∀ {xs ys zs : List D}, xs.length = ys.length → xs.length = zs.length → zip3 xs ys zs = (List.range xs.length).map fun i => D.tup [xs.getD i .non, ys.getD i .non, zs.getD i .non]
  | [], [], [], _, _ => rfl
  | x :: xs, y :: ys, z :: zs, h, h2 => by
    show D.tup [x, y, z] :: zip3 xs ys zs = _
    rw [zip3_range (Nat.succ.inj h) (Nat.succ.inj h2), List.length_cons, List.range_succ_eq_map, List.map_cons, List.map_map]
    rfl
theorem getD_iL {p : List Int} {i : Nat} (h : i < p.length) : (iL p).getD i .non = .int (p.getD i 0) := by
  rw [List.getD_eq_getElem?_getD, get_iL h]
  rfl
theorem zip3_iL {p f g : List Int} (h : f.length = p.length) (h2 : g.length = p.length) : zip3 (iL p) (iL f) (iL g) = (List.range p.length).map fun i => D.tup [.int (p.getD i 0), .int (f.getD i 0), .int (g.getD i 0)] := by
  rw [zip3_range (by rw [List.length_map, List.length_map, h]) (by rw [List.length_map, List.length_map, h2]), List.length_map]
  apply List.map_congr_left
  intro i hi
  have hi := List.mem_range.mp hi
  rw [getD_iL hi, getD_iL (by rw [h]; exact hi), getD_iL (by rw [h2]; exact hi)]
theorem getD_tM {r : List (List Int)} {i : Nat} (h : i < r.length) : (r.map tI).getD i .non = tI (r.getD i []) := by
  rw [List.getD_eq_getElem?_getD, List.getElem?_map, List.getElem?_eq_getElem h, List.getD_eq_getElem?_getD, List.getElem?_eq_getElem h]
  rfl
theorem zip2_iM {p : List Int} {r : List (List Int)} (h : r.length = p.length) : zip2 (iL p) (r.map tI) = (List.range p.length).map fun i => D.tup [.int (p.getD i 0), tI (r.getD i [])] := by
  rw [zip2_range (by rw [List.length_map, List.length_map, h]), List.length_map]
  apply List.map_congr_left
  intro i hi
  have hi := List.mem_range.mp hi
  rw [getD_iL hi, getD_tM (by rw [h]; exact hi)]
theorem ints_map {n : Nat} (f : Nat → Int) : (List.range n).map (fun i => D.int (f i)) = iL ((List.range n).map f) := by
  show _ = ((List.range n).map f).map D.int
  rw [List.map_map]
  rfl
theorem getD_mem {α : Type} {l : List α} {i : Nat} {d : α} (h : i < l.length) : l.getD i d ∈ l := by
  rw [List.getD_eq_getElem?_getD, List.getElem?_eq_getElem h]
  exact List.getElem_mem _
theorem intsOf_iL : ∀ l : List Int, intsOf (iL l) = some l
  | [] => rfl
  | x :: l => by
    show (intsOf (iL l)).map (x :: ·) = _
    rw [intsOf_iL l]
    rfl
theorem lacks_map (p f : List Int) : (List.range f.length).filterMap (fun i => if p.getD i 0 < f.getD i 0 then some (D.int (i : Nat)) else none) = iL (lacksF p f) := by
  unfold lacksF
  induction List.range f.length with
  | nil => rfl
  | cons i l ih =>
    by_cases h : p.getD i 0 < f.getD i 0
    · rw [List.filterMap_cons_some (by rw [if_pos h]), List.filter_cons_of_pos (by simpa using h), ih]
      rfl
    · rw [List.filterMap_cons_none (by rw [if_neg h]), List.filter_cons_of_neg (by simpa using h), ih]
theorem pu_lacks_in : Body G_lacks_in ir_lacks_in 2 sp_lacks_in := by
  intro ds w Q R hl h
  match ds, hl, h with
  | [a, b], _, h =>
    obtain ⟨p, f, rfl, rfl, hlen, h60, hq⟩ := h
    walk_at "go"
    rw [enum_iL]
    refine compL_rng (env := [.val (tI p), .val (tI f), .none, .none]) (fun i => if p.getD i 0 < f.getD i 0 then some (D.int (i : Nat)) else none) (by rw [hlen]; exact le60 h60) (fun i nx hi hnx => ?_) ?_
    · walk_at "go"
      rw [at_iL (by rw [← hlen]; exact hi)]
      walk_at "go"
      refine bsplit (fun e => ?_) (fun e => ?_)
      · rw [if_pos (of_decide_eq_true e)] at hnx
        walk_at "go"
        exact hnx
      · rw [if_neg fun z => e (decide_eq_true z)] at hnx
        exact hnx
    · walk_at "go"
      rw [lacks_map]
      exact hq
theorem pu_paid : Body G_paid ir_paid 2 sp_paid := by
  intro ds w Q R hl h
  match ds, hl, h with
  | [a, b], _, h =>
    obtain ⟨p, v, rfl, rfl, h1, h2, h60, hq⟩ := h
    walk_at "go"
    rw [zip3_iL h1 h2]
    refine compL_rngS (env := [.val (tI p), .val (tVis v), .none, .none, .none]) (fun i => .int (p.getD i 0 - v.1.getD i 0 + v.2.getD i 0)) (le60 h60) (fun i nx hi hnx => ?_) ?_
    · walk_at "go"
      exact hnx
    · walk_at "go"
      rw [ints_map]
      exact hq
theorem pu_worth : Body G_worth ir_worth 3 sp_worth := by
  intro ds w Q R hl h
  match ds, hl, h with
  | [a, .int k, b], _, h =>
    obtain ⟨r, n, p, m, rfl, rfl, rfl, h1, h60, hm, hr, hq⟩ := h
    walk_at "go"
    rw [zip2_iM h1]
    refine compL_rngS (env := [.val (tM r), .val (.int n), .val (tI p), .none, .none]) (fun i => .int (p.getD i 0 * (r.getD i []).getD n 0)) (le60 h60) (fun i nx hi hnx => ?_) ?_
    · have hri : r.getD i [] ∈ r := getD_mem (by rw [h1]; exact hi)
      obtain ⟨hl1, hl2⟩ := hr _ hri
      have hn : n < (r.getD i []).length := by rw [hl1]; exact hm
      have hb := hl2 ((r.getD i []).getD n 0) (getD_mem hn)
      walk_at "go"
      rw [at_iL hn]
      walk_at "go"
      refine ⟨.inl (.inr ⟨?_, ?_⟩), hnx⟩
      · show -(2 ^ 64 : Int) < (r.getD i []).getD n 0
        omega
      · show (r.getD i []).getD n 0 < (2 ^ 64 : Int)
        omega
    · walk_at "go"
      rw [ints_map, intsOf_iL]
      exact hq
theorem pu_exchange_of : Body G_exchange_of ir_exchange_of 2 sp_exchange_of := by
  intro ds w Q R hl h
  match ds, hl, h with
  | [a, b], _, h =>
    obtain ⟨c, p, rfl, rfl, ⟨d1, d2, d3, ⟨l1, l2⟩, x1, x2⟩, hp, hq⟩ := h
    walk_at "go"
    rw [enum_iL]
    refine compL_rngS (env := [.val (oC c), .val (tI p), .none, .none]) (fun i => .int (c.x.getD i 0 + worthF c.r i p)) (by rw [x1]; exact le60 d2.1) (fun i nx hi hnx => ?_) ?_
    · walk_at "go"
      refine ⟨c.r, i, p, c.P'.length, rfl, rfl, rfl, by rw [l1, hp], by rw [hp]; exact d1.1, by rw [← x1]; exact hi, l2, ?_⟩
      walk_at "go"
      exact hnx
    · walk_at "go"
      rw [ints_map]
      exact hq
end Pr

set_option Elab.async false
set_option linter.all false
set_option maxRecDepth 100000
set_option maxHeartbeats 4000000
namespace Pr
open PySem PySem.Spec PyProof.Rows L2 Py
local macro_rules | `(tactic| walk_at "go") => `(tactic| ((conv => whnf); repeat (first | (refine And.intro rfl ?_; (conv => whnf)) | (refine And.intro (lt900 rfl) ?_; (conv => whnf)) | (refine And.intro (by decide) ?_; (conv => whnf)) | (refine And.intro (le100 rfl) ?_; (conv => whnf)))))
/-- the rest of a numbered row -/
def numD : Nat → List Int → List D
  | _, [] => []
  | i, x :: r => .tup [.int (i : Nat), .int x] :: numD (i + 1) r
theorem numD_range : ∀ (r : List Int) (i : Nat), numD i r = (List.range r.length).map fun j => D.tup [.int ((i + j : Nat) : Int), .int (r.getD j 0)]
  | [], _ => rfl
  | x :: r, i => by
    show D.tup [.int (i : Nat), .int x] :: numD (i + 1) r = _
    rw [numD_range r (i + 1), List.length_cons, List.range_succ_eq_map, List.map_cons, List.map_map]
    congr 1
    apply List.map_congr_left
    intro j _
    show D.tup [.int ((i + 1 + j : Nat) : Int), .int (r.getD j 0)] = D.tup [.int ((i + (j + 1) : Nat) : Int), .int ((x :: r).getD (j + 1) 0)]
    rw [Nat.add_right_comm, Nat.add_assoc]
    rfl
theorem enum_num (r : List Int) : enumD (iL r) = numD 0 r := by
  rw [enum_iL, numD_range]
  apply List.map_congr_left
  intro j _
  rw [Nat.zero_add]
theorem at_tV {V : List Vis} {k : Int} (h0 : 0 ≤ k) (h1 : k ≤ (V.length : Int) - 1) : atI (V.map tVis) k = some (tVis (visAt V k)) := by
  have hk : k = ((k.toNat : Nat) : Int) := by omega
  have hl : k.toNat < V.length := by omega
  rw [hk, atI_nat (by rw [List.length_map]; exact hl), List.getElem?_map, List.getElem?_eq_getElem hl]
  unfold visAt
  rw [List.getD_eq_getElem?_getD]
  show some (tVis V[k.toNat]) = some (tVis (V[((k.toNat : Nat) : Int).toNat]?.getD ([], [])))
  rw [Int.toNat_natCast, List.getElem?_eq_getElem hl]
  rfl
theorem visAt_mem {V : List Vis} {k : Int} (h0 : 0 ≤ k) (h1 : k ≤ (V.length : Int) - 1) : visAt V k ∈ V := getD_mem (by omega)
theorem paid_len (p : List Int) (v : Vis) : (paidF p v).length = p.length := by unfold paidF; rw [List.length_map, List.length_range]
theorem iL_empty {l : List Int} : (!(iL l).isEmpty) = true ↔ l ≠ [] := by cases l <;> simp
theorem pu_walk_from : Body G_walk_from ir_walk_from 3 sp_walk_from := by
  intro ds w Q R hl h
  match ds, hl, h with
  | [a, b, d], _, h =>
    obtain ⟨P, V, p0, row, rfl, rfl, rfl, ⟨o1, o2, o3, o4, o5⟩, hq⟩ := h
    walk_at "go"
    rw [enum_num]
    refine forL_ind (fun rest env w' => w' = w ∧ ∃ (i : Nat) (rr : List Int) (p : List Int) (s1 s2 s3 : Py.Slot), rest = numD i rr ∧ In 0 ((V.length : Int) - 1) rr ∧ p.length = P.length ∧ walkF V rr i p = walkF V row 0 p0 ∧
      env = [.val (oD P V), .val (tI p), .val (tI row), s1, s2, s3]) ?_ ?_ _ _ _ ⟨rfl, 0, row, p0, .none, .none, .none, rfl, o4, o1, rfl, rfl⟩
    · rintro d rest env w' nx ⟨rfl, i, rr, p, s1, s2, s3, hrest, hin, hp, hwk, rfl⟩ hnx
      cases rr with
      | nil => cases hrest
      | cons k rr =>
        cases hrest
        obtain ⟨k0, k1⟩ := hin k (List.mem_cons_self ..)
        have hv := o3 _ (visAt_mem k0 k1)
        walk_at "go"
        rw [at_tV k0 k1]
        walk_at "go"
        refine ⟨p, (visAt V k).1, rfl, rfl, by rw [hv.1, hp], by rw [hp]; exact o2, ?_⟩
        walk_at "go"
        have hw2 : walkF V (k :: rr) i p = if lacksF p (visAt V k).1 = [] then walkF V rr (i + 1) (paidF p (visAt V k)) else .stop i (lacksF p (visAt V k).1) := rfl
        refine bsplit (fun e => ?_) (fun e => ?_)
        · have e2 := iL_empty.mp e
          rw [hw2, if_neg e2] at hwk
          rw [← hwk] at hq
          walk_at "go"
          exact hq
        · have e2 : lacksF p (visAt V k).1 = [] := Classical.byContradiction fun z => e (iL_empty.mpr z)
          rw [hw2, if_pos e2] at hwk
          walk_at "go"
          rw [at_tV k0 k1]
          walk_at "go"
          refine ⟨p, visAt V k, rfl, rfl, by rw [hv.1, hp], by rw [hv.2, hp], by rw [hp]; exact o2, ?_⟩
          walk_at "go"
          exact hnx _ _ ⟨rfl, i + 1, rr, paidF p (visAt V k), _, _, _, rfl, fun x hx => hin x (List.mem_cons_of_mem _ hx), by rw [paid_len, hp], by rw [← hwk]; rfl, rfl⟩
    · rintro env w' ⟨rfl, i, rr, p, s1, s2, s3, hrest, hin, hp, hwk, rfl⟩
      cases rr with
      | cons k rr => cases hrest
      | nil =>
        have e : walkF V [] i p = .let_ p := rfl
        rw [e] at hwk
        rw [← hwk] at hq
        walk_at "go"
        exact hq
theorem pu_exchanged : Body G_exchanged ir_exchanged 2 sp_exchanged := by
  intro ds w Q R hl h
  match ds, hl, h with
  | [a, b], _, h =>
    obtain ⟨c, p, rfl, hp, hok, hlen, hin, hq⟩ := h
    walk_at "go"
    refine ⟨c, rfl, ?_⟩
    walk_at "go"
    refine ⟨c.P, c.V, p, rfl, hp, hlen, hin, ?_⟩
    walk_at "go"
    exact ⟨c, p, rfl, rfl, hok, hlen, hq⟩
theorem pu_Change_eq : Body G_Change_eq ir_Change_eq 2 sp_Change_eq := by
  intro ds w Q R hl h
  match ds, hl, h with
  | [a, b], _, h =>
    obtain ⟨c, d, rfl, rfl, hq⟩ := h
    have fin : ∀ b, (decide (c = d)) = b → Q (.bl b) w := fun b e => by rw [← e]; exact hq
    walk_at "go"
    refine ⟨c.P, c.V, d.P, d.V, rfl, rfl, ?_⟩
    by_cases e : c.P = d.P ∧ c.V = d.V
    · rw [decide_eq_true e]
      walk_at "go"
      refine ⟨c.P', c.V', d.P', d.V', rfl, rfl, ?_⟩
      by_cases e' : c.P' = d.P' ∧ c.V' = d.V'
      · rw [decide_eq_true e']
        walk_at "go"
        refine ⟨(pl_tM c.r).p, (pl_tM d.r).p, (pl_tM c.r).sh (by decide), (pl_tM d.r).sh (by decide), ?_⟩
        generalize he : PyData.eqv _ _ = b1
        have e1 := he.symm.trans (eqv_tM c.r d.r)
        by_cases e3 : c.r = d.r
        · rw [decide_eq_true e3] at e1
          subst e1
          walk_at "go"
          refine ⟨(pl_tI c.x).p, (pl_tI d.x).p, (pl_tI c.x).sh (by decide), (pl_tI d.x).sh (by decide), ?_⟩
          generalize he2 : PyData.eqv (toP (tI c.x)) _ = b2
          have e2 := he2.symm.trans (eqv_tI c.x d.x)
          refine fin _ ?_
          rw [e2]
          refine decide_eq_decide.mpr ⟨fun z => by rw [z], fun z => ?_⟩
          obtain ⟨cP, cV, cP', cV', cr, cx⟩ := c
          obtain ⟨dP, dV, dP', dV', dr, dx⟩ := d
          obtain ⟨f1, f2⟩ := e
          obtain ⟨f3, f4⟩ := e'
          simp only at f1 f2 f3 f4 e3 z
          rw [f1, f2, f3, f4, e3, z]
        · rw [decide_eq_false e3] at e1
          subst e1
          walk_at "go"
          exact fin _ (decide_eq_false fun z => e3 (by rw [z]))
      · rw [decide_eq_false e']
        walk_at "go"
        exact fin _ (decide_eq_false fun z => e' (by rw [z]; exact ⟨rfl, rfl⟩))
    · rw [decide_eq_false e]
      walk_at "go"
      exact fin _ (decide_eq_false fun z => e (by rw [z]; exact ⟨rfl, rfl⟩))
end Pr

set_option Elab.async false
set_option linter.all false
set_option maxRecDepth 100000
set_option maxHeartbeats 4000000
namespace Pr
open PySem PySem.Spec PyProof.Rows L2 Py
local macro_rules | `(tactic| walk_at "go") => `(tactic| ((conv => whnf); repeat (first | (refine And.intro rfl ?_; (conv => whnf)) | (refine And.intro (lt900 rfl) ?_; (conv => whnf)) | (refine And.intro (by decide) ?_; (conv => whnf)) | (refine And.intro (le100 rfl) ?_; (conv => whnf)))))
theorem rng_nat (n : Nat) : rangeD 0 (n : Int) = (List.range n).map fun i => D.int (i : Nat) := by
  unfold rangeD
  rw [Int.sub_zero, Int.toNat_natCast]
  apply List.map_congr_left
  intro i _
  rw [Int.zero_add]
theorem sm60 {n : Nat} (h : n ≤ 1000) : small62 (n : Int) := ⟨by omega, by omega⟩
theorem at_tM {r : List (List Int)} {i : Nat} (h : i < r.length) : atI (r.map tI) (i : Int) = some (tI (r.getD i [])) := by
  rw [atI_nat (by rw [List.length_map]; exact h), List.getElem?_map, List.getElem?_eq_getElem h, List.getD_eq_getElem?_getD, List.getElem?_eq_getElem h]
  rfl
theorem pu_law_lacks : Body G_law_lacks ir_law_lacks 2 sp_law_lacks := by
  intro ds w Q R hl h
  match ds, hl, h with
  | [a, b], _, h =>
    obtain ⟨p, f, rfl, rfl, hlen, h60, hq⟩ := h
    have h60' : f.length ≤ 60 := by rw [hlen]; exact h60
    have e0 : (((iL f).length : Nat) : Int) = (f.length : Nat) := iL_len f
    walk_at "go"
    rw [e0]
    refine ⟨sm60 (by omega), ?_⟩
    walk_at "go"
    rw [rng_nat]
    refine compL_rng (env := [.val (tI p), .val (tI f), .none]) (fun i => if p.getD i 0 < f.getD i 0 then some (D.int (i : Nat)) else none) (le60 h60') (fun i nx hi hnx => ?_) ?_
    · walk_at "go"
      rw [at_iL (by rw [← hlen]; exact hi)]
      walk_at "go"
      rw [at_iL hi]
      walk_at "go"
      refine bsplit (fun e => ?_) (fun e => ?_)
      · rw [if_pos (of_decide_eq_true e)] at hnx
        walk_at "go"
        exact hnx
      · rw [if_neg fun z => e (decide_eq_true z)] at hnx
        exact hnx
    · walk_at "go"
      rw [lacks_map]
      exact hq
theorem pu_law_fits : Body G_law_fits ir_law_fits 2 sp_law_fits := by
  intro ds w Q R hl h
  match ds, hl, h with
  | [a, b], _, h =>
    obtain ⟨p, f, rfl, rfl, hlen, h60, hq⟩ := h
    have h60' : f.length ≤ 60 := by rw [hlen]; exact h60
    have e0 : (((iL f).length : Nat) : Int) = (f.length : Nat) := iL_len f
    walk_at "go"
    rw [e0]
    refine ⟨sm60 (by omega), ?_⟩
    walk_at "go"
    rw [rng_nat]
    refine compL_rng (env := [.val (tI p), .val (tI f), .none]) (fun i => if p.getD i 0 < f.getD i 0 then some (D.int (i : Nat)) else none) (le60 h60') (fun i nx hi hnx => ?_) ?_
    · walk_at "go"
      rw [at_iL (by rw [← hlen]; exact hi)]
      walk_at "go"
      rw [at_iL hi]
      walk_at "go"
      refine bsplit (fun e => ?_) (fun e => ?_)
      · rw [if_pos (of_decide_eq_true e)] at hnx
        walk_at "go"
        exact hnx
      · rw [if_neg fun z => e (decide_eq_true z)] at hnx
        exact hnx
    · rw [lacks_map]
      have pl : Pl 1 (.lst (iL (lacksF p f))) := by
        obtain ⟨a1, a2, a3⟩ := pl_tI (lacksF p f)
        exact ⟨a1, a2, a3⟩
      walk_at "go"
      refine ⟨pl.p, rfl, pl.sh (by decide), rfl, ?_⟩
      exact hq _
theorem pu_law_paid : Body G_law_paid ir_law_paid 2 sp_law_paid := by
  intro ds w Q R hl h
  match ds, hl, h with
  | [a, b], _, h =>
    obtain ⟨p, v, rfl, rfl, h1, h2, h60, hq⟩ := h
    have e0 : (((iL p).length : Nat) : Int) = (p.length : Nat) := iL_len p
    walk_at "go"
    rw [e0]
    refine ⟨sm60 (by omega), ?_⟩
    walk_at "go"
    rw [rng_nat]
    refine compL_rngS (env := [.val (tI p), .val (tVis v), .none]) (fun i => .int (p.getD i 0 - v.1.getD i 0 + v.2.getD i 0)) (le60 h60) (fun i nx hi hnx => ?_) ?_
    · walk_at "go"
      rw [at_iL hi]
      walk_at "go"
      rw [at_iL (by rw [h1]; exact hi)]
      walk_at "go"
      rw [at_iL (by rw [h2]; exact hi)]
      walk_at "go"
      exact hnx
    · walk_at "go"
      rw [ints_map]
      exact hq
theorem pu_law_worth : Body G_law_worth ir_law_worth 3 sp_law_worth := by
  intro ds w Q R hl h
  match ds, hl, h with
  | [a, .int k, b], _, h =>
    obtain ⟨r, n, p, m, rfl, rfl, rfl, h1, h60, hm, hr, hq⟩ := h
    have e0 : (((iL p).length : Nat) : Int) = (p.length : Nat) := iL_len p
    walk_at "go"
    rw [e0]
    refine ⟨sm60 (by omega), ?_⟩
    walk_at "go"
    rw [rng_nat]
    refine compL_rngS (env := [.val (tM r), .val (.int n), .val (tI p), .none]) (fun i => .int (p.getD i 0 * (r.getD i []).getD n 0)) (le60 h60) (fun i nx hi hnx => ?_) ?_
    · have hri : r.getD i [] ∈ r := getD_mem (by rw [h1]; exact hi)
      obtain ⟨hl1, hl2⟩ := hr _ hri
      have hn : n < (r.getD i []).length := by rw [hl1]; exact hm
      have hb := hl2 ((r.getD i []).getD n 0) (getD_mem hn)
      walk_at "go"
      rw [at_iL hi]
      walk_at "go"
      rw [at_tM (by rw [h1]; exact hi)]
      walk_at "go"
      rw [at_iL hn]
      walk_at "go"
      refine ⟨.inl (.inr ⟨?_, ?_⟩), hnx⟩
      · show -(2 ^ 64 : Int) < (r.getD i []).getD n 0
        omega
      · show (r.getD i []).getD n 0 < (2 ^ 64 : Int)
        omega
    · walk_at "go"
      rw [ints_map, intsOf_iL]
      exact hq
theorem pu_law_exchange : Body G_law_exchange ir_law_exchange 3 sp_law_exchange := by
  intro ds w Q R hl h
  match ds, hl, h with
  | [a, b, c], _, h =>
    obtain ⟨r, x, p, rfl, rfl, rfl, h1, h2, h3, h4, hq⟩ := h
    have e0 : (((iL x).length : Nat) : Int) = (x.length : Nat) := iL_len x
    walk_at "go"
    rw [e0]
    refine ⟨sm60 (by omega), ?_⟩
    walk_at "go"
    rw [rng_nat]
    refine compL_rngS (env := [.val (tM r), .val (tI x), .val (tI p), .none]) (fun i => .int (x.getD i 0 + worthF r i p)) (le60 h3) (fun i nx hi hnx => ?_) ?_
    · walk_at "go"
      rw [at_iL hi]
      walk_at "go"
      refine ⟨r, i, p, x.length, rfl, rfl, rfl, h1, h2, hi, h4, ?_⟩
      walk_at "go"
      exact hnx
    · walk_at "go"
      rw [ints_map]
      exact hq
/-- i, i + 1, .. (m of them) -/
def numI : Nat → Nat → List D
  | _, 0 => []
  | i, m + 1 => .int (i : Nat) :: numI (i + 1) m
theorem numI_range : ∀ (m i : Nat), numI i m = (List.range m).map fun j => D.int ((i + j : Nat) : Int)
  | 0, _ => rfl
  | m + 1, i => by
    show D.int (i : Nat) :: numI (i + 1) m = _
    rw [numI_range m (i + 1), List.range_succ_eq_map, List.map_cons, List.map_map]
    congr 1
    apply List.map_congr_left
    intro j _
    show D.int ((i + 1 + j : Nat) : Int) = D.int ((i + (j + 1) : Nat) : Int)
    rw [Nat.add_right_comm, Nat.add_assoc]
theorem rng_num (n : Nat) : rangeD 0 (n : Int) = numI 0 n := by
  rw [rng_nat, numI_range]
  apply List.map_congr_left
  intro j _
  rw [Nat.zero_add]
theorem drop_cons {row rr : List Int} {i : Nat} {k : Int} (h : row.drop i = k :: rr) : i < row.length ∧ row.getD i 0 = k ∧ row.drop (i + 1) = rr := by
  have hi : i < row.length := by
    apply Classical.byContradiction
    intro n
    rw [List.drop_eq_nil_of_le (by omega)] at h
    cases h
  rw [List.drop_eq_getElem_cons hi] at h
  injection h with h1 h2
  refine ⟨hi, ?_, h2⟩
  rw [List.getD_eq_getElem?_getD, List.getElem?_eq_getElem hi]
  exact h1
theorem pu_law_walk : Body G_law_walk ir_law_walk 3 sp_law_walk := by
  intro ds w Q R hl h
  match ds, hl, h with
  | [a, b, d], _, h =>
    obtain ⟨n, V, p0, row, rfl, rfl, rfl, ⟨o1, o2, o3, o4, o5⟩, hq⟩ := h
    have e0 : (((iL row).length : Nat) : Int) = (row.length : Nat) := iL_len row
    walk_at "go"
    rw [e0]
    refine ⟨sm60 (by omega), ?_⟩
    walk_at "go"
    rw [rng_num]
    refine forL_ind (fun rest env w' => w' = w ∧ ∃ (i : Nat) (rr : List Int) (p : List Int) (s1 s3 : Py.Slot), rest = numI i rr.length ∧ row.drop i = rr ∧ p.length = n ∧ walkF V rr i p = walkF V row 0 p0 ∧
      env = [.val (tI p), .val (tV V), .val (tI row), s1, s3]) ?_ ?_ _ _ _ ⟨rfl, 0, row, p0, .none, .none, rfl, rfl, o1, rfl, rfl⟩
    · rintro d rest env w' nx ⟨rfl, i, rr, p, s1, s3, hrest, hdr, hp, hwk, rfl⟩ hnx
      cases rr with
      | nil => cases hrest
      | cons k rr =>
        cases hrest
        obtain ⟨hi, hk, hdr2⟩ := drop_cons hdr
        have hkm : k ∈ row := by rw [← hk]; exact getD_mem hi
        obtain ⟨k0, k1⟩ := o4 k hkm
        have hv := o3 _ (visAt_mem k0 k1)
        walk_at "go"
        rw [at_iL hi, hk]
        walk_at "go"
        rw [at_tV k0 k1]
        walk_at "go"
        refine ⟨p, (visAt V k).1, rfl, rfl, by rw [hv.1, hp], by rw [hp]; exact o2, ?_⟩
        walk_at "go"
        have hw2 : walkF V (k :: rr) i p = if lacksF p (visAt V k).1 = [] then walkF V rr (i + 1) (paidF p (visAt V k)) else .stop i (lacksF p (visAt V k).1) := rfl
        refine ⟨(pl_tI _).p, rfl, (pl_tI _).sh (by decide), rfl, ?_⟩
        generalize he : PyData.eqv _ _ = c
        have e1 := he.symm.trans (eqv_tI (lacksF p (visAt V k).1) [])
        by_cases e2 : lacksF p (visAt V k).1 = []
        · rw [decide_eq_true e2] at e1
          subst e1
          rw [hw2, if_pos e2] at hwk
          walk_at "go"
          rw [at_iL hi, hk]
          walk_at "go"
          rw [at_tV k0 k1]
          walk_at "go"
          refine ⟨p, visAt V k, rfl, rfl, by rw [hv.1, hp], by rw [hv.2, hp], by rw [hp]; exact o2, ?_⟩
          walk_at "go"
          exact hnx _ _ ⟨rfl, i + 1, rr, paidF p (visAt V k), _, _, rfl, hdr2, by rw [paid_len, hp], by rw [← hwk]; rfl, rfl⟩
        · rw [decide_eq_false e2] at e1
          subst e1
          rw [hw2, if_neg e2] at hwk
          rw [← hwk] at hq
          walk_at "go"
          exact hq
    · rintro env w' ⟨rfl, i, rr, p, s1, s3, hrest, hdr, hp, hwk, rfl⟩
      cases rr with
      | cons k rr => cases hrest
      | nil =>
        have e : walkF V [] i p = .let_ p := rfl
        rw [e] at hwk
        rw [← hwk] at hq
        walk_at "go"
        exact hq
end Pr

set_option Elab.async false
set_option linter.all false
set_option maxRecDepth 100000
set_option maxHeartbeats 4000000
namespace Pr
open PySem PySem.Spec PyProof.Rows L2 Py
local macro_rules | `(tactic| walk_at "go") => `(tactic| ((conv => whnf); repeat (first | (refine And.intro rfl ?_; (conv => whnf)) | (refine And.intro (lt900 rfl) ?_; (conv => whnf)) | (refine And.intro (by decide) ?_; (conv => whnf)) | (refine And.intro (le100 rfl) ?_; (conv => whnf)))))
theorem walk_len : ∀ {V : List Vis} {row : List Int} {i : Int} {p q : List Int}, walkF V row i p = .let_ q → q.length = p.length
  | V, [], i, p, q, h => by
    injection h with h
    rw [h]
  | V, k :: r, i, p, q, h => by
    have hw2 : walkF V (k :: r) i p = if lacksF p (visAt V k).1 = [] then walkF V r (i + 1) (paidF p (visAt V k)) else .stop i (lacksF p (visAt V k).1) := rfl
    rw [hw2] at h
    split at h
    · rw [walk_len h, paid_len]
    · cases h
theorem sh_stopped : SeqAt.shaped (toP (.str (Str.ofString "stopped"))) = true := by decide +kernel
theorem sh_let : SeqAt.shaped (toP (.str (Str.ofString "let"))) = true := by decide +kernel
theorem eq_ss : PyData.eqv (toP (.str (Str.ofString "stopped"))) (toP (.str (Str.ofString "stopped"))) = true := by decide +kernel
theorem eq_ls : PyData.eqv (toP (.str (Str.ofString "let"))) (toP (.str (Str.ofString "stopped"))) = false := by decide +kernel
theorem eq_sl : PyData.eqv (toP (.str (Str.ofString "stopped"))) (toP (.str (Str.ofString "let"))) = false := by decide +kernel
theorem eq_ll : PyData.eqv (toP (.str (Str.ofString "let"))) (toP (.str (Str.ofString "let"))) = true := by decide +kernel
theorem pu_gone_over : Body G_gone_over ir_gone_over 3 sp_gone_over := by
  intro ds w Q R hl h
  match ds, hl, h with
  | [o, bd, ad], _, h =>
    obtain ⟨c, b, a, rfl, hb, ha, hok, hrb, hra, hq⟩ := h
    have hV : c.V'.length = c.V.length := hok.2.2.1
    have hv1 : okW c.P.length c.V c.P b := ⟨rfl, hok.1.1, fun v hv => ⟨(hok.1.2.2.2.2 v hv).1, (hok.1.2.2.2.2 v hv).2.1⟩, hrb.2, hrb.1⟩
    have hv2 : ∀ p, okW c.P'.length c.V' (exF c.r c.x p) a := fun p => ⟨by unfold exF; rw [List.length_map, List.length_range]; exact hok.2.2.2.2.1, hok.2.1.1, fun v hv => ⟨(hok.2.1.2.2.2.2 v hv).1, (hok.2.1.2.2.2.2 v hv).2.1⟩, by rw [hV]; exact hra.2, hra.1⟩
    have hrow : ∀ x row, LI row x → rowOk c.V row → ∃ row, LI row x ∧ row.length ≤ 400 ∧ In 0 (((c.V.map tVis).length : Int) - 1) row := fun x row h1 h2 => ⟨row, h1, h2.1, by rw [List.length_map]; exact h2.2⟩
    obtain ⟨rb, hb1, hb2, hb3⟩ := hrow _ _ hb hrb
    obtain ⟨ra, ha1, ha2, ha3⟩ := hrow _ _ ha hra
    have fin2 : ∀ s1 s2 x, ∀ p, x = .tup [.str "let", tI p] → p.length = c.P.length → walkF c.V b 0 c.P = .let_ p → (∀ bd ad, LI b bd → LI a ad → wpSs G_gone_over (fun x _ w => R x w)
        (.cons (.set 4 (.call 0 (.cons (.attr (.v 0) "new") (.cons (.call 1 (.cons (.v 0) (.cons (.ix (.v 3) (.ci 1)) .nil)) []) (.cons (.b1 .tuple (.v 2)) .nil))) []))
        (.cons (.ret (.ife (.cmp .eq (.ix (.v 4) (.ci 0)) (.cs "let")) (.v 4) (.tup (.cons (.cs "stopped") (.cons (.bin .add (.b1 .len (.v 1)) (.ix (.v 4) (.ci 1))) (.cons (.ix (.v 4) (.ci 2)) .nil))))))
        .nil))
        [.val (oC c), .val bd, .val ad, .val x, .none, s1, s2] w { nx := fun _ w => Q .non w, rt := Q }) := by
      rintro s1 s2 _ p rfl hpl hw bd ad hb ha
      rcases hb with rfl | rfl <;> rcases ha with rfl | rfl <;> (
        walk_at "go"
        refine ⟨c, p, rfl, rfl, hok, hpl, ?_⟩
        walk_at "go"
        refine ⟨c.P', c.V', exF c.r c.x p, a, rfl, rfl, rfl, hv2 p, ?_⟩
        cases hw2 : walkF c.V' a 0 (exF c.r c.x p) with
        | stop i l =>
          have ho : overF c b a = .stop ((b.length : Int) + i) l := by unfold overF; simp only [hw, hw2]
          rw [ho] at hq
          walk_at "go"
          refine ⟨sh_stopped, sh_let, ?_⟩
          generalize he : PyData.eqv _ _ = b1
          obtain rfl := he.symm.trans eq_sl
          walk_at "go"
          rw [iL_len]
          exact hq
        | let_ q =>
          have ho : overF c b a = .let_ q := by unfold overF; simp only [hw, hw2]
          rw [ho] at hq
          walk_at "go"
          refine ⟨sh_let, sh_let, ?_⟩
          generalize he : PyData.eqv _ _ = b1
          obtain rfl := he.symm.trans eq_ll
          walk_at "go"
          exact hq)
    have fin : ∀ bd ad, LI b bd → LI a ad → wpSs G_gone_over (fun x _ w => R x w)
        (.cons (.set 3 (.call 0 (.cons (.attr (.v 0) "old") (.cons (.attr (.attr (.v 0) "old") "purse") (.cons (.b1 .tuple (.v 1)) .nil))) []))
        (.cons (.if_ (.cmp .eq (.ix (.v 3) (.ci 0)) (.cs "stopped")) (.cons (.ret (.v 3)) .nil) .nil)
        (.cons (.set 4 (.call 0 (.cons (.attr (.v 0) "new") (.cons (.call 1 (.cons (.v 0) (.cons (.ix (.v 3) (.ci 1)) .nil)) []) (.cons (.b1 .tuple (.v 2)) .nil))) []))
        (.cons (.ret (.ife (.cmp .eq (.ix (.v 4) (.ci 0)) (.cs "let")) (.v 4) (.tup (.cons (.cs "stopped") (.cons (.bin .add (.b1 .len (.v 1)) (.ix (.v 4) (.ci 1))) (.cons (.ix (.v 4) (.ci 2)) .nil))))))
        .nil))))
        [.val (oC c), .val bd, .val ad, .none, .none, .val (.int 1), .val ad] w { nx := fun _ w => Q .non w, rt := Q } := by
      intro bd ad hb ha
      have hfin := fun x p hx hp hw => fin2 (.val (.int 1)) (.val ad) x p hx hp hw bd ad hb ha
      rcases hb with rfl | rfl <;> (
        walk_at "go"
        refine ⟨c.P, c.V, c.P, b, rfl, rfl, rfl, hv1, ?_⟩
        cases hw : walkF c.V b 0 c.P with
        | stop i l =>
          have ho : overF c b a = .stop i l := by unfold overF; rw [hw]
          rw [ho] at hq
          walk_at "go"
          refine ⟨sh_stopped, sh_stopped, ?_⟩
          generalize he : PyData.eqv _ _ = b1
          obtain rfl := he.symm.trans eq_ss
          walk_at "go"
          exact hq
        | let_ p =>
          have hpl : p.length = c.P.length := walk_len hw
          walk_at "go"
          refine ⟨sh_let, sh_stopped, ?_⟩
          generalize he : PyData.eqv _ _ = b1
          obtain rfl := he.symm.trans eq_ls
          exact hfin _ p rfl hpl hw)
    walk_at "go"
    refine ⟨c, rfl, ?_⟩
    walk_at "go"
    refine ⟨rb, hb1, hb2, hb3, ?_⟩
    walk_at "go"
    refine ⟨ra, ha1, ha2, ha3, ?_⟩
    exact fin _ _ hb ha
end Pr

set_option Elab.async false
set_option linter.all false
set_option maxRecDepth 100000
set_option maxHeartbeats 4000000
namespace Pr
open PySem PySem.Spec PyProof.Rows L2 Py
local macro_rules | `(tactic| walk_at "go") => `(tactic| ((conv => whnf); repeat (first | (refine And.intro rfl ?_; (conv => whnf)) | (refine And.intro (lt900 rfl) ?_; (conv => whnf)) | (refine And.intro (by decide) ?_; (conv => whnf)) | (refine And.intro (le100 rfl) ?_; (conv => whnf)))))
theorem cut_ints (ns : List Int) (k : Option Int) : ∃ ms : List Int, Py.cutD (ns.map D.int) none k = iL ms ∧ ms.length ≤ ns.length := by
  unfold Py.cutD
  refine ⟨(ns.drop (HT.sIx (ns.map D.int).length 0 none)).take (HT.sIx (ns.map D.int).length (ns.map D.int).length k - HT.sIx (ns.map D.int).length 0 none), ?_, ?_⟩
  · rw [iL, List.map_take, List.map_drop]
  · rw [List.length_take, List.length_drop]
    omega
theorem cmulk {i j : Int} (h1 : -(2 ^ 64) < j) (h2 : j < 2 ^ 64) : CMul i j ∨ CMulW i j := .inl (.inr ⟨h1, h2⟩)
theorem pu_law_box : Body G_law_box ir_law_box 1 sp_law_box := by
  intro ds w Q R hl h
  match ds, hl, h with
  | [.scr ns], _, h =>
    obtain ⟨rfl, hns, hq⟩ := h
    walk_at "go"
    obtain ⟨ms, hms, hml⟩ := cut_ints ns (some 60)
    show compL _ (Py.cutD (List.map D.int ns) none (some 60)) [] _ _ _
    rw [hms]
    refine compL_map (env := [.val (.scr ns), .none, .none, .none]) (fun d => match d with | .int i => .int ((if i < 0 then -i else i) % 2147483629) | d => d) (fun d hd nx hnx => ?_) (by rw [List.length_map]; exact Nat.le_trans (Nat.le_trans hml hns) (by decide)) ?_
    · obtain ⟨x, rfl, hx⟩ := mem_iL hd
      walk_at "go"
      exact hnx
    · have e : List.map (fun d => match d with | .int i => .int ((if i < 0 then -i else i) % 2147483629) | d => d) (iL ms) = iL (ms.map fun i => (if i < 0 then -i else i) % 2147483629) := by
        rw [iL, iL, List.map_map, List.map_map]
        rfl
      rw [e]
      generalize ms.map (fun i => (if i < 0 then -i else i) % 2147483629) = cs
      walk_at "go"
      refine forL_ind (fun rest env w' => w' = [] ∧ (∀ d, d ∈ rest → ∃ x : Int, d = .int x) ∧ ∃ (b : Int) (s : Py.Slot), 0 ≤ b ∧ b < 2147483629 ∧ env = [.val (.scr ns), .val (.lst (iL cs)), .val (.int b), s]) ?_ ?_ _ _ _ ⟨rfl, fun d hd => ?_, 90007, .none, by decide, by decide, rfl⟩
      · rintro d rest env w' nx ⟨rfl, hp, b, s, b0, b1, rfl⟩ hnx
        obtain ⟨x, rfl⟩ := hp d (List.mem_cons_self ..)
        walk_at "go"
        refine ⟨cmulk (by decide) (by decide), ?_⟩
        walk_at "go"
        refine ⟨cmulk (by decide) (by decide), ?_⟩
        walk_at "go"
        exact hnx _ _ ⟨rfl, fun d hd => hp d (List.mem_cons_of_mem _ hd), _, _, Int.emod_nonneg _ (by decide), Int.emod_lt_of_pos _ (by decide), rfl⟩
      · rintro env w' ⟨rfl, hp, b, s, b0, b1, rfl⟩
        walk_at "go"
        exact hq _ ⟨cs, b, 0, rfl, by decide, b0, b1⟩
      · obtain ⟨x, rfl, _⟩ := mem_iL hd
        exact ⟨x, rfl⟩
end Pr

set_option Elab.async false
set_option linter.all false
set_option maxRecDepth 100000
set_option maxHeartbeats 4000000
namespace Pr
open PySem PySem.Spec PyProof.Rows L2 Py
local macro_rules | `(tactic| walk_at "go") => `(tactic| ((conv => whnf); repeat (first | (refine And.intro rfl ?_; (conv => whnf)) | (refine And.intro (lt900 rfl) ?_; (conv => whnf)) | (refine And.intro (by decide) ?_; (conv => whnf)) | (refine And.intro (le100 rfl) ?_; (conv => whnf)))))
theorem pu_law_take : Body G_law_take ir_law_take 2 sp_law_take := by
  intro ds w Q R hl h
  match ds, hl, h with
  | [.h 0, .int m], _, h =>
    obtain ⟨⟨cs, b, p, rfl, p0, b0, b1⟩, hm, hq⟩ := h
    have tail : wpSs G_law_take (fun x _ w => R x w)
      (.cons (.set 2 (.ci 0))
      (.cons (.for_ (.n 3) (.range1 (.ife (.cmp .lt (.v 1) (.bin .pow (.ci 10) (.ci 9))) (.ci 2) (.ci 6))) (.cons (.setIx (.v 0) (.ci 1) (.bin .mod (.b1 .int (.bin .add (.bin .mul (.ix (.v 0) (.ci 1)) (.ci 16807)) (.ci 41))) (.ci 2147483629)))
      (.cons (.set 2 (.bin .add (.bin .mul (.v 2) (.ci 2147483629)) (.ix (.v 0) (.ci 1))))
      .nil)))
      (.cons (.ret (.bin .mod (.b1 .int (.bin .fdiv (.v 2) (.ci 97))) (.v 1)))
      .nil))) [.val (.h 0), .val (.int m), .none, .none] [.lst [.lst (iL cs), .int b, .int (p + 1)]] { nx := fun _ w => Q .non w, rt := Q } := by
      walk_at "go"
      refine ⟨⟨by decide, by decide, by decide⟩, ?_⟩
      walk_at "go"
      refine bsplit (fun e => ?_) (fun e => ?_) <;> (
        walk_at "go"
        refine ⟨⟨by decide, by decide⟩, ?_⟩
        refine forL_ind (fun rest env w' => ∃ (b t : Int) (s : Py.Slot), 0 ≤ b ∧ b < 2147483629 ∧ w' = [.lst [.lst (iL cs), .int b, .int (p + 1)]] ∧ env = [.val (.h 0), .val (.int m), .val (.int t), s]) ?_ ?_ _ _ _ ⟨b, 0, .none, b0, b1, rfl, rfl⟩
        · rintro d rest env w' nx ⟨b, t, s, b0, b1, rfl, rfl⟩ hnx
          walk_at "go"
          refine ⟨cmulk (by decide) (by decide), ?_⟩
          walk_at "go"
          refine ⟨trivial, ?_⟩
          walk_at "go"
          refine ⟨cmulk (by decide) (by decide), ?_⟩
          walk_at "go"
          exact hnx _ _ ⟨_, _, _, Int.emod_nonneg _ (by decide), Int.emod_lt_of_pos _ (by decide), rfl, rfl⟩
        · rintro env w' ⟨b, t, s, b0, b1, rfl, rfl⟩
          walk_at "go"
          refine ⟨⟨by decide, by decide⟩, ?_⟩
          walk_at "go"
          exact ⟨hm, hq _ _ (Int.emod_nonneg _ (by omega)) (Int.emod_lt_of_pos _ hm) ⟨cs, b, p + 1, rfl, by omega, b0, b1⟩⟩)
    walk_at "go"
    refine ⟨trivial, ?_⟩
    walk_at "go"
    refine bsplit (fun e => ?_) (fun e => ?_)
    · walk_at "go"
      refine bsplit (fun e2 => ?_) (fun e2 => ?_)
      · have hp : p.toNat < cs.length := by
          have := of_decide_eq_true e
          rw [iL_len] at this
          omega
        walk_at "go"
        have e3 : p + 1 - 1 = ((p.toNat : Nat) : Int) := by omega
        rw [e3, at_iL hp]
        walk_at "go"
        exact ⟨hm, hq _ _ (Int.emod_nonneg _ (by omega)) (Int.emod_lt_of_pos _ hm) ⟨cs, b, p + 1, rfl, by omega, b0, b1⟩⟩
      · exact tail
    · exact tail
theorem pu_law_pick : Body G_law_pick ir_law_pick 2 sp_law_pick := by
  intro ds w Q R hl h
  match ds, hl, h with
  | [.h 0, .lst xs], _, h =>
    obtain ⟨hw, hne, hlen, hq⟩ := h
    have hpos : 0 < xs.length := List.length_pos_iff.mpr hne
    walk_at "go"
    refine ⟨hw, by omega, ?_⟩
    intro r w' r0 r1 hw'
    have hr : r = ((r.toNat : Nat) : Int) := by omega
    have hl : r.toNat < xs.length := by omega
    walk_at "go"
    rw [hr, atI_nat hl, List.getElem?_eq_getElem hl]
    exact hq _ _ (List.getElem_mem hl) hw'
theorem pu_law_is_int : Body G_law_is_int ir_law_is_int 1 sp_law_is_int := by
  intro ds w Q R hl h
  match ds, hl, h with
  | [.int i], _, h =>
    walk_at "go"
    exact h
theorem pu_law_number : Body G_law_number ir_law_number 2 sp_law_number := by
  intro ds w Q R hl h
  match ds, hl, h with
  | [.h 0, .int m], _, h =>
    obtain ⟨hw, hm, hq⟩ := h
    walk_at "go"
    refine ⟨hw, by omega, ?_⟩
    intro r w' r0 r1 hw'
    walk_at "go"
    refine ⟨hw', (fun z => nomatch z), by simp, ?_⟩
    intro x w'' hx hw''
    have : ∃ i : Int, x = .int i ∧ 0 ≤ i ∧ i ≤ max m 1 := by
      simp only [List.mem_cons, List.not_mem_nil, or_false] at hx
      rcases hx with rfl | rfl | rfl | rfl | rfl
      · exact ⟨_, rfl, by omega, by omega⟩
      · exact ⟨_, rfl, by omega, by omega⟩
      · exact ⟨_, rfl, by omega, by omega⟩
      · exact ⟨_, rfl, by omega, by omega⟩
      · exact ⟨_, rfl, by omega, by omega⟩
    obtain ⟨i, rfl, i0, i1⟩ := this
    walk_at "go"
    exact hq _ _ i0 i1 hw''
end Pr

set_option Elab.async false
set_option linter.all false
set_option maxRecDepth 100000
set_option maxHeartbeats 4000000
namespace Pr
open PySem PySem.Spec PyProof.Rows L2 Py
local macro_rules | `(tactic| walk_at "go") => `(tactic| ((conv => whnf); repeat (first | (refine And.intro rfl ?_; (conv => whnf)) | (refine And.intro (lt900 rfl) ?_; (conv => whnf)) | (refine And.intro (by decide) ?_; (conv => whnf)) | (refine And.intro (le100 rfl) ?_; (conv => whnf)))))
theorem tr_tI {n : Nat} {P : List Int} (h : P.length ≤ 1000) : Tr (n + 1) (tI P) := .tup (fun x hx => by
  obtain ⟨y, rfl, _⟩ := mem_iL hx
  exact .int y) (by rw [List.length_map]; exact h)
theorem tr_tM {n : Nat} {M : List (List Int)} (h : M.length ≤ 1000) (h2 : ∀ l, l ∈ M → l.length ≤ 1000) : Tr (n + 2) (tM M) := .tup (fun x hx => by
  obtain ⟨y, hy, rfl⟩ := List.mem_map.mp hx
  exact tr_tI (h2 y hy)) (by rw [List.length_map]; exact h)
theorem tr_tVis {n : Nat} {v : Vis} (h1 : v.1.length ≤ 1000) (h2 : v.2.length ≤ 1000) : Tr (n + 2) (tVis v) := .tup (fun x hx => by
  rcases List.mem_cons.mp hx with rfl | hx
  · exact tr_tI h1
  · rcases List.mem_cons.mp hx with rfl | hx
    · exact tr_tI h2
    · cases hx) (by show (2 : Nat) ≤ 1000; decide)
theorem tr_tV {n : Nat} {V : List Vis} (h : V.length ≤ 1000) (h2 : ∀ v, v ∈ V → v.1.length ≤ 1000 ∧ v.2.length ≤ 1000) : Tr (n + 3) (tV V) := .tup (fun x hx => by
  obtain ⟨y, hy, rfl⟩ := List.mem_map.mp hx
  exact tr_tVis (h2 y hy).1 (h2 y hy).2) (by rw [List.length_map]; exact h)
theorem lss_iL : ∀ {n : Nat} {P : List Int} {ys : List D}, Lss n (iL P) ys → ys = iL P
  | _, [], _, h => by cases h; rfl
  | n, x :: P, _, h => by
    cases h with
    | cons h t =>
      cases h
      rw [lss_iL t]
      rfl
theorem ls_tI {n : Nat} {P : List Int} {d : D} (h : Ls n (tI P) d) : LI P d := by
  cases h with
  | tup h => rw [lss_iL h]; exact .inl rfl
  | lst h => rw [lss_iL h]; exact .inr rfl
theorem lss_map {α : Type} {f : α → D} {r : α → D → Prop} {n : Nat} (hf : ∀ a d, Ls n (f a) d → r a d) : ∀ {l : List α} {ys : List D}, Lss n (l.map f) ys → All2 r l ys
  | [], _, h => by cases h; exact .nil
  | x :: l, _, h => by
    cases h with
    | cons h t => exact .cons (hf _ _ h) (lss_map hf t)
theorem ls_tM {n : Nat} {M : List (List Int)} {d : D} (h : Ls n (tM M) d) : LM M d := by
  cases h with
  | tup h => exact ⟨_, .inl rfl, lss_map (r := LI) (fun _ _ h => ls_tI h) h⟩
  | lst h => exact ⟨_, .inr rfl, lss_map (r := LI) (fun _ _ h => ls_tI h) h⟩
theorem ls_tVis {n : Nat} {v : Vis} {d : D} (h : Ls n (tVis v) d) : LVis v d := by
  cases h with
  | tup h =>
    cases h with
    | cons h t => cases t with
      | cons h2 t => cases t; exact ⟨_, _, .inl rfl, ls_tI h, ls_tI h2⟩
  | lst h =>
    cases h with
    | cons h t => cases t with
      | cons h2 t => cases t; exact ⟨_, _, .inr rfl, ls_tI h, ls_tI h2⟩
theorem ls_tV {n : Nat} {V : List Vis} {d : D} (h : Ls n (tV V) d) : LV V d := by
  cases h with
  | tup h => exact ⟨_, .inl rfl, lss_map (r := LVis) (fun _ _ h => ls_tVis h) h⟩
  | lst h => exact ⟨_, .inr rfl, lss_map (r := LVis) (fun _ _ h => ls_tVis h) h⟩
theorem okD_tr {n : Nat} {P : List Int} {V : List Vis} (h : okD P V) : Tr (n + 1) (tI P) ∧ Tr (n + 3) (tV V) := by
  obtain ⟨h1, h2, h3, h4, h5⟩ := h
  refine ⟨tr_tI (by omega), tr_tV (by omega) fun v hv => ?_⟩
  have := h5 v hv
  exact ⟨by rw [this.1]; omega, by rw [this.2.1]; omega⟩
theorem pu_law_doors : Body G_law_doors ir_law_doors 3 sp_law_doors := by
  intro ds w Q R hl h
  match ds, hl, h with
  | [.h 0, pd, vd], _, h =>
    obtain ⟨P, V, rfl, rfl, hok, hw, hq⟩ := h
    walk_at "go"
    refine ⟨hw, (okD_tr hok).1, ?_⟩
    intro p' w1 hp hw1
    walk_at "go"
    refine ⟨hw1, (okD_tr hok).2, ?_⟩
    intro v' w2 hv hw2
    walk_at "go"
    exact ⟨P, V, ls_tI hp, ls_tV hv, hok, hq _ hw2⟩
theorem pu_law_are_doors : Body G_law_are_doors ir_law_are_doors 3 sp_law_are_doors := by
  intro ds w Q R hl h
  match ds, hl, h with
  | [o, pd, vd], _, h =>
    obtain ⟨P, V, rfl, rfl, rfl, hok, hq⟩ := h
    walk_at "go"
    refine ⟨(okD_tr hok).1, ?_⟩
    walk_at "go"
    refine ⟨(okD_tr hok).2, ?_⟩
    walk_at "go"
    exact hq
end Pr

set_option Elab.async false
set_option linter.all false
set_option maxRecDepth 100000
set_option maxHeartbeats 4000000
namespace Pr
open PySem PySem.Spec PyProof.Rows L2 Py
local macro_rules | `(tactic| walk_at "go") => `(tactic| ((conv => whnf); repeat (first | (refine And.intro rfl ?_; (conv => whnf)) | (refine And.intro (lt900 rfl) ?_; (conv => whnf)) | (refine And.intro (by decide) ?_; (conv => whnf)) | (refine And.intro (le100 rfl) ?_; (conv => whnf)))))
theorem okC_tr {n : Nat} {c : Ch} (h : okC c) : Tr (n + 2) (tM c.r) ∧ Tr (n + 1) (tI c.x) := by
  obtain ⟨h1, h2, h3, ⟨h4, h5⟩, h6, h7⟩ := h
  have a1 := h1.1
  have a2 := h2.1
  refine ⟨tr_tM (by omega) fun l hl => ?_, tr_tI (by omega)⟩
  rw [(h5 l hl).1]
  omega
theorem pu_law_change : Body G_law_change ir_law_change 2 sp_law_change := by
  intro ds w Q R hl h
  match ds, hl, h with
  | [.h 0, cd], _, h =>
    obtain ⟨c, rfl, hok, h10, hw, hq⟩ := h
    walk_at "go"
    refine ⟨c.P, c.V, rfl, rfl, hok.1, hw, ?_⟩
    intro w1 hw1
    walk_at "go"
    refine ⟨c.P', c.V', rfl, rfl, hok.2.1, hw1, ?_⟩
    intro w2 hw2
    walk_at "go"
    refine ⟨hw2, (okC_tr hok).1, ?_⟩
    intro r' w3 hr hw3
    walk_at "go"
    refine ⟨hw3, (okC_tr hok).2, ?_⟩
    intro x' w4 hx hw4
    walk_at "go"
    exact ⟨c, rfl, rfl, ls_tM hr, ls_tI hx, hok, hq _ hw4⟩
theorem pu_law_is_change : Body G_law_is_change ir_law_is_change 2 sp_law_is_change := by
  intro ds w Q R hl h
  match ds, hl, h with
  | [o, cd], _, h =>
    obtain ⟨c, rfl, rfl, hok, hq⟩ := h
    walk_at "go"
    refine ⟨c.P, c.V, rfl, rfl, rfl, hok.1, ?_⟩
    walk_at "go"
    refine ⟨c.P', c.V', rfl, rfl, rfl, hok.2.1, ?_⟩
    walk_at "go"
    refine ⟨(okC_tr hok).1, ?_⟩
    walk_at "go"
    refine ⟨(okC_tr hok).2, ?_⟩
    walk_at "go"
    exact hq
end Pr

set_option Elab.async false
set_option linter.all false
set_option maxRecDepth 100000
set_option maxHeartbeats 4000000
namespace Pr
open PySem PySem.Spec PyProof.Rows L2 Py
local macro_rules | `(tactic| walk_at "go") => `(tactic| ((conv => whnf); repeat (first | (refine And.intro rfl ?_; (conv => whnf)) | (refine And.intro (lt900 rfl) ?_; (conv => whnf)) | (refine And.intro (by decide) ?_; (conv => whnf)) | (refine And.intro (le100 rfl) ?_; (conv => whnf)))))
theorem pu_law_walk_over : Body G_law_walk_over ir_law_walk_over 3 sp_law_walk_over := by
  intro ds w Q R hl h
  match ds, hl, h with
  | [cd, bd, ad], _, h =>
    obtain ⟨c, b, a, rfl, rfl, rfl, hok, hrb, hra, hq⟩ := h
    have hV : c.V'.length = c.V.length := hok.2.2.1
    have hv1 : okW c.P.length c.V c.P b := ⟨rfl, hok.1.1, fun v hv => ⟨(hok.1.2.2.2.2 v hv).1, (hok.1.2.2.2.2 v hv).2.1⟩, hrb.2, hrb.1⟩
    have hv2 : ∀ p, okW c.P'.length c.V' (exF c.r c.x p) a := fun p => ⟨by unfold exF; rw [List.length_map, List.length_range]; exact hok.2.2.2.2.1, hok.2.1.1, fun v hv => ⟨(hok.2.1.2.2.2.2 v hv).1, (hok.2.1.2.2.2.2 v hv).2.1⟩, by rw [hV]; exact hra.2, hra.1⟩
    walk_at "go"
    refine ⟨c.P.length, c.V, c.P, b, rfl, rfl, rfl, hv1, ?_⟩
    cases hw : walkF c.V b 0 c.P with
    | stop i l =>
      have ho : overF c b a = .stop i l := by unfold overF; rw [hw]
      rw [ho] at hq
      walk_at "go"
      refine ⟨sh_stopped, sh_stopped, ?_⟩
      generalize he : PyData.eqv _ _ = b1
      obtain rfl := he.symm.trans eq_ss
      walk_at "go"
      exact hq
    | let_ p =>
      have hpl : p.length = c.P.length := walk_len hw
      walk_at "go"
      refine ⟨sh_let, sh_stopped, ?_⟩
      generalize he : PyData.eqv _ _ = b1
      obtain rfl := he.symm.trans eq_ls
      walk_at "go"
      refine ⟨c.r, c.x, p, rfl, rfl, rfl, by rw [hok.2.2.2.1.1, hpl], by rw [hpl]; exact hok.1.1, by rw [hok.2.2.2.2.1]; exact hok.2.1.1, fun l hl => ?_, ?_⟩
      · rw [hok.2.2.2.2.1]
        exact hok.2.2.2.1.2 l hl
      walk_at "go"
      refine ⟨c.P'.length, c.V', exF c.r c.x p, a, rfl, rfl, rfl, hv2 p, ?_⟩
      cases hw2 : walkF c.V' a 0 (exF c.r c.x p) with
      | stop i l =>
        have ho : overF c b a = .stop ((b.length : Int) + i) l := by unfold overF; simp only [hw, hw2]
        rw [ho] at hq
        walk_at "go"
        refine ⟨sh_stopped, sh_let, ?_⟩
        generalize he : PyData.eqv _ _ = b1
        obtain rfl := he.symm.trans eq_sl
        walk_at "go"
        rw [iL_len]
        exact hq
      | let_ q =>
        have ho : overF c b a = .let_ q := by unfold overF; simp only [hw, hw2]
        rw [ho] at hq
        walk_at "go"
        refine ⟨sh_let, sh_let, ?_⟩
        generalize he : PyData.eqv _ _ = b1
        obtain rfl := he.symm.trans eq_ll
        walk_at "go"
        exact hq
end Pr

set_option Elab.async false
set_option linter.all false
set_option maxRecDepth 100000
set_option maxHeartbeats 4000000
namespace Pr
open PySem PySem.Spec PyProof.Rows L2 Py
local macro_rules | `(tactic| walk_at "go") => `(tactic| ((conv => whnf); repeat (first | (refine And.intro rfl ?_; (conv => whnf)) | (refine And.intro (lt900 rfl) ?_; (conv => whnf)) | (refine And.intro (by decide) ?_; (conv => whnf)) | (refine And.intro (le100 rfl) ?_; (conv => whnf)))))
theorem le101 : 101 ≤ sizeLine := by decide
/-- a comprehension over range(n) whose items are drawn -/
theorem compL_draw {step : D → Fm → W → (Option D → Fm → W → Prop) → Prop} {Q : List D → Fm → W → Prop} {env : Fm} {w : W} (P : D → Prop) {n : Nat} (hn : n ≤ 100) (hw : BoxW w)
    (hs : ∀ i w nx, i < n → BoxW w → (∀ y w', P y → BoxW w' → nx (some y) env w') → step (.int (i : Nat)) env w nx)
    (hd : ∀ acc w, acc.length = n → (∀ y, y ∈ acc → P y) → BoxW w → Q acc env w) : compL step (numI 0 n) [] env w Q := by
  refine compL_ind (fun rest acc env' w' => env' = env ∧ BoxW w' ∧ (∀ y, y ∈ acc → P y) ∧ ∃ i m, rest = numI i m ∧ i + m = n ∧ acc.length = i) ?_ ?_ _ _ _ _ ?_ ⟨rfl, hw, fun y hy => (by cases hy), 0, n, rfl, by omega, rfl⟩
  · rintro d rest acc env' w' nx ⟨rfl, hw, hp, i, m, hr, him, hl⟩ h1 h2
    cases m with
    | zero => cases hr
    | succ m =>
      cases hr
      refine hs i w' nx (by omega) hw fun y w'' hy hw'' => h2 y _ _ (by have : sizeLine = sizeLine := rfl; exact Nat.lt_of_lt_of_le (by omega : acc.length < 101) (le101)) ⟨rfl, hw'', fun z hz => ?_, i + 1, m, rfl, by omega, by rw [List.length_append, hl]; rfl⟩
      rcases List.mem_append.mp hz with h | h
      · exact hp z h
      · rw [List.mem_singleton.mp h]; exact hy
  · rintro acc env' w' ⟨rfl, hw, hp, i, m, hr, him, hl⟩
    cases m with
    | succ m => cases hr
    | zero => exact hd acc w' (by omega) hp hw
  · rw [numI_range, List.length_map, List.length_range, List.length_nil]
    exact Nat.le_trans (by omega : 0 + n ≤ 101) le101
end Pr

set_option Elab.async false
set_option linter.all false
set_option maxRecDepth 100000
set_option maxHeartbeats 4000000
namespace Pr
open PySem PySem.Spec PyProof.Rows L2 Py
local macro_rules | `(tactic| walk_at "go") => `(tactic| ((conv => whnf); repeat (first | (refine And.intro rfl ?_; (conv => whnf)) | (refine And.intro (lt900 rfl) ?_; (conv => whnf)) | (refine And.intro (by decide) ?_; (conv => whnf)) | (refine And.intro (le100 rfl) ?_; (conv => whnf)))))
theorem all_ints {P : Int → Prop} : ∀ {acc : List D}, (∀ y, y ∈ acc → ∃ i : Int, y = .int i ∧ P i) → ∃ l : List Int, acc = iL l ∧ ∀ i, i ∈ l → P i
  | [], _ => ⟨[], rfl, fun _ h => nomatch h⟩
  | y :: acc, h => by
    obtain ⟨i, rfl, hi⟩ := h y (List.mem_cons_self ..)
    obtain ⟨l, rfl, hl⟩ := all_ints fun z hz => h z (List.mem_cons_of_mem _ hz)
    refine ⟨i :: l, rfl, fun j hj => ?_⟩
    rcases List.mem_cons.mp hj with rfl | hj
    · exact hi
    · exact hl j hj
theorem pu_law_visits : Body G_law_visits ir_law_visits 4 sp_law_visits := by
  intro ds w Q R hl h
  match ds, hl, h with
  | [.h 0, .int k, .int n, .int m], _, h =>
    obtain ⟨kn, nn, rfl, rfl, hw, k1, k6, n3, m0, m1, hq⟩ := h
    walk_at "go"
    refine ⟨sm60 (by omega), ?_⟩
    rw [rng_num]
    refine forL_ind (fun rest env w' => BoxW w' ∧ ∃ (i j : Nat) (V : List Vis) (s1 : Py.Slot), rest = numI i j ∧ i + j = kn ∧ V.length = i ∧ (∀ v, v ∈ V → v.1.length = nn ∧ v.2.length = nn ∧ In 0 (max m 1) v.1 ∧ In 0 (max m 1) v.2) ∧
      env = [.val (.h 0), .val (.int kn), .val (.int nn), .val (.int m), .own (.lst (V.map tVis)), s1, .none]) ?_ ?_ _ _ _ ⟨hw, 0, kn, [], .none, rfl, by omega, rfl, fun _ h => (nomatch h), rfl⟩
    · rintro d rest env w' nx ⟨hw, i, j, V, s1, hr, hij, hV, hv, rfl⟩ hnx
      cases j with
      | zero => cases hr
      | succ j =>
        cases hr
        walk_at "go"
        refine ⟨sm60 (by omega), ?_⟩
        rw [rng_num]
        walk_at "go"
        refine compL_draw (n := nn) (env := [.val (.h 0), .val (.int kn), .val (.int nn), .val (.int m), .own (.lst (V.map tVis)), .val (.int i), .none]) (fun y => ∃ x : Int, y = .int x ∧ 0 ≤ x ∧ x ≤ max m 1) (by omega) hw (fun i w nx hi hw hnx => ?_) ?_
        · walk_at "go"
          refine ⟨hw, m0, ?_⟩
          intro r w1 r0 r1 hw1
          walk_at "go"
          exact hnx _ _ ⟨r, rfl, r0, r1⟩ hw1
        intro acc w1 hacc hp hw1
        obtain ⟨a1, rfl, ha1⟩ := all_ints hp
        walk_at "go"
        refine ⟨sm60 (by omega), ?_⟩
        rw [rng_num]
        refine compL_draw (n := nn) (env := [.val (.h 0), .val (.int kn), .val (.int nn), .val (.int m), .own (.lst (V.map tVis)), .val (.int i), .none]) (fun y => ∃ x : Int, y = .int x ∧ 0 ≤ x ∧ x ≤ max m 1) (by omega) hw1 (fun i w nx hi hw hnx => ?_) ?_
        · walk_at "go"
          refine ⟨hw, m0, ?_⟩
          intro r w1 r0 r1 hw1
          walk_at "go"
          exact hnx _ _ ⟨r, rfl, r0, r1⟩ hw1
        intro acc w2 hacc2 hp2 hw2
        obtain ⟨a2, rfl, ha2⟩ := all_ints hp2
        walk_at "go"
        have hsz : (V.map tVis).length < sizeLine := by
          rw [List.length_map]
          exact Nat.lt_of_lt_of_le (by omega : V.length < 101) le101
        refine ⟨hsz, ?_⟩
        walk_at "go"
        refine hnx _ _ ⟨hw2, i + 1, j, V ++ [(a1, a2)], .val (.int i), rfl, by omega, by rw [List.length_append, hV]; rfl, fun v hv' => ?_, ?_⟩
        · rcases List.mem_append.mp hv' with h | h
          · exact hv v h
          · rw [List.mem_singleton.mp h]
            rw [List.length_map] at hacc hacc2
            exact ⟨hacc, hacc2, ha1, ha2⟩
        · rw [List.map_append]
          rfl
    · rintro env w' ⟨hw, i, j, V, s1, hr, hij, hV, hv, rfl⟩
      cases j with
      | succ j => cases hr
      | zero =>
        walk_at "go"
        exact hq V _ ⟨by omega, hv⟩ hw
end Pr

set_option Elab.async false
set_option linter.all false
set_option maxRecDepth 100000
set_option maxHeartbeats 4000000
namespace Pr
open PySem PySem.Spec PyProof.Rows L2 Py
local macro_rules | `(tactic| walk_at "go") => `(tactic| ((conv => whnf); repeat (first | (refine And.intro rfl ?_; (conv => whnf)) | (refine And.intro (lt900 rfl) ?_; (conv => whnf)) | (refine And.intro (by decide) ?_; (conv => whnf)) | (refine And.intro (fun _ => by decide) ?_; (conv => whnf)) | (refine And.intro (le100 rfl) ?_; (conv => whnf)))))
theorem lss_snoc : ∀ {n : Nat} {xs ys : List D} {x y : D}, Lss n xs ys → Ls n x y → Lss n (xs ++ [x]) (ys ++ [y])
  | _, _, _, _, _, .nil, h => .cons h .nil
  | _, _, _, _, _, .cons a t, h => .cons a (lss_snoc t h)
theorem lss_len : ∀ {n : Nat} {xs ys : List D}, Lss n xs ys → xs.length = ys.length
  | _, _, _, .nil => rfl
  | _, _, _, .cons _ t => congrArg Nat.succ (lss_len t)
theorem le1000 {n : Nat} (h : n ≤ 1000) : n ≤ sizeLine := Nat.le_trans h (by decide)
theorem lt1000 {n : Nat} (h : n < 1000) : n < sizeLine := Nat.lt_of_lt_of_le h (by decide)
theorem pu_law_loose {sp0 : Py.Spec} {n : Nat} (h0 : n = 0 ∨ ∃ m, n = m + 1 ∧ sp0 = sp_law_looseN m) : Body (G_law_loose sp0) ir_law_loose 2 (sp_law_looseN n) := by
  intro ds w Q R hl h
  match ds, hl, h with
  | [.h 0, v], _, h =>
    obtain ⟨hw, ht, hq⟩ := h
    cases ht with
    | int i => walk_at "go"; exact hq _ _ (.int i) hw
    | non => walk_at "go"; exact hq _ _ .non hw
    | str s hs => walk_at "go"; exact hq _ _ (.str s) hw
    | @tup m xs hx hlen =>
      rcases h0 with h0 | ⟨m', h0, rfl⟩
      · cases h0
      cases h0
      walk_at "go"
      refine compL_ind (fun rest acc env w' => env = [.val (.h 0), .val (.tup xs), .none, .none] ∧ BoxW w' ∧ ∃ done, xs = done ++ rest ∧ Lss m done acc) ?_ ?_ _ _ _ _ (by rw [List.length_nil, Nat.zero_add]; exact le1000 hlen) ⟨rfl, hw, [], rfl, .nil⟩
      · rintro d rest acc env w' nx ⟨rfl, hw, done, hdone, hls⟩ h1 h2
        have hd : d ∈ xs := by rw [hdone]; exact List.mem_append_right _ (List.mem_cons_self ..)
        walk_at "go"
        refine ⟨hw, hx d hd, ?_⟩
        intro v' w'' hv hw''
        walk_at "go"
        refine h2 _ _ _ (lt1000 ?_) ⟨rfl, hw'', done ++ [d], by rw [hdone, List.append_assoc]; rfl, lss_snoc hls hv⟩
        rw [← lss_len hls]
        rw [hdone, List.length_append, List.length_cons] at hlen
        omega
      · rintro acc env w' ⟨rfl, hw, done, hdone, hls⟩
        rw [List.append_nil] at hdone
        subst hdone
        walk_at "go"
        refine ⟨hw, by decide, ?_⟩
        intro r w'' r0 r1 hw''
        walk_at "go"
        refine bsplit (fun e => ?_) (fun e => ?_)
        · walk_at "go"
          exact hq _ _ (.lst hls) hw''
        · walk_at "go"
          exact hq _ _ (.tup hls) hw''
theorem eqv_int_self {i : Int} : PyData.eqv (toP (.int i)) (toP (.int i)) = true := beq_self_eq_true i
theorem eqv_str_self {i : Str} : PyData.eqv (toP (.str i)) (toP (.str i)) = true := beq_self_eq_true i
theorem pu_law_same {sp0 : Py.Spec} {n : Nat} (h0 : n = 0 ∨ ∃ m, n = m + 1 ∧ sp0 = sp_law_sameN m) : Body (G_law_same sp0) ir_law_same 2 (sp_law_sameN n) := by
  intro ds w Q R hl h
  match ds, hl, h with
  | [a, b], _, h =>
    obtain ⟨rfl, ht, hq⟩ := h
    cases ht with
    | int i =>
      walk_at "go"
      rw [eqv_int_self]
      exact hq
    | non => walk_at "go"; exact hq
    | str s hs =>
      walk_at "go"
      refine ⟨hs, hs, ?_⟩
      rw [eqv_str_self]
      exact hq
    | @tup m xs hx hlen =>
      rcases h0 with h0 | ⟨m', h0, rfl⟩
      · cases h0
      cases h0
      walk_at "go"
      generalize he : PyData.eqv _ _ = c1
      obtain rfl := he.symm.trans eqv_int_self
      walk_at "go"
      refine ⟨sm60 hlen, ?_⟩
      rw [rng_nat]
      refine compL_rng (env := [.val (.tup xs), .val (.tup xs), .none]) (fun i => none) (le1000 hlen) (fun i nx hi hnx => ?_) ?_
      · walk_at "go"
        rw [atI_nat hi]
        rw [List.getElem?_eq_getElem hi]
        walk_at "go"
        rw [atI_nat hi]
        rw [List.getElem?_eq_getElem hi]
        walk_at "go"
        refine ⟨hx _ (List.getElem_mem hi), ?_⟩
        walk_at "go"
        exact hnx
      · have e : (List.range xs.length).filterMap (fun _ => (none : Option D)) = [] := by
          rw [List.filterMap_eq_nil_iff]
          exact fun _ _ => rfl
        rw [e]
        walk_at "go"
        exact hq
end Pr

set_option Elab.async false
set_option linter.all false
set_option maxRecDepth 100000
set_option maxHeartbeats 4000000
namespace Pr
open PySem PySem.Spec PyProof.Rows L2 Py
local macro_rules | `(tactic| walk_at "go") => `(tactic| ((conv => whnf); repeat (first | (refine And.intro rfl ?_; (conv => whnf)) | (refine And.intro (lt900 rfl) ?_; (conv => whnf)) | (refine And.intro (by decide) ?_; (conv => whnf)) | (refine And.intro (fun _ => by decide) ?_; (conv => whnf)) | (refine And.intro (le100 rfl) ?_; (conv => whnf)))))

/-- a comprehension whose items have P, over a state that keeps I -/
theorem compL_P {step : D → Fm → W → (Option D → Fm → W → Prop) → Prop} {Q : List D → Fm → W → Prop} {env : Fm} {w : W} (I : W → Prop) (P : D → Prop) {ds : List D} (hn : ds.length ≤ sizeLine) (hw : I w)
    (hs : ∀ d w nx, d ∈ ds → I w → (∀ y w', P y → I w' → nx (some y) env w') → step d env w nx)
    (hd : ∀ acc w, acc.length = ds.length → (∀ y, y ∈ acc → P y) → I w → Q acc env w) : compL step ds [] env w Q := by
  refine compL_ind (fun rest acc env' w' => env' = env ∧ I w' ∧ (∀ y, y ∈ acc → P y) ∧ (∀ d, d ∈ rest → d ∈ ds) ∧ acc.length + rest.length = ds.length) ?_ ?_ _ _ _ _ ?_ ⟨rfl, hw, fun y hy => (nomatch hy), fun _ h => h, by simp⟩
  · rintro d rest acc env' w' nx ⟨rfl, hw, hp, hr, hl⟩ h1 h2
    refine hs d w' nx (hr d (List.mem_cons_self ..)) hw fun y w'' hy hw'' => h2 y _ _ ?_ ⟨rfl, hw'', fun z hz => ?_, fun x hx => hr x (List.mem_cons_of_mem _ hx), ?_⟩
    · rw [List.length_cons] at hl
      omega
    · rcases List.mem_append.mp hz with h | h
      · exact hp z h
      · rw [List.mem_singleton.mp h]; exact hy
    · rw [List.length_append]
      rw [List.length_cons] at hl
      rw [List.length_singleton]
      omega
  · rintro acc env' w' ⟨rfl, hw, hp, hr, hl⟩
    exact hd acc w' hl hp hw
  · rw [List.length_nil, Nat.zero_add]
    exact hn
theorem numI_len (i m : Nat) : (numI i m).length = m := by rw [numI_range, List.length_map, List.length_range]
theorem numI_mem {i m : Nat} {d : D} (h : d ∈ numI i m) : ∃ j : Nat, d = .int (j : Nat) ∧ i ≤ j ∧ j < i + m := by
  rw [numI_range] at h
  obtain ⟨j, hj, rfl⟩ := List.mem_map.mp h
  have := List.mem_range.mp hj
  exact ⟨i + j, rfl, by omega, by omega⟩
def eOk (s : Nat) (e : D) : Prop := e = .non ∨ ∃ i : Int, e = .int i ∧ 0 ≤ i ∧ i < s
theorem pu_law_rows : Body G_law_rows ir_law_rows 3 sp_law_rows := by
  intro ds w Q R hl h
  match ds, hl, h with
  | [.h 0, .int k, .int s], _, h =>
    obtain ⟨kn, sn, rfl, rfl, hw, k1, k6, s1, s40, hq⟩ := h
    walk_at "go"
    refine ⟨sm60 (by omega), ?_⟩
    rw [rng_num]
    refine forL_ind (fun rest env w' => BoxW w' ∧ ∃ (i j : Nat) (V : List D) (s1 : Py.Slot), rest = numI i j ∧ i + j = sn ∧ V.length = i ∧ (∀ v, v ∈ V → ∃ es, v = .tup es ∧ es.length = kn ∧ ∀ e, e ∈ es → eOk sn e) ∧
      env = [.val (.h 0), .val (.int kn), .val (.int sn), .own (.lst V), s1, .none]) ?_ ?_ _ _ _ ⟨hw, 0, sn, [], .none, rfl, by omega, rfl, fun _ h => (nomatch h), rfl⟩
    · rintro d rest env w' nx ⟨hw, i, j, V, s1, hr, hij, hV, hv, rfl⟩ hnx
      cases j with
      | zero => cases hr
      | succ j =>
        cases hr
        walk_at "go"
        refine ⟨sm60 (by omega), ?_⟩
        rw [rng_num]
        refine compL_P (env := [.val (.h 0), .val (.int kn), .val (.int sn), .own (.lst V), .val (.int i), .none]) BoxW (eOk sn) (by rw [numI_len]; exact le6 k6) hw (fun d w nx hd hw hnx => ?_) ?_
        · obtain ⟨x, rfl, _, _⟩ := numI_mem hd
          walk_at "go"
          refine ⟨hw, by omega, ?_⟩
          intro r w1 r0 r1 hw1
          walk_at "go"
          refine ⟨by omega, ?_⟩
          walk_at "go"
          refine ⟨hw1, (fun z => nomatch z), by simp, ?_⟩
          intro y w2 hy hw2
          walk_at "go"
          refine hnx _ _ ?_ hw2
          simp only [List.mem_cons, List.not_mem_nil, or_false] at hy
          rcases hy with rfl | rfl | rfl
          · exact .inl rfl
          · exact .inr ⟨_, rfl, r0, r1⟩
          · exact .inr ⟨_, rfl, Int.emod_nonneg _ (by omega), Int.emod_lt_of_pos _ (by omega)⟩
        intro acc w1 hacc hp hw1
        rw [numI_len] at hacc
        walk_at "go"
        have hsz : V.length < sizeLine := lt1000 (by omega)
        refine ⟨hsz, ?_⟩
        walk_at "go"
        refine hnx _ _ ⟨hw1, i + 1, j, V ++ [.tup acc], .val (.int i), rfl, by omega, by rw [List.length_append, hV]; rfl, fun v hv' => ?_, rfl⟩
        rcases List.mem_append.mp hv' with h | h
        · exact hv v h
        · rw [List.mem_singleton.mp h]
          exact ⟨acc, rfl, hacc, hp⟩
    · rintro env w' ⟨hw, i, j, V, s1, hr, hij, hV, hv, rfl⟩
      cases j with
      | succ j => cases hr
      | zero =>
        walk_at "go"
        exact hq V _ ⟨by omega, hv⟩ hw
theorem pu_law_hall : Body G_law_hall ir_law_hall 1 sp_law_hall := by
  intro ds w Q R hl h
  match ds, hl, h with
  | [.int s], _, h =>
    obtain ⟨n, rfl, n1, n5, hq⟩ := h
    have e1 : ((n : Nat) : Int) + 1 = ((n + 1 : Nat) : Int) := by omega
    walk_at "go"
    rw [e1]
    refine ⟨sm60 (by omega), ?_⟩
    rw [rng_num]
    refine compL_P (env := [.val (.int n), .none, .none]) (fun w' => w' = w) (fun y => ∃ es, y = .tup es ∧ es.length = 2 ∧ ∀ e, e ∈ es → eOk (n + 1) e) (by rw [numI_len]; exact le6 (by omega)) rfl (fun d w' nx hd hw hnx => ?_) ?_
    · obtain ⟨x, rfl, _, x1⟩ := numI_mem hd
      subst hw
      have fin : ∀ a b, eOk (n + 1) a → eOk (n + 1) b → nx (some (.tup [a, b])) [.val (.int n), .none, .none] w' := fun a b ha hb => hnx _ _ ⟨_, rfl, rfl, fun e he => by
        simp only [List.mem_cons, List.not_mem_nil, or_false] at he
        rcases he with rfl | rfl
        · exact ha
        · exact hb⟩ rfl
      walk_at "go"
      refine bsplit (fun e => ?_) (fun e => ?_)
      · have := of_decide_eq_true e
        walk_at "go"
        refine bsplit (fun e => ?_) (fun e => ?_)
        · have := of_decide_eq_true e
          walk_at "go"
          exact fin _ _ (.inr ⟨_, rfl, by omega, by omega⟩) (.inr ⟨_, rfl, by omega, by omega⟩)
        · walk_at "go"
          exact fin _ _ (.inr ⟨_, rfl, by omega, by omega⟩) (.inl rfl)
      · walk_at "go"
        refine bsplit (fun e => ?_) (fun e => ?_)
        · have := of_decide_eq_true e
          walk_at "go"
          exact fin _ _ (.inl rfl) (.inr ⟨_, rfl, by omega, by omega⟩)
        · walk_at "go"
          exact fin _ _ (.inl rfl) (.inl rfl)
    · intro acc w' hacc hp hw
      subst hw
      rw [numI_len] at hacc
      walk_at "go"
      exact hq acc ⟨hacc, hp⟩
theorem lss_es : ∀ {n : Nat} {es ys : List D} {s : Nat}, Lss n es ys → (∀ e, e ∈ es → eOk s e) → ys = es
  | _, _, _, _, .nil, _ => rfl
  | _, _, _, s, .cons (x := x) (y := y) h t, he => by
    have h1 := he x (List.mem_cons_self ..)
    have : y = x := by
      rcases h1 with rfl | ⟨i, rfl, _⟩ <;> cases h <;> rfl
    rw [this, lss_es t fun e q => he e (List.mem_cons_of_mem _ q)]
theorem lss_mem : ∀ {n : Nat} {xs ys : List D}, Lss n xs ys → ∀ {y}, y ∈ ys → ∃ x, x ∈ xs ∧ Ls n x y
  | _, _, _, .cons h t, y, hy => by
    rcases List.mem_cons.mp hy with e | e
    · subst e
      exact ⟨_, List.mem_cons_self .., h⟩
    · obtain ⟨x, hx, hr⟩ := lss_mem t e
      exact ⟨x, List.mem_cons_of_mem _ hx, hr⟩
theorem at0 {x : D} {l : List D} : atI (x :: l) 0 = some x := atI_nat (l := x :: l) (i := 0) (by simp)
theorem pu_law_book : Body G_law_book ir_law_book 2 sp_law_book := by
  intro ds w Q R hl h
  match ds, hl, h with
  | [.h 0, .tup Rs], _, h =>
    obtain ⟨hw, ⟨k, s, ⟨hR, hrows⟩, k1, k6, s1, s40⟩, hq⟩ := h
    match Rs, hR, hrows, hq with
    | [], hR, _, _ => rw [List.length_nil] at hR; omega
    | r0 :: Rs, hR, hrows, hq =>
      obtain ⟨es0, rfl, hes0, _⟩ := hrows r0 (List.mem_cons_self ..)
      have tr : Tr 6 (.tup (.tup es0 :: Rs)) := .tup (fun x hx => by
        obtain ⟨es, rfl, hl, he⟩ := hrows x hx
        refine .tup (fun e he' => ?_) (by omega)
        rcases he e he' with rfl | ⟨i, rfl, _⟩
        · exact .non
        · exact .int i) (by omega)
      walk_at "go"
      rw [at0]
      walk_at "go"
      refine ⟨hw, tr, ?_⟩
      intro v' w1 hv hw1
      walk_at "go"
      have key : ∃ rs, Sq rs v' ∧ Lss 5 (.tup es0 :: Rs) rs := by
        cases hv with
        | tup h => exact ⟨_, .inl rfl, h⟩
        | lst h => exact ⟨_, .inr rfl, h⟩
      obtain ⟨rs, hrs, hls⟩ := key
      have hlr := lss_len hls
      rw [hes0]
      refine ⟨rs, hrs, ⟨by omega, by omega, by rw [← hlr]; omega, by rw [← hlr]; omega⟩, fun r hr => ?_, fun fs => hq fs _ hw1⟩
      obtain ⟨x, hx, hxr⟩ := lss_mem hls hr
      obtain ⟨es, rfl, hle, he⟩ := hrows x hx
      have key2 : Sq es r := by
        cases hxr with
        | tup h => rw [lss_es h he]; exact .inl rfl
        | lst h => rw [lss_es h he]; exact .inr rfl
      refine ⟨es, key2, by rw [hle], fun e hee => ?_⟩
      rcases he e hee with h | ⟨i, h, h1, h2⟩
      · exact .inl h
      · exact .inr ⟨i, h, h1, by rw [← hlr, hR]; exact h2⟩
end Pr

set_option Elab.async false
set_option linter.all false
set_option maxRecDepth 100000
set_option maxHeartbeats 1000000
namespace Pr
open PySem PySem.Spec PyProof.Rows L2 Py
local macro_rules | `(tactic| walk_at "go") => `(tactic| ((conv => whnf); repeat (first | (refine And.intro rfl ?_; (conv => whnf)) | (refine And.intro (lt900 rfl) ?_; (conv => whnf)) | (refine And.intro (le100 rfl) ?_; (conv => whnf)) | (refine And.intro (by decide) ?_; (conv => whnf)) | (refine And.intro (fun _ => by decide) ?_; (conv => whnf)))))
def _root_.Py.Ss.get : Ss → Nat → S
  | .nil, _ => .pass
  | .cons s _, 0 => s
  | .cons _ r, n + 1 => r.get n
def _root_.Py.Ss.drop : Ss → Nat → Ss
  | r, 0 => r
  | .nil, _ => .nil
  | .cons _ r, n + 1 => r.drop n
def _root_.Py.S.thn : S → Ss
  | .if_ _ a _ => a
  | _ => .nil
def _root_.Py.S.els : S → Ss
  | .if_ _ _ b => b
  | _ => .nil
def _root_.Py.S.bod : S → Ss
  | .for_ _ _ b => b
  | .while_ _ b => b
  | _ => .nil
theorem cut_to {xs : List D} {k : Nat} : Py.cutD xs none (some (k : Int)) = xs.take k := by
  unfold Py.cutD
  rw [HT.sIx_none, HT.sIx_nat, List.drop_zero, Nat.sub_zero]
  by_cases h : k ≤ xs.length
  · rw [Nat.min_eq_left h]
  · rw [Nat.min_eq_right (by omega), List.take_length, List.take_of_length_le (by omega)]
theorem cut_from {xs : List D} {k : Nat} : Py.cutD xs (some (k : Int)) none = xs.drop k := by
  unfold Py.cutD
  rw [HT.sIx_none, HT.sIx_nat]
  by_cases h : k ≤ xs.length
  · rw [Nat.min_eq_left h, List.take_of_length_le (by rw [List.length_drop]; omega)]
  · rw [Nat.min_eq_right (by omega), List.drop_length, List.take_nil, List.drop_eq_nil_of_le (by omega)]
theorem in_cons {a b x : Int} {l : List Int} (h : a ≤ x ∧ x ≤ b) (t : In a b l) : In a b (x :: l) := fun y hy => by
  rcases List.mem_cons.mp hy with rfl | hy
  · exact h
  · exact t y hy
theorem in_nil {a b : Int} : In a b [] := fun y hy => nomatch hy
theorem hallV_ok : ∀ v, v ∈ hallV → v.1.length = 2 ∧ v.2.length = 2 ∧ In 0 10 v.1 ∧ In 0 10 v.2 := fun v hv => by
  simp only [hallV, List.mem_cons, List.not_mem_nil, or_false] at hv
  rcases hv with rfl | rfl <;> exact ⟨rfl, rfl, in_cons (by decide) (in_cons (by decide) in_nil), in_cons (by decide) (in_cons (by decide) in_nil)⟩
theorem in_le {a b c : Int} {l : List Int} (h : In a b l) (hb : b ≤ c) : In a c l := fun x hx => ⟨(h x hx).1, Int.le_trans (h x hx).2 hb⟩
def hallC1 (n : Nat) : Ch := ⟨[0, n], hallV, [0, n], hallV, [[1, 0], [0, 1]], [0, 0]⟩
def hallC2 (n : Nat) : Ch := ⟨[0, n], hallV, [n, 0], [([1, 0], [0, 1]), ([0, 1], [1, 0])], [[0, 1], [1, 0]], [0, 0]⟩
theorem hallC1_ok {n : Nat} (h : n ≤ 5) : ChOk 2 2 (hallC1 n) where
  l := (by decide : 2 ≤ 3)
  l' := (by decide : 2 ≤ 3)
  p := in_cons (by decide) (in_cons (by omega) in_nil)
  p' := in_cons (by decide) (in_cons (by omega) in_nil)
  one := (by decide : 1 ≤ 2 ∧ 2 ≤ 3)
  v := hallV_ok
  v' := fun v hv => by
    obtain ⟨h1, h2, h3, h4⟩ := hallV_ok v hv
    exact ⟨h1, h2, in_le h3 (by decide), in_le h4 (by decide)⟩
  len := rfl
  r := ⟨rfl, fun l hl => by
    simp only [hallC1, List.mem_cons, List.not_mem_nil, or_false] at hl
    rcases hl with rfl | rfl <;> exact ⟨rfl, in_cons (by decide) (in_cons (by decide) in_nil)⟩⟩
  x := ⟨rfl, in_cons (by decide) (in_cons (by decide) in_nil)⟩
theorem hallC2_ok {n : Nat} (h : n ≤ 5) : ChOk 2 2 (hallC2 n) where
  l := (by decide : 2 ≤ 3)
  l' := (by decide : 2 ≤ 3)
  p := in_cons (by decide) (in_cons (by omega) in_nil)
  p' := in_cons (by omega) (in_cons (by decide) in_nil)
  one := (by decide : 1 ≤ 2 ∧ 2 ≤ 3)
  v := hallV_ok
  v' := fun v hv => by
    simp only [hallC2, List.mem_cons, List.not_mem_nil, or_false] at hv
    rcases hv with rfl | rfl <;> exact ⟨rfl, rfl, in_cons (by decide) (in_cons (by decide) in_nil), in_cons (by decide) (in_cons (by decide) in_nil)⟩
  len := rfl
  r := ⟨rfl, fun l hl => by
    simp only [hallC2, List.mem_cons, List.not_mem_nil, or_false] at hl
    rcases hl with rfl | rfl <;> exact ⟨rfl, in_cons (by decide) (in_cons (by decide) in_nil)⟩⟩
  x := ⟨rfl, in_cons (by decide) (in_cons (by decide) in_nil)⟩
theorem int_nat {r : Int} (h : 0 ≤ r) : ∃ m : Nat, r = m := ⟨r.toNat, by omega⟩
theorem pu_law_hall_change : Body G_law_hall_change ir_law_hall_change 1 sp_law_hall_change := by
  intro ds w Q R hl h
  match ds, hl, h with
  | [.h 0], _, h =>
    obtain ⟨hw, hq⟩ := h
    walk_at "go"
    refine ⟨hw, by decide, ?_⟩
    intro r w1 r0 r1 hw1
    obtain ⟨m, rfl⟩ := int_nat r0
    walk_at "go"
    refine ⟨hw1, by decide, ?_⟩
    intro t w2 t0 t1 hw2
    walk_at "go"
    refine ⟨1 + m, by rw [Int.natCast_add]; rfl, by omega, by omega, ?_⟩
    intro Rs hR
    have e1 : (1 + (m : Int)) = ((1 + m : Nat) : Int) := by omega
    walk_at "go"
    refine bsplit (fun e => ?_) (fun e => ?_)
    · walk_at "go"
      exact hq Rs (hallC1 (1 + m)) w2 (hallC1_ok (by omega)) rfl rfl rfl ⟨1 + m + 1, by omega, by omega, hR⟩ hw2
    · walk_at "go"
      exact hq Rs (hallC2 (1 + m)) w2 (hallC2_ok (by omega)) rfl rfl rfl ⟨1 + m + 1, by omega, by omega, hR⟩ hw2
end Pr

set_option Elab.async false
set_option linter.all false
set_option maxRecDepth 100000
set_option maxHeartbeats 1000000
namespace Pr
open PySem PySem.Spec PyProof.Rows L2 Py
local macro_rules | `(tactic| walk_at "go") => `(tactic| ((conv => whnf); repeat (first | (refine And.intro rfl ?_; (conv => whnf)) | (refine And.intro (lt900 rfl) ?_; (conv => whnf)) | (refine And.intro (le100 rfl) ?_; (conv => whnf)) | (refine And.intro (by decide) ?_; (conv => whnf)) | (refine And.intro (fun _ => by decide) ?_; (conv => whnf)))))

theorem rows_set {n : Nat} {Rs : List D} {t k : Nat} {to : D} (h : rowsOk 2 (n + 1) Rs) (ht : t < n + 1) (hk : k < 2) (hto : eOk (n + 1) to) {es : List D} (he : Rs[t]? = some (.tup es)) :
    rowsOk 2 (n + 1) (Rs.take t ++ [.tup (es.take k ++ [to] ++ es.drop (k + 1))] ++ Rs.drop (t + 1)) := by
  obtain ⟨h1, h2⟩ := h
  have hr : D.tup es ∈ Rs := List.mem_of_getElem? he
  obtain ⟨es', e1, e2, e3⟩ := h2 _ hr
  cases e1
  refine ⟨?_, fun r hm => ?_⟩
  · simp only [List.length_append, List.length_take, List.length_singleton, List.length_drop]
    omega
  · rcases List.mem_append.mp hm with hm | hm
    · rcases List.mem_append.mp hm with hm | hm
      · exact h2 r (List.mem_of_mem_take hm)
      · rw [List.mem_singleton.mp hm]
        refine ⟨_, rfl, ?_, fun e he => ?_⟩
        · simp only [List.length_append, List.length_take, List.length_singleton, List.length_drop]
          omega
        · rcases List.mem_append.mp he with he | he
          · rcases List.mem_append.mp he with he | he
            · exact e3 e (List.mem_of_mem_take he)
            · rw [List.mem_singleton.mp he]
              exact hto
          · exact e3 e (List.mem_of_mem_drop he)
    · exact h2 r (List.mem_of_mem_drop hm)
theorem in2 {a b x y : Int} (h1 : a ≤ x ∧ x ≤ b) (h2 : a ≤ y ∧ y ≤ b) : In a b [x, y] := in_cons h1 (in_cons h2 in_nil)
theorem hall_case {n : Nat} {Rs : List D} {x y : Int} (h5 : n ≤ 5) (h : rowsOk 2 (n + 1) Rs) (hx : 0 ≤ x ∧ x ≤ 10) (hy : 0 ≤ y ∧ y ≤ 10) : CaseOk Rs [x, y] hallV where
  rows := ⟨n + 1, by omega, by omega, h⟩
  one := (by decide : 1 ≤ 2 ∧ 2 ≤ 3)
  vis := hallV_ok
  len := (by decide : 2 ≤ 3)
  inn := in2 hx hy
theorem take_le {l : List D} {k n : Nat} (h : l.length ≤ n) : (l.take k).length ≤ n := by rw [List.length_take]; omega
theorem drop_le {l : List D} {k n : Nat} (h : l.length ≤ n) : (l.drop k).length ≤ n := by rw [List.length_drop]; omega
theorem le_sz {n : Nat} (h : n ≤ 1000) : n ≤ sizeLine := le1000 h
theorem cut_le {xs : List D} {a b : Option Int} : (Py.cutD xs a b).length ≤ xs.length := by
  unfold Py.cutD
  rw [List.length_take, List.length_drop]
  omega
theorem le_app {xs ys : List D} {n : Nat} (h : xs.length + ys.length ≤ n) : (xs ++ ys).length ≤ n := by rw [List.length_append]; exact h
theorem cut_from1 {xs : List D} {k : Nat} : Py.cutD xs (some ((k : Int) + 1)) none = xs.drop (k + 1) := cut_from (k := k + 1)
theorem pu_law_case : Body G_law_case ir_law_case 1 sp_law_case := by
  intro ds w Q R hl h
  match ds, hl, h with
  | [.h 0], _, h =>
    obtain ⟨hw, hq⟩ := h
    walk_at "go"
    refine ⟨hw, by decide, ?_⟩
    intro sort w1 r0 r1 hw1
    walk_at "go"
    refine bsplit (fun e => ?_) (fun e => ?_)
    · walk_at "go"
      refine ⟨hw1, by decide, ?_⟩
      intro r w2 r0 r1 hw2
      obtain ⟨m, rfl⟩ := int_nat r0
      have e1 : (1 + (m : Int)) = ((1 + m : Nat) : Int) := by omega
      walk_at "go"
      refine ⟨1 + m, by rw [Int.natCast_add]; rfl, by omega, by omega, ?_⟩
      intro Rs hR
      have fin2 : ∀ (Rs : List D) (s1 s2 s3 s4 s5 s6 s7 s8 s9 : Py.Slot) (w2 : W), rowsOk 2 (1 + m + 1) Rs → BoxW w2 → wpSs G_law_case (fun x _ w => R x w) ((ir_law_case.get 1).thn.drop 3)
          [.val (.h 0), .val (.int sort), s1, s2, s3, s4, .val (.tup Rs), .val (tV hallV), .val (tI [0, ((1 + m : Nat) : Int)]), s5, s6, s7, s8] w2 { nx := fun env w => wpSs G_law_case (fun x _ w => R x w) (ir_law_case.drop 2) env w { nx := fun _ w => Q .non w, rt := Q }, rt := Q } := by
        intro Rs s1 s2 s3 s4 s5 s6 s7 s8 s9 w2 hR hw2
        walk_at "go"
        refine bsplit (fun e => ?_) (fun e => ?_)
        · walk_at "go"
          refine ⟨hw2, by decide, ?_⟩
          intro a w3 a0 a1 hw3
          walk_at "go"
          refine ⟨hw3, by decide, ?_⟩
          intro b w4 b0 b1 hw4
          walk_at "go"
          refine ⟨Nat.succ_pos _, ?_⟩
          intro x hx hmax
          have x0 : 0 ≤ x := hmax 0 (by simp)
          have x1 : x ≤ 10 := by
            simp only [List.mem_cons, List.not_mem_nil, or_false] at hx
            omega
          walk_at "go"
          exact hq Rs [0 + a, x] hallV _ (hall_case (n := 1 + m) (by omega) hR (by omega) ⟨x0, x1⟩) hw4
        · walk_at "go"
          exact hq Rs [0, ((1 + m : Nat) : Int)] hallV _ (hall_case (n := 1 + m) (by omega) hR (by decide) (by omega)) hw2
      walk_at "go"
      refine bsplit (fun e => ?_) (fun e => ?_)
      · walk_at "go"
        refine ⟨hw2, by omega, ?_⟩
        intro t w3 t0 t1 hw3
        obtain ⟨t, rfl⟩ := int_nat t0
        walk_at "go"
        refine ⟨hw3, by decide, ?_⟩
        intro k w4 k0 k1 hw4
        obtain ⟨k, rfl⟩ := int_nat k0
        walk_at "go"
        refine ⟨hw4, (fun z => nomatch z), by simp, ?_⟩
        intro to w5 hto hw5
        have hto : eOk (1 + m + 1) to := by
          simp only [List.mem_cons, List.not_mem_nil, or_false] at hto
          rcases hto with rfl | rfl | rfl
          · exact .inl rfl
          · exact .inr ⟨_, rfl, by omega, by omega⟩
          · exact .inr ⟨_, rfl, by omega, by omega⟩
        have htl : t < Rs.length := by rw [hR.1]; omega
        obtain ⟨es, hes, hel, _⟩ := hR.2 _ (List.getElem_mem htl)
        have hget : Rs[t]? = some (.tup es) := by rw [List.getElem?_eq_getElem htl, hes]
        have hRl : Rs.length ≤ 10 := by rw [hR.1]; omega
        walk_at "go"
        rw [atI_nat htl, hget]
        walk_at "go"
        rw [cut_to]
        refine ⟨le_sz ?_, ?_⟩
        · have := take_le (l := es) (k := k) (n := 2) (by omega)
          simp only [List.length_cons, List.length_nil]
          omega
        walk_at "go"
        rw [atI_nat htl, hget]
        walk_at "go"
        rw [cut_from1]
        refine ⟨le_sz ?_, ?_⟩
        · simp only [List.length_append, List.length_take, List.length_drop, List.length_singleton]
          omega
        walk_at "go"
        rw [cut_to]
        refine ⟨le_sz ?_, ?_⟩
        · simp only [List.length_take, List.length_singleton]
          omega
        walk_at "go"
        rw [cut_from1]
        refine ⟨le_sz ?_, ?_⟩
        · simp only [List.length_append, List.length_take, List.length_drop, List.length_singleton]
          omega
        exact fin2 _ _ _ _ _ _ _ _ _ .none _ (rows_set hR (by omega) (by omega) hto hget) hw5
      · exact fin2 Rs _ _ _ _ _ _ _ _ .none _ hR hw2
    · walk_at "go"
      refine ⟨hw1, by decide, ?_⟩
      intro a w2 a0 a1 hw2
      obtain ⟨a, rfl⟩ := int_nat a0
      walk_at "go"
      refine ⟨hw2, by decide, ?_⟩
      intro b w3 b0 b1 hw3
      obtain ⟨b, rfl⟩ := int_nat b0
      walk_at "go"
      refine ⟨hw3, by decide, ?_⟩
      intro c w4 c0 c1 hw4
      obtain ⟨c, rfl⟩ := int_nat c0
      walk_at "go"
      refine ⟨1 + a, 1 + b, by rw [Int.natCast_add]; rfl, by rw [Int.natCast_add]; rfl, hw4, by omega, by omega, by omega, by omega, ?_⟩
      intro Rs w5 hR hw5
      walk_at "go"
      refine ⟨1 + a, c, by rw [Int.natCast_add]; rfl, rfl, hw5, by omega, by omega, by omega, by decide, by decide, ?_⟩
      intro V w6 hV hw6
      walk_at "go"
      refine ⟨sm60 (by omega), ?_⟩
      rw [rng_num]
      refine compL_P (env := [.val (.h 0), .val (.int sort), .none, .val (.int (1 + (a : Int))), .val (.int (1 + (b : Int))), .val (.int c), .val (.tup Rs), .val (tV V), .none, .none, .none, .none, .none]) BoxW (fun y => ∃ x : Int, y = .int x ∧ 0 ≤ x ∧ x ≤ 10) (by rw [numI_len]; exact le_sz (by omega)) hw6 (fun d w nx hd hw hnx => ?_) ?_
      · walk_at "go"
        refine ⟨hw, by decide, ?_⟩
        intro r w1 r0 r1 hw1
        walk_at "go"
        exact hnx _ _ ⟨r, rfl, r0, Int.le_trans r1 (by decide)⟩ hw1
      intro acc w7 hacc hp hw7
      obtain ⟨p, rfl, hpp⟩ := all_ints hp
      rw [numI_len, List.length_map] at hacc
      obtain ⟨v1, v2⟩ := hV
      walk_at "go"
      exact hq Rs p V _ ⟨⟨1 + b, by omega, by omega, by rw [v1]; exact hR⟩, by omega, fun v hv => by
        obtain ⟨q1, q2, q3, q4⟩ := v2 v hv
        exact ⟨by rw [q1, hacc], by rw [q2, hacc], in_le q3 (by decide), in_le q4 (by decide)⟩, by omega, hpp⟩ hw7
end Pr

set_option Elab.async false
set_option linter.all false
set_option maxRecDepth 100000
set_option maxHeartbeats 1000000
namespace Pr
open PySem PySem.Spec PyProof.Rows L2 Py
local macro_rules | `(tactic| walk_at "go") => `(tactic| ((conv => whnf); repeat (first | (refine And.intro rfl ?_; (conv => whnf)) | (refine And.intro (lt900 rfl) ?_; (conv => whnf)) | (refine And.intro (le100 rfl) ?_; (conv => whnf)) | (refine And.intro (by decide) ?_; (conv => whnf)) | (refine And.intro (fun _ => by decide) ?_; (conv => whnf)))))

theorem all_tI {p : List Int → Prop} : ∀ {acc : List D}, (∀ y, y ∈ acc → ∃ l, y = tI l ∧ p l) → ∃ M : List (List Int), acc = M.map tI ∧ ∀ l, l ∈ M → p l
  | [], _ => ⟨[], rfl, fun _ h => nomatch h⟩
  | y :: acc, h => by
    obtain ⟨i, rfl, hi⟩ := h y (List.mem_cons_self ..)
    obtain ⟨l, rfl, hl⟩ := all_tI fun z hz => h z (List.mem_cons_of_mem _ hz)
    refine ⟨i :: l, rfl, fun j hj => ?_⟩
    rcases List.mem_cons.mp hj with rfl | hj
    · exact hi
    · exact hl j hj
/-- drawn digits -/
def dg (m : Int) (y : D) : Prop := ∃ x : Int, y = .int x ∧ 0 ≤ x ∧ x ≤ m
theorem dg_all {m : Int} {acc : List D} (h : ∀ y, y ∈ acc → dg m y) : ∃ l : List Int, acc = iL l ∧ In 0 m l := all_ints h
theorem rng2 : rangeD 0 2 = numI 0 2 := rng_num 2
theorem tV_len (V : List Vis) : (((V.map tVis).length : Nat) : Int) = (V.length : Nat) := by rw [List.length_map]
theorem pu_law_change_case : Body G_law_change_case ir_law_change_case 1 sp_law_change_case := by
  intro ds w Q R hl h
  match ds, hl, h with
  | [.h 0], _, h =>
    obtain ⟨hw, hq⟩ := h
    walk_at "go"
    refine ⟨hw, ?_⟩
    intro Rs c w1 hc hP hP' hV hR hw1
    walk_at "go"
    refine ⟨hw1, by decide, ?_⟩
    intro sort w2 _ _ hw2
    walk_at "go"
    refine bsplit (fun e => ?_) (fun e => ?_)
    · walk_at "go"
      exact hq Rs c w2 hc hR hw2
    walk_at "go"
    refine bsplit (fun e => ?_) (fun e => ?_)
    · walk_at "go"
      refine ⟨hw2, by decide, ?_⟩
      intro a w3 a0 a1 hw3
      walk_at "go"
      refine ⟨hw3, by decide, ?_⟩
      intro b w4 b0 b1 hw4
      walk_at "go"
      exact hq Rs { c with x := [a, b] } w4 { hc with x := ⟨hP'.symm, in2 ⟨a0, by omega⟩ ⟨b0, by omega⟩⟩ } hR hw4
    walk_at "go"
    refine bsplit (fun e => ?_) (fun e => ?_)
    · walk_at "go"
      refine ⟨⟨by decide, by decide⟩, ?_⟩
      rw [rng2]
      refine compL_P BoxW (fun y => ∃ l, y = tI l ∧ (l.length = 2 ∧ In 0 2 l)) (by decide) hw2 (fun d w nx hd hw hnx => ?_) ?_
      · walk_at "go"
        refine ⟨⟨by decide, by decide⟩, ?_⟩
        rw [rng2]
        refine compL_P BoxW (dg 2) (by decide) hw (fun d w nx hd hw hnx => ?_) ?_
        · walk_at "go"
          refine ⟨hw, by decide, ?_⟩
          intro r w1 r0 r1 hw1
          walk_at "go"
          exact hnx _ _ ⟨r, rfl, r0, by omega⟩ hw1
        intro acc w4 hl hp hw4
        obtain ⟨l, rfl, hin⟩ := dg_all hp
        rw [numI_len, List.length_map] at hl
        walk_at "go"
        exact hnx _ _ ⟨l, rfl, hl, hin⟩ hw4
      intro acc w4 hl hp hw4
      obtain ⟨M, rfl, hM⟩ := all_tI hp
      rw [numI_len, List.length_map] at hl
      walk_at "go"
      exact hq Rs { c with r := M } w4 { hc with r := ⟨hl.trans hP.symm, fun l h => ⟨(hM l h).1.trans hP'.symm, (hM l h).2⟩⟩ } hR hw4
    -- new doors over n colours for m kinds, rates of p rows
    walk_at "go"
    refine bsplit (fun e => ?_) (fun e => ?_)
    · walk_at "go"
      refine ⟨hw2, by decide, ?_⟩
      intro n w3 n0 n1 hw3
      obtain ⟨n, rfl⟩ := int_nat n0
      walk_at "go"
      refine ⟨sm60 (by omega), ?_⟩
      rw [rng_num]
      refine compL_P BoxW (dg 10) (by rw [numI_len]; exact le_sz (by omega)) hw3 (fun d w nx hd hw hnx => ?_) ?_
      · walk_at "go"
        refine ⟨hw, by decide, ?_⟩
        intro r w1 r0 r1 hw1
        walk_at "go"
        exact hnx _ _ ⟨r, rfl, r0, by omega⟩ hw1
      intro acc w4 hl hp hw4
      obtain ⟨P', rfl, hP2⟩ := dg_all hp
      rw [numI_len, List.length_map] at hl
      walk_at "go"
      refine ⟨2, n, rfl, rfl, hw4, by decide, by decide, by omega, by decide, by decide, ?_⟩
      intro V' w5 hV' hw5
      obtain ⟨v1, v2⟩ := hV'
      walk_at "go"
      refine ⟨⟨by decide, by decide⟩, ?_⟩
      rw [rng2]
      refine compL_P BoxW (fun y => ∃ l, y = tI l ∧ (l.length = n ∧ In 0 2 l)) (by decide) hw5 (fun d w nx hd hw hnx => ?_) ?_
      · walk_at "go"
        refine ⟨sm60 (by omega), ?_⟩
        rw [rng_num]
        refine compL_P BoxW (dg 2) (by rw [numI_len]; exact le_sz (by omega)) hw (fun d w nx hd hw hnx => ?_) ?_
        · walk_at "go"
          refine ⟨hw, by decide, ?_⟩
          intro r w1 r0 r1 hw1
          walk_at "go"
          exact hnx _ _ ⟨r, rfl, r0, by omega⟩ hw1
        intro acc w4 hl hp hw4
        obtain ⟨l, rfl, hin⟩ := dg_all hp
        rw [numI_len, List.length_map] at hl
        walk_at "go"
        exact hnx _ _ ⟨l, rfl, hl, hin⟩ hw4
      intro acc w6 hl6 hp hw6
      obtain ⟨M, rfl, hM⟩ := all_tI hp
      rw [numI_len, List.length_map] at hl6
      walk_at "go"
      refine ⟨sm60 (by omega), ?_⟩
      rw [rng_num]
      refine compL_P BoxW (dg 2) (by rw [numI_len]; exact le_sz (by omega)) hw6 (fun d w nx hd hw hnx => ?_) ?_
      · walk_at "go"
        refine ⟨hw, by decide, ?_⟩
        intro r w1 r0 r1 hw1
        walk_at "go"
        exact hnx _ _ ⟨r, rfl, r0, by omega⟩ hw1
      intro acc w7 hl7 hp hw7
      obtain ⟨x, rfl, hx⟩ := dg_all hp
      rw [numI_len, List.length_map] at hl7
      walk_at "go"
      exact hq Rs { c with P' := P', V' := V', r := M, x := x } w7 { hc with l' := (by show P'.length ≤ 3; omega), p' := hP2, v' := (fun v hv => ⟨(v2 v hv).1.trans hl.symm, (v2 v hv).2.1.trans hl.symm, in_le (v2 v hv).2.2.1 (by decide), in_le (v2 v hv).2.2.2 (by decide)⟩), len := v1.trans hV.symm, r := ⟨hl6.trans hP.symm, fun l h => ⟨(hM l h).1.trans hl.symm, (hM l h).2⟩⟩, x := ⟨hl7.trans hl.symm, hx⟩ } hR hw7
    · walk_at "go"
      refine ⟨hw2, ?_⟩
      intro Rs P V w3 hc hw3
      walk_at "go"
      refine ⟨hw3, by decide, ?_⟩
      intro n w3 n0 n1 hw3
      obtain ⟨n, rfl⟩ := int_nat n0
      walk_at "go"
      refine ⟨sm60 (by omega), ?_⟩
      rw [rng_num]
      refine compL_P BoxW (dg 10) (by rw [numI_len]; exact le_sz (by omega)) hw3 (fun d w nx hd hw hnx => ?_) ?_
      · walk_at "go"
        refine ⟨hw, by decide, ?_⟩
        intro r w1 r0 r1 hw1
        walk_at "go"
        exact hnx _ _ ⟨r, rfl, r0, by omega⟩ hw1
      intro acc w4 hl hp hw4
      obtain ⟨P', rfl, hP2⟩ := dg_all hp
      rw [numI_len, List.length_map] at hl
      have one := hc.one
      have len := hc.len
      walk_at "go"
      refine ⟨V.length, n, tV_len V, rfl, hw4, by omega, by omega, by omega, by decide, by decide, ?_⟩
      intro V' w5 hV' hw5
      obtain ⟨v1, v2⟩ := hV'
      walk_at "go"
      rw [iL_len]
      refine ⟨sm60 (by omega), ?_⟩
      rw [rng_num]
      refine compL_P BoxW (fun y => ∃ l, y = tI l ∧ (l.length = n ∧ In 0 2 l)) (by rw [numI_len]; exact le_sz (by omega)) hw5 (fun d w nx hd hw hnx => ?_) ?_
      · walk_at "go"
        refine ⟨sm60 (by omega), ?_⟩
        rw [rng_num]
        refine compL_P BoxW (dg 2) (by rw [numI_len]; exact le_sz (by omega)) hw (fun d w nx hd hw hnx => ?_) ?_
        · walk_at "go"
          refine ⟨hw, by decide, ?_⟩
          intro r w1 r0 r1 hw1
          walk_at "go"
          exact hnx _ _ ⟨r, rfl, r0, by omega⟩ hw1
        intro acc w4 hl hp hw4
        obtain ⟨l, rfl, hin⟩ := dg_all hp
        rw [numI_len, List.length_map] at hl
        walk_at "go"
        exact hnx _ _ ⟨l, rfl, hl, hin⟩ hw4
      intro acc w6 hl6 hp hw6
      obtain ⟨M, rfl, hM⟩ := all_tI hp
      rw [numI_len, List.length_map] at hl6
      walk_at "go"
      refine ⟨sm60 (by omega), ?_⟩
      rw [rng_num]
      refine compL_P BoxW (dg 2) (by rw [numI_len]; exact le_sz (by omega)) hw6 (fun d w nx hd hw hnx => ?_) ?_
      · walk_at "go"
        refine ⟨hw, by decide, ?_⟩
        intro r w1 r0 r1 hw1
        walk_at "go"
        exact hnx _ _ ⟨r, rfl, r0, by omega⟩ hw1
      intro acc w7 hl7 hp hw7
      obtain ⟨x, rfl, hx⟩ := dg_all hp
      rw [numI_len, List.length_map] at hl7
      walk_at "go"
      exact hq Rs ⟨P, V, P', V', M, x⟩ w7 { l := len, l' := (by show P'.length ≤ 3; omega), p := hc.inn, p' := hP2, one := one, v := hc.vis, v' := (fun v hv => ⟨(v2 v hv).1.trans hl.symm, (v2 v hv).2.1.trans hl.symm, in_le (v2 v hv).2.2.1 (by decide), in_le (v2 v hv).2.2.2 (by decide)⟩), len := v1, r := ⟨hl6, fun l h => ⟨(hM l h).1.trans hl.symm, (hM l h).2⟩⟩, x := ⟨hl7.trans hl.symm, hx⟩ } hc.rows hw7
end Pr

set_option Elab.async false
set_option linter.all false
set_option maxRecDepth 100000
set_option maxHeartbeats 1000000
namespace Pr
open PySem PySem.Spec PyProof.Rows L2 Py
local macro_rules | `(tactic| walk_at "go") => `(tactic| ((conv => whnf); repeat (first | (refine And.intro rfl ?_; (conv => whnf)) | (refine And.intro (lt900 rfl) ?_; (conv => whnf)) | (refine And.intro (le100 rfl) ?_; (conv => whnf)) | (refine And.intro (by decide) ?_; (conv => whnf)) | (refine And.intro (fun _ => by decide) ?_; (conv => whnf)))))

/-- a comprehension with a test -/
theorem compL_F {step : D → Fm → W → (Option D → Fm → W → Prop) → Prop} {Q : List D → Fm → W → Prop} {env : Fm} {w : W} (I : W → Prop) (P : D → Prop) {ds : List D} (hn : ds.length ≤ sizeLine) (hw : I w)
    (hs : ∀ d w nx, d ∈ ds → I w → (∀ y w', P y → I w' → nx (some y) env w') → (∀ w', I w' → nx none env w') → step d env w nx)
    (hd : ∀ acc w, acc.length ≤ ds.length → (∀ y, y ∈ acc → P y) → I w → Q acc env w) : compL step ds [] env w Q := by
  refine compL_ind (fun rest acc env' w' => env' = env ∧ I w' ∧ (∀ y, y ∈ acc → P y) ∧ (∀ d, d ∈ rest → d ∈ ds) ∧ acc.length + rest.length ≤ ds.length) ?_ ?_ _ _ _ _ ?_ ⟨rfl, hw, fun y hy => (nomatch hy), fun _ h => h, by simp⟩
  · rintro d rest acc env' w' nx ⟨rfl, hw, hp, hr, hl⟩ h1 h2
    rw [List.length_cons] at hl
    refine hs d w' nx (hr d (List.mem_cons_self ..)) hw (fun y w'' hy hw'' => h2 y _ _ ?_ ⟨rfl, hw'', fun z hz => ?_, fun x hx => hr x (List.mem_cons_of_mem _ hx), ?_⟩) fun w'' hw'' => h1 _ _ ⟨rfl, hw'', hp, fun x hx => hr x (List.mem_cons_of_mem _ hx), by omega⟩
    · omega
    · rcases List.mem_append.mp hz with h | h
      · exact hp z h
      · rw [List.mem_singleton.mp h]; exact hy
    · rw [List.length_append]
      rw [List.length_singleton]
      omega
  · rintro acc env' w' ⟨rfl, hw, hp, hr, hl⟩
    exact hd acc w' (by rw [List.length_nil] at hl; omega) hp hw
  · rw [List.length_nil, Nat.zero_add]
    exact hn
theorem compL_mapG {α : Type} {step : D → Fm → W → (Option D → Fm → W → Prop) → Prop} {Q : List D → Fm → W → Prop} {g : α → D} (f : α → D) {env : Fm} {w : W} {l : List α} (hs : ∀ a, a ∈ l → ∀ nx, nx (some (f a)) env w → step (g a) env w nx) (hl : l.length ≤ sizeLine) (h : Q (l.map f) env w) : compL step (l.map g) [] env w Q := by
  have key : ∀ (l2 : List α) (acc : List D), (∀ a, a ∈ l2 → a ∈ l) → acc.length + l2.length ≤ l.length → acc ++ l2.map f = l.map f → compL step (l2.map g) acc env w Q := by
    intro l2
    induction l2 with
    | nil =>
      intro acc _ _ e
      rw [List.map_nil, List.append_nil] at e
      rw [List.map_nil, compL, e]
      exact h
    | cons a l2 ih =>
      intro acc hm hle e
      rw [List.map_cons, compL]
      rw [List.length_cons] at hle
      refine hs a (hm a (List.mem_cons_self ..)) _ ⟨by omega, ih _ (fun b hb => hm b (List.mem_cons_of_mem _ hb)) (by rw [List.length_append, List.length_singleton]; omega) ?_⟩
      rw [← e, List.map_cons, List.append_assoc]
      rfl
  exact key l [] (fun _ h => h) (by simp) rfl
theorem pl_lI (l : List Int) : Pl 1 (.lst (iL l)) := by
  obtain ⟨a1, a2, a3⟩ := pl_tI l
  exact ⟨a1, a2, a3⟩
theorem eqv_lI (a b : List Int) : PyData.eqv (toP (.lst (iL a))) (toP (.lst (iL b))) = decide (a = b) := eqv_ints a b
theorem rng_ints (n : Nat) : rangeD 0 (n : Int) = iL ((List.range n).map Int.ofNat) := by
  rw [rng_nat, ← ints_map]
  rfl
theorem rng_in (n : Nat) : In 0 ((n : Int) - 1) ((List.range n).map Int.ofNat) := fun x hx => by
  obtain ⟨i, hi, rfl⟩ := List.mem_map.mp hx
  have := List.mem_range.mp hi
  have e : Int.ofNat i = (i : Int) := rfl
  omega
theorem pu_law_drawn_row : Body G_law_drawn_row ir_law_drawn_row 4 sp_law_drawn_row := by
  intro ds w Q R hl h
  match ds, hl, h with
  | [.h 0, pd, vd, .int m], _, h =>
    obtain ⟨p, V, rfl, rfl, hp, hv, v1, v6, m0, m4, hw, hq⟩ := h
    walk_at "go"
    refine ⟨hw, by omega, ?_⟩
    intro n w1 n0 n1 hw1
    obtain ⟨n, rfl⟩ := int_nat n0
    walk_at "go"
    refine ⟨sm60 (by omega), ?_⟩
    walk_at "go"
    rw [rng_num]
    refine forL_ind (fun rest env w' => BoxW w' ∧ ∃ (i j : Nat) (row q : List Int) (s5 s6 s7 : Py.Slot), rest = numI i j ∧ i + j = n ∧ row.length = i ∧ In 0 ((V.length : Int) - 1) row ∧ q.length = p.length ∧ PlS s7 ∧
      env = [.val (.h 0), .val (tI q), .val (tV V), .val (.int m), .val (tI row), s5, s6, s7]) ?_ ?_ _ _ _ ⟨hw1, 0, n, [], p, .none, .none, .none, rfl, by omega, rfl, in_nil, rfl, .inl rfl, rfl⟩
    · rintro d rest env w' nx ⟨hw, i, j, row, q, s5, s6, s7, hr, hij, hrow, hin, hql, hs7, rfl⟩ hnx
      cases j with
      | zero => cases hr
      | succ j =>
        cases hr
        have tail : ∀ (l : List Int) (s6 : Py.Slot) (s7 : Py.Slot) (w' : W) (K : En), K.nx = nx → (s6 = .val (.lst (iL l)) ∨ s6 = .own (.lst (iL l))) → l ≠ [] → l.length ≤ 6 → In 0 ((V.length : Int) - 1) l → BoxW w' →
            wpSs G_law_drawn_row (fun x _ w => R x w) ((ir_law_drawn_row.get 1).bod.drop 2) [.val (.h 0), .val (tI q), .val (tV V), .val (.int m), .val (tI row), .val (.int i), s6, s7] w' K := by
          intro l s6 s7 w' K hK hs hne hl6 hlin hw'
          have hne2 : iL l ≠ [] := fun z => hne (List.map_eq_nil_iff.mp z)
          rcases hs with rfl | rfl <;> (
            walk_at "go"
            refine ⟨hw', hne2, by rw [List.length_map]; omega, ?_⟩
            intro x w2 hx hw2
            obtain ⟨x, rfl, hxl⟩ := mem_iL hx
            obtain ⟨x0, x1⟩ := hlin x hxl
            have hvx := hv _ (visAt_mem x0 x1)
            walk_at "go"
            refine ⟨le_sz (by rw [List.length_map, hrow]; simp only [List.length_cons, List.length_nil]; omega), ?_⟩
            walk_at "go"
            rw [at_tV x0 x1]
            walk_at "go"
            refine ⟨q, visAt V x, rfl, rfl, hvx.1.trans hql.symm, hvx.2.trans hql.symm, by rw [hql]; exact hp, ?_⟩
            walk_at "go"
            show K.nx _ _
            rw [hK]
            refine hnx _ _ ⟨hw2, i + 1, j, row ++ [x], paidF q (visAt V x), .val (.int i), .val (.lst (iL l)), .val (.int x), rfl, by omega, by rw [List.length_append, hrow]; rfl, fun y hy => ?_, by rw [paid_len, hql], .inr ⟨_, rfl⟩, ?_⟩
            · rcases List.mem_append.mp hy with h | h
              · exact hin y h
              · rw [List.mem_singleton.mp h]
                exact ⟨x0, x1⟩
            · rw [show tI (row ++ [x]) = .tup (iL row ++ [.int x]) by simp [tI]]
              rfl)
        have big : ∀ (s6 s7 : Py.Slot) (w' : W) (K : En), K.nx = nx → BoxW w' → wpSs G_law_drawn_row (fun x _ w => R x w) (((ir_law_drawn_row.get 1).bod.get 1).thn) [.val (.h 0), .val (tI q), .val (tV V), .val (.int m), .val (tI row), .val (.int i), s6, s7] w'
            { K with nx := fun env w => wpSs G_law_drawn_row (fun x _ w => R x w) ((ir_law_drawn_row.get 1).bod.drop 2) env w K } := by
          intro s6 s7 w' K hK hw'
          walk_at "go"
          rw [tV_len]
          refine ⟨⟨by omega, by omega⟩, ?_⟩
          rw [rng_ints]
          refine tail _ _ _ _ K hK (.inr rfl) (fun z => ?_) (by rw [List.length_map, List.length_range]; exact v6) (rng_in V.length) hw'
          have := congrArg List.length z
          rw [List.length_map, List.length_range, List.length_nil] at this
          omega
        rcases hs7 with rfl | ⟨d7, rfl⟩ <;> (
          walk_at "go"
          rw [tV_len]
          refine ⟨sm60 (by omega), ?_⟩
          rw [rng_num]
          refine compL_F BoxW (dg ((V.length : Int) - 1)) (by rw [numI_len]; exact le_sz (by omega)) hw (fun d w nx hd hw h1 h2 => ?_) ?_
          · obtain ⟨k, rfl, _, k1⟩ := numI_mem hd
            have hk0 : (0 : Int) ≤ k := by omega
            have hk1 : (k : Int) ≤ (V.length : Int) - 1 := by omega
            have hvx := hv _ (visAt_mem hk0 hk1)
            walk_at "go"
            rw [at_tV hk0 hk1]
            walk_at "go"
            refine ⟨q, (visAt V k).1, rfl, rfl, hvx.1.trans hql.symm, by rw [hql]; exact hp, ?_⟩
            intro b
            cases b
            · exact h2 _ hw
            · walk_at "go"
              exact h1 _ _ ⟨k, rfl, hk0, hk1⟩ hw
          intro acc w2 hal hp2 hw2
          obtain ⟨l, rfl, hlin⟩ := dg_all hp2
          rw [numI_len, List.length_map] at hal
          walk_at "go"
          refine ⟨(pl_lI l).p, rfl, (pl_lI l).sh (by decide), rfl, ?_⟩
          generalize he : PyData.eqv _ _ = b1
          have e1 := he.symm.trans (eqv_lI l [])
          by_cases hle : l = []
          · rw [decide_eq_true hle] at e1
            subst e1
            exact big _ _ _ _ rfl hw2
          · rw [decide_eq_false hle] at e1
            subst e1
            walk_at "go"
            refine ⟨hw2, by decide, ?_⟩
            intro t w3 _ _ hw3
            walk_at "go"
            refine bsplit (fun e => ?_) (fun e => ?_)
            · exact big _ _ _ _ rfl hw3
            · exact tail l _ _ _ _ rfl (.inl rfl) hle (by omega) hlin hw3)
    · rintro env w' ⟨hw, i, j, row, q, s5, s6, s7, hr, hij, hrow, hin, hql, hs7, rfl⟩
      cases j with
      | succ j => cases hr
      | zero =>
        walk_at "go"
        exact hq row _ ⟨by omega, hin⟩ hw
end Pr

set_option Elab.async false
set_option linter.all false
set_option maxRecDepth 100000
set_option maxHeartbeats 1000000
namespace Pr
open PySem PySem.Spec PyProof.Rows L2 Py
local macro_rules | `(tactic| walk_at "go") => `(tactic| ((conv => whnf); repeat (first | (refine And.intro rfl ?_; (conv => whnf)) | (refine And.intro (lt900 rfl) ?_; (conv => whnf)) | (refine And.intro (le100 rfl) ?_; (conv => whnf)) | (refine And.intro (by decide) ?_; (conv => whnf)) | (refine And.intro (fun _ => by decide) ?_; (conv => whnf)))))

def mulI (f : Int) (l : List Int) : List Int := l.map (· * f)
def greatC (f : Int) (c : Ch) : Ch := { c with r := c.r.map (mulI f), x := mulI 100000000000000000 c.x }
theorem mul_in {f m : Int} {l : List Int} (h : In 0 m l) (hf : 0 ≤ f) : In 0 (m * f) (mulI f l) := fun x hx => by
  obtain ⟨y, hy, rfl⟩ := List.mem_map.mp hx
  obtain ⟨h0, h1⟩ := h y hy
  exact ⟨Int.mul_nonneg h0 hf, Int.mul_le_mul_of_nonneg_right h1 hf⟩
theorem great_ok {f : Int} {c : Ch} (h : ChOk 2 2 c) (h0 : 0 ≤ f) (h1 : f ≤ 400000000) : ChOk 800000000 200000000000000000 (greatC f c) :=
  { l := h.l, l' := h.l', p := h.p, p' := h.p', one := h.one, v := h.v, v' := h.v', len := h.len,
    r := ⟨by
      show (c.r.map _).length = c.P.length
      rw [List.length_map]
      exact h.r.1, fun l hl => by
      obtain ⟨l0, hl0, rfl⟩ := List.mem_map.mp hl
      obtain ⟨q1, q2⟩ := h.r.2 l0 hl0
      refine ⟨?_, in_le (mul_in q2 h0) (by omega)⟩
      show (mulI f l0).length = c.P'.length
      unfold mulI
      rw [List.length_map]
      exact q1⟩,
    x := ⟨by
      show (mulI _ c.x).length = c.P'.length
      unfold mulI
      rw [List.length_map]
      exact h.x.1, in_le (mul_in h.x.2 (by decide)) (by decide)⟩ }
theorem tM_map (M : List (List Int)) (f : List Int → List Int) : (M.map fun l => tI (f l)) = (M.map f).map tI := by rw [List.map_map]; rfl
theorem mul_tI (f : Int) (l : List Int) : (l.map fun i => D.int (i * f)) = iL (mulI f l) := by
  unfold mulI iL
  rw [List.map_map]
  rfl
theorem len3 {c : Ch} {b x : Int} (h : ChOk b x c) : c.r.length ≤ 3 ∧ c.x.length ≤ 3 ∧ ∀ l, l ∈ c.r → l.length ≤ 3 := by
  have a1 := h.l
  have a2 := h.l'
  have a3 := h.r
  have a4 := h.x
  exact ⟨by omega, by omega, fun l hl => by have := (a3.2 l hl).1; omega⟩
theorem pu_law_greater : Body G_law_greater ir_law_greater 2 sp_law_greater := by
  intro ds w Q R hl h
  match ds, hl, h with
  | [.h 0, cd], _, h =>
    obtain ⟨c, rfl, hc, hw, hq⟩ := h
    obtain ⟨c1, c2, c3⟩ := len3 hc
    walk_at "go"
    refine ⟨⟨by decide, by decide, by decide⟩, ?_⟩
    walk_at "go"
    refine ⟨⟨by decide, by decide, by decide⟩, ?_⟩
    walk_at "go"
    refine ⟨cmulk (by decide) (by decide), ?_⟩
    walk_at "go"
    refine ⟨hw, (fun z => nomatch z), by simp, ?_⟩
    intro f w1 hf hw1
    have hf2 : ∃ g : Int, f = .int g ∧ 0 ≤ g ∧ g ≤ 400000000 := by
      simp only [List.mem_cons, List.not_mem_nil, or_false] at hf
      rcases hf with rfl | rfl | rfl
      · exact ⟨_, rfl, by decide, by decide⟩
      · exact ⟨_, rfl, by decide, by decide⟩
      · exact ⟨_, rfl, by decide, by decide⟩
    obtain ⟨f, rfl, f0, f1⟩ := hf2
    walk_at "go"
    refine compL_mapG (fun l => tI (mulI f l)) (fun l hl nx hnx => ?_) (le_sz (by omega)) ?_
    · walk_at "go"
      refine compL_mapG (fun i => .int (i * f)) (fun i hi nx2 hnx2 => ?_) (le_sz (by have := c3 l hl; omega)) ?_
      · walk_at "go"
        refine ⟨cmulk (by omega) (by omega), ?_⟩
        exact hnx2
      · walk_at "go"
        rw [mul_tI]
        exact hnx
    · walk_at "go"
      refine compL_mapG (fun i => .int (i * 100000000000000000)) (fun i hi nx2 hnx2 => ?_) (le_sz (by omega)) ?_
      · walk_at "go"
        refine ⟨⟨by decide, by decide, by decide⟩, ?_⟩
        walk_at "go"
        refine ⟨cmulk (by decide) (by decide), ?_⟩
        exact hnx2
      · rw [mul_tI, tM_map]
        walk_at "go"
        exact hq (greatC f c) w1 (great_ok hc f0 f1) rfl hw1
/-! one thing turned -/
def bump (l : List Int) : List Int := match l with
  | [] => []
  | x :: r => (x + 1) :: r
theorem bump_len (l : List Int) : (bump l).length = l.length := by cases l <;> rfl
theorem bump_ne {l : List Int} (h : l ≠ []) : bump l ≠ l := by
  cases l with
  | nil => exact absurd rfl h
  | cons x r =>
    intro z
    injection z with z _
    omega
theorem bump_in {m : Int} {l : List Int} (h : In 0 m l) : In 0 (m + 1) (bump l) := by
  cases l with
  | nil => exact in_nil
  | cons x r =>
    intro y hy
    rcases List.mem_cons.mp hy with rfl | hy
    · have := h x (List.mem_cons_self ..)
      omega
    · have := h y (List.mem_cons_of_mem _ hy)
      omega
theorem take_set {α : Type} {l : List α} {k : Nat} {a : α} (h : k < l.length) : l.take k ++ [a] ++ l.drop (k + 1) = l.set k a := by
  rw [List.set_eq_take_append_cons_drop, if_pos h, List.append_assoc]
  rfl
theorem set_ne {α : Type} {l : List α} {k : Nat} {a b : α} (h : l[k]? = some b) (hne : a ≠ b) : l.set k a ≠ l := fun z => by
  have hk := (List.getElem?_eq_some_iff.mp h).1
  have e := congrArg (fun l => l[k]?) z
  simp only [List.getElem?_set_self hk, h] at e
  exact hne (Option.some.inj e)
theorem set_mem {α : Type} {l : List α} {k : Nat} {a x : α} (h : x ∈ l.set k a) : x = a ∨ x ∈ l := by
  rcases List.mem_or_eq_of_mem_set h with h | h
  · exact .inr h
  · exact .inl h
theorem map_take_set {α : Type} {g : α → D} {l : List α} {k : Nat} {a : α} (h : k < l.length) : (l.map g).take k ++ [g a] ++ (l.map g).drop (k + 1) = (l.set k a).map g := by
  rw [take_set (by rw [List.length_map]; exact h), List.map_set]
theorem tI_bump {x : Int} {r : List Int} : D.tup ([D.int (x + 1)] ++ iL r) = tI (bump (x :: r)) := rfl
end Pr

set_option Elab.async false
set_option linter.all false
set_option maxRecDepth 100000
set_option maxHeartbeats 1000000
namespace Pr
open PySem PySem.Spec PyProof.Rows L2 Py
local macro_rules | `(tactic| walk_at "go") => `(tactic| ((conv => whnf); repeat (first | (refine And.intro rfl ?_; (conv => whnf)) | (refine And.intro (lt900 rfl) ?_; (conv => whnf)) | (refine And.intro (le100 rfl) ?_; (conv => whnf)) | (refine And.intro (by decide) ?_; (conv => whnf)) | (refine And.intro (fun _ => by decide) ?_; (conv => whnf)))))

theorem cut1 {xs : List D} : Py.cutD xs (some 1) none = xs.drop 1 := cut_from (k := 1)
theorem chOk_okC {b x : Int} {c : Ch} (h : ChOk b x c) (hb : b ≤ 1000000000) (hx : x ≤ big18) : okC c := by
  have one := h.one
  have len := h.len
  have l := h.l
  have l' := h.l'
  refine ⟨⟨by omega, in_le h.p (by decide), by omega, by omega, fun v hv => ?_⟩, ⟨by omega, in_le h.p' (by decide), by omega, by omega, fun v hv => ?_⟩, h.len, ⟨h.r.1, fun l hl => ⟨(h.r.2 l hl).1, in_le (h.r.2 l hl).2 hb⟩⟩, h.x.1, in_le h.x.2 hx⟩
  · obtain ⟨q1, q2, q3, q4⟩ := h.v v hv
    exact ⟨q1, q2, in_le q3 (by decide), in_le q4 (by decide)⟩
  · obtain ⟨q1, q2, q3, q4⟩ := h.v' v hv
    exact ⟨q1, q2, in_le q3 (by decide), in_le q4 (by decide)⟩
theorem okD_set {P : List Int} {V : List Vis} {k : Nat} {v : Vis} (h : okD P V) (hv : okVis P.length v) : okD P (V.set k v) := by
  obtain ⟨h1, h2, h3, h4, h5⟩ := h
  refine ⟨h1, h2, by rw [List.length_set]; exact h3, by rw [List.length_set]; exact h4, fun x hx => ?_⟩
  rcases set_mem hx with rfl | hx
  · exact hv
  · exact h5 x hx
theorem pu_law_turned : Body G_law_turned ir_law_turned 2 sp_law_turned := by
  intro ds w Q R hl h
  match ds, hl, h with
  | [.h 0, cd], _, h =>
    obtain ⟨c, rfl, hc, hw, hnon, hq⟩ := h
    have ok := chOk_okC hc (by decide) (by decide)
    obtain ⟨c1, c2, c3⟩ := len3 hc
    walk_at "go"
    refine ⟨hw, by decide, ?_⟩
    intro sort w1 r0 r1 hw1
    have hs : sort = 0 ∨ sort = 1 ∨ sort = 2 ∨ sort = 3 := by omega
    rcases hs with rfl | rfl | rfl | rfl

    -- sort 0
    · have ok0 : okD c.P c.V := ok.1
      walk_at "go"
      rw [tV_len]
      refine ⟨hw1, by have := ok0.2.2.1; omega, ?_⟩
      intro k w2 k0 k1 hw2
      obtain ⟨k, rfl⟩ := int_nat k0
      have kl : k < c.V.length := by omega
      have hk1 : (k : Int) ≤ (c.V.length : Int) - 1 := by omega
      have hm := visAt_mem k0 hk1
      have hget : c.V[k]? = some (visAt c.V k) := by
        unfold visAt
        rw [Int.toNat_natCast, List.getD_eq_getElem?_getD, List.getElem?_eq_getElem kl]
        rfl
      have hat := at_tV k0 hk1
      have hvok := ok0.2.2.2.2 _ hm
      generalize visAt c.V k = v at hm hget hat hvok
      obtain ⟨fee, gain⟩ := v
      walk_at "go"
      rw [hat]
      walk_at "go"
      refine ⟨(pl_tI _).p, rfl, (pl_tI _).sh (by decide), rfl, ?_⟩
      generalize he : PyData.eqv _ _ = b1
      have e1 := he.symm.trans (eqv_tI fee [])
      by_cases hf : fee = []
      · rw [decide_eq_true hf] at e1
        subst e1
        walk_at "go"
        exact hnon _ hw2
      · rw [decide_eq_false hf] at e1
        subst e1
        have hl1 : fee.length = c.P.length := hvok.1
        have hl2 : gain.length = c.P.length := hvok.2.1
        have hin : In 0 11 gain := in_le (hc.v _ hm).2.2.2 (by decide)
        cases gain with
        | nil =>
          have : fee.length = 0 := by rw [hl1, ← hl2]; rfl
          exact absurd (List.length_eq_zero_iff.mp this) hf
        | cons g0 gs =>
        have hVl : c.V.length ≤ 6 := ok0.2.2.2.1
        have hPl : c.P.length ≤ 60 := ok0.1
        rw [List.length_cons] at hl2
        have h0 : atI (iL (g0 :: gs)) 0 = some (.int g0) := at0
        walk_at "go"
        rw [h0]
        walk_at "go"
        refine ⟨le_sz (by rw [cut1]; simp only [List.length_cons, List.length_nil, List.length_drop, List.length_map]; omega), ?_⟩
        walk_at "go"
        refine ⟨le_sz (by rw [cut_to]; simp only [List.length_take, List.length_cons, List.length_nil, List.length_map]; omega), ?_⟩
        walk_at "go"
        refine ⟨le_sz (by rw [cut_to, cut_from1]; simp only [List.length_append, List.length_take, List.length_drop, List.length_cons, List.length_nil, List.length_map]; omega), ?_⟩
        walk_at "go"
        rw [cut_to, cut_from1, cut1]
        have e2 := map_take_set (g := tVis) (a := (fee, bump (g0 :: gs))) kl
        have e3 : D.tup ((c.V.map tVis).take k ++ [.tup [tI fee, .tup ([D.int (g0 + 1)] ++ (D.int g0 :: iL gs).drop 1)]] ++ (c.V.map tVis).drop (k + 1)) = tV (c.V.set k (fee, bump (g0 :: gs))) := congrArg D.tup e2
        have hres := hq { c with V := c.V.set k (fee, bump (g0 :: gs)) } w2 (⟨okD_set ok0 ⟨hvok.1, by rw [bump_len]; exact hvok.2.1, hvok.2.2.1, in_le (bump_in hin) (by decide)⟩, ok.2.1, by show c.V'.length = (c.V.set _ _).length; rw [List.length_set]; exact ok.2.2.1, ok.2.2.2⟩) (fun z => set_ne hget (fun q => bump_ne (List.cons_ne_nil _ _) (congrArg Prod.snd q)) (congrArg Ch.V z)) (by show c.P.length ≤ 10; have := hc.l; omega) hw2
        rw [show tC { c with V := c.V.set k (fee, bump (g0 :: gs)) } = .tup [.tup [tI c.P, tV (c.V.set k (fee, bump (g0 :: gs)))], .tup [tI c.P', tV c.V'], tM c.r, tI c.x] from rfl, ← e3] at hres
        exact hres

    -- sort 1
    · have ok0 : okD c.P' c.V' := ok.2.1
      walk_at "go"
      rw [tV_len]
      refine ⟨hw1, by have := ok0.2.2.1; omega, ?_⟩
      intro k w2 k0 k1 hw2
      obtain ⟨k, rfl⟩ := int_nat k0
      have kl : k < c.V'.length := by omega
      have hk1 : (k : Int) ≤ (c.V'.length : Int) - 1 := by omega
      have hm := visAt_mem k0 hk1
      have hget : c.V'[k]? = some (visAt c.V' k) := by
        unfold visAt
        rw [Int.toNat_natCast, List.getD_eq_getElem?_getD, List.getElem?_eq_getElem kl]
        rfl
      have hat := at_tV k0 hk1
      have hvok := ok0.2.2.2.2 _ hm
      generalize visAt c.V' k = v at hm hget hat hvok
      obtain ⟨fee, gain⟩ := v
      walk_at "go"
      rw [hat]
      walk_at "go"
      refine ⟨(pl_tI _).p, rfl, (pl_tI _).sh (by decide), rfl, ?_⟩
      generalize he : PyData.eqv _ _ = b1
      have e1 := he.symm.trans (eqv_tI fee [])
      by_cases hf : fee = []
      · rw [decide_eq_true hf] at e1
        subst e1
        walk_at "go"
        exact hnon _ hw2
      · rw [decide_eq_false hf] at e1
        subst e1
        have hl1 : fee.length = c.P'.length := hvok.1
        have hl2 : gain.length = c.P'.length := hvok.2.1
        have hin : In 0 11 gain := (hc.v' _ hm).2.2.2
        cases gain with
        | nil =>
          have : fee.length = 0 := by rw [hl1, ← hl2]; rfl
          exact absurd (List.length_eq_zero_iff.mp this) hf
        | cons g0 gs =>
        have hVl : c.V'.length ≤ 6 := ok0.2.2.2.1
        have hPl : c.P'.length ≤ 60 := ok0.1
        rw [List.length_cons] at hl2
        have h0 : atI (iL (g0 :: gs)) 0 = some (.int g0) := at0
        walk_at "go"
        rw [h0]
        walk_at "go"
        refine ⟨le_sz (by rw [cut1]; simp only [List.length_cons, List.length_nil, List.length_drop, List.length_map]; omega), ?_⟩
        walk_at "go"
        refine ⟨le_sz (by rw [cut_to]; simp only [List.length_take, List.length_cons, List.length_nil, List.length_map]; omega), ?_⟩
        walk_at "go"
        refine ⟨le_sz (by rw [cut_to, cut_from1]; simp only [List.length_append, List.length_take, List.length_drop, List.length_cons, List.length_nil, List.length_map]; omega), ?_⟩
        walk_at "go"
        rw [cut_to, cut_from1, cut1]
        have e2 := map_take_set (g := tVis) (a := (fee, bump (g0 :: gs))) kl
        have e3 : D.tup ((c.V'.map tVis).take k ++ [.tup [tI fee, .tup ([D.int (g0 + 1)] ++ (D.int g0 :: iL gs).drop 1)]] ++ (c.V'.map tVis).drop (k + 1)) = tV (c.V'.set k (fee, bump (g0 :: gs))) := congrArg D.tup e2
        have hres := hq { c with V' := c.V'.set k (fee, bump (g0 :: gs)) } w2 (⟨ok.1, okD_set ok0 ⟨hvok.1, by rw [bump_len]; exact hvok.2.1, hvok.2.2.1, in_le (bump_in hin) (by decide)⟩, by show (c.V'.set _ _).length = c.V.length; rw [List.length_set]; exact ok.2.2.1, ok.2.2.2⟩) (fun z => set_ne hget (fun q => bump_ne (List.cons_ne_nil _ _) (congrArg Prod.snd q)) (congrArg Ch.V' z)) (by show c.P.length ≤ 10; have := hc.l; omega) hw2
        rw [show tC { c with V' := c.V'.set k (fee, bump (g0 :: gs)) } = .tup [.tup [tI c.P, tV c.V], .tup [tI c.P', tV (c.V'.set k (fee, bump (g0 :: gs)))], tM c.r, tI c.x] from rfl, ← e3] at hres
        exact hres

    -- sort 2
    · walk_at "go"
      refine ⟨(pl_tI _).p, rfl, (pl_tI _).sh (by decide), rfl, ?_⟩
      generalize he : PyData.eqv _ _ = b1
      have e1 := he.symm.trans (eqv_tI c.x [])
      by_cases hx : c.x = []
      · rw [decide_eq_true hx] at e1
        subst e1
        walk_at "go"
        exact hnon _ hw1
      · rw [decide_eq_false hx] at e1
        subst e1
        walk_at "go"
        refine ⟨(pl_tM _).p, rfl, (pl_tM _).sh (by decide), rfl, ?_⟩
        generalize he : PyData.eqv _ _ = b1
        have e1 := he.symm.trans (eqv_tM c.r [])
        by_cases hr : c.r = []
        · rw [decide_eq_true hr] at e1
          subst e1
          walk_at "go"
          exact hnon _ hw1
        · rw [decide_eq_false hr] at e1
          subst e1
          have hrp : 0 < c.r.length := List.length_pos_iff.mpr hr
          walk_at "go"
          refine ⟨hw1, by rw [List.length_map]; omega, ?_⟩
          intro k w2 k0 k1 hw2
          rw [List.length_map] at k1
          obtain ⟨k, rfl⟩ := int_nat k0
          have kl : k < c.r.length := by omega
          have hget : c.r[k]? = some (c.r.getD k []) := by
            rw [List.getD_eq_getElem?_getD, List.getElem?_eq_getElem kl]
            rfl
          have hm : c.r.getD k [] ∈ c.r := getD_mem kl
          have hat := at_tM kl
          obtain ⟨q1, q2⟩ := hc.r.2 _ hm
          have q3 : c.x.length = c.P'.length := hc.x.1
          generalize c.r.getD k [] = l at hget hm hat q1 q2
          cases l with
          | nil =>
            rw [List.length_nil] at q1
            exact absurd (List.length_eq_zero_iff.mp (q3.trans q1.symm)) hx
          | cons g0 gs =>
          have hl3 := c3 _ hm
          rw [List.length_cons] at hl3
          have h0 : atI (iL (g0 :: gs)) 0 = some (.int g0) := at0
          walk_at "go"
          rw [hat]
          walk_at "go"
          rw [h0]
          walk_at "go"
          rw [hat]
          walk_at "go"
          refine ⟨le_sz (by rw [cut1]; simp only [List.length_cons, List.length_nil, List.length_drop, List.length_map]; omega), ?_⟩
          walk_at "go"
          refine ⟨le_sz (by rw [cut_to]; simp only [List.length_take, List.length_cons, List.length_nil, List.length_map]; omega), ?_⟩
          walk_at "go"
          refine ⟨le_sz (by rw [cut_to, cut_from1]; simp only [List.length_append, List.length_take, List.length_drop, List.length_cons, List.length_nil, List.length_map]; omega), ?_⟩
          walk_at "go"
          rw [cut_to, cut_from1, cut1]
          have e2 := map_take_set (g := tI) (a := bump (g0 :: gs)) kl
          have e3 : D.tup ((c.r.map tI).take k ++ [.tup ([D.int (g0 + 1)] ++ (D.int g0 :: iL gs).drop 1)] ++ (c.r.map tI).drop (k + 1)) = tM (c.r.set k (bump (g0 :: gs))) := congrArg D.tup e2
          have hres := hq { c with r := c.r.set k (bump (g0 :: gs)) } w2 ⟨ok.1, ok.2.1, ok.2.2.1, ⟨by show (c.r.set _ _).length = _; rw [List.length_set]; exact ok.2.2.2.1.1, fun l hl => by
            rcases set_mem hl with rfl | hl
            · exact ⟨by rw [bump_len]; exact q1, in_le (bump_in q2) (by decide)⟩
            · exact ok.2.2.2.1.2 l hl⟩, ok.2.2.2.2⟩ (fun z => set_ne hget (bump_ne (List.cons_ne_nil _ _)) (congrArg Ch.r z)) (by show c.P.length ≤ 10; have := hc.l; omega) hw2
          rw [show tC { c with r := c.r.set k (bump (g0 :: gs)) } = .tup [.tup [tI c.P, tV c.V], .tup [tI c.P', tV c.V'], tM (c.r.set k (bump (g0 :: gs))), tI c.x] from rfl, ← e3] at hres
          exact hres
    -- sort 3
    · walk_at "go"
      refine ⟨(pl_tI _).p, rfl, (pl_tI _).sh (by decide), rfl, ?_⟩
      generalize he : PyData.eqv _ _ = b1
      have e1 := he.symm.trans (eqv_tI c.x [])
      by_cases hx : c.x = []
      · rw [decide_eq_true hx] at e1
        subst e1
        walk_at "go"
        exact hnon _ hw1
      · rw [decide_eq_false hx] at e1
        subst e1
        obtain ⟨P, V, P', V', r, x⟩ := c
        cases x with
        | nil => exact absurd rfl hx
        | cons g0 gs =>
        have h0 : atI (iL (g0 :: gs)) 0 = some (.int g0) := at0
        walk_at "go"
        rw [h0]
        walk_at "go"
        refine ⟨le_sz (by rw [cut1]; replace c2 : (g0 :: gs).length ≤ 3 := c2; rw [List.length_cons] at c2; simp only [List.length_cons, List.length_nil, List.length_drop, List.length_map]; omega), ?_⟩
        walk_at "go"
        rw [cut1]
        exact hq ⟨P, V, P', V', r, bump (g0 :: gs)⟩ w1 ⟨ok.1, ok.2.1, ok.2.2.1, ok.2.2.2.1, by rw [bump_len]; exact ok.2.2.2.2.1, in_le (bump_in hc.x.2) (by decide)⟩ (fun z => bump_ne (List.cons_ne_nil _ _) (congrArg Ch.x z)) (Nat.le_trans (show P.length ≤ 3 from hc.l) (by decide)) hw1
end Pr

set_option Elab.async false
set_option linter.all false
set_option maxRecDepth 100000
set_option maxHeartbeats 1000000
namespace Pr
open PySem PySem.Spec PyProof.Rows L2 Py
local macro_rules | `(tactic| walk_at "go") => `(tactic| ((conv => whnf); repeat (first | (refine And.intro rfl ?_; (conv => whnf)) | (refine And.intro (lt900 rfl) ?_; (conv => whnf)) | (refine And.intro (le100 rfl) ?_; (conv => whnf)) | (refine And.intro (by decide) ?_; (conv => whnf)) | (refine And.intro (fun _ => by decide) ?_; (conv => whnf)))))

theorem visAt_len {V : List Vis} {k : Int} (h : ∀ v, v ∈ V → v.1.length ≤ 60) : (visAt V k).1.length ≤ 60 := by
  unfold visAt
  rw [List.getD_eq_getElem?_getD]
  cases e : V[k.toNat]? with
  | none => exact Nat.zero_le _
  | some v => exact h v (List.mem_of_getElem? e)
theorem lacks_len (p f : List Int) : (lacksF p f).length ≤ f.length := by
  unfold lacksF
  rw [List.length_map]
  exact Nat.le_trans (List.length_filter_le _ _) (by rw [List.length_range]; exact Nat.le_refl _)
theorem walk_stop : ∀ {V : List Vis} {row : List Int} {i a : Int} {p l : List Int}, (∀ v, v ∈ V → v.1.length ≤ 60) → walkF V row i p = .stop a l → l.length ≤ 60
  | V, [], i, a, p, l, _, h => by cases h
  | V, k :: r, i, a, p, l, hv, h => by
    have hw2 : walkF V (k :: r) i p = if lacksF p (visAt V k).1 = [] then walkF V r (i + 1) (paidF p (visAt V k)) else .stop i (lacksF p (visAt V k).1) := rfl
    rw [hw2] at h
    split at h
    · exact walk_stop hv h
    · injection h with _ h
      rw [← h]
      exact Nat.le_trans (lacks_len _ _) (visAt_len hv)
theorem tr_way {n : Nat} {w : Way} (h : ∀ a l, w = .stop a l → l.length ≤ 1000) (h2 : ∀ p, w = .let_ p → p.length ≤ 1000) : Tr (n + 2) w.toD := by
  cases w with
  | stop a l =>
    refine .tup (fun x hx => ?_) (by show (3 : Nat) ≤ 1000; decide)
    simp only [List.mem_cons, List.not_mem_nil, or_false] at hx
    rcases hx with rfl | rfl | rfl
    · exact .str _ sh_stopped
    · exact .int _
    · exact tr_tI (h a l rfl)
  | let_ p =>
    refine .tup (fun x hx => ?_) (by show (2 : Nat) ≤ 1000; decide)
    simp only [List.mem_cons, List.not_mem_nil, or_false] at hx
    rcases hx with rfl | rfl
    · exact .str _ sh_let
    · exact tr_tI (h2 p rfl)
theorem exF_len (r : List (List Int)) (x p : List Int) : (exF r x p).length = x.length := by unfold exF; rw [List.length_map, List.length_range]
theorem tr_over {n : Nat} {c : Ch} {b a : List Int} (h : okC c) : Tr (n + 2) (overF c b a).toD := by
  obtain ⟨d1, d2, _, _, x1, _⟩ := h
  have l1 := d1.1
  have l2 := d2.1
  have v1 : ∀ v, v ∈ c.V → v.1.length ≤ 60 := fun v hv => by rw [(d1.2.2.2.2 v hv).1]; exact l1
  have v2 : ∀ v, v ∈ c.V' → v.1.length ≤ 60 := fun v hv => by rw [(d2.2.2.2.2 v hv).1]; exact l2
  refine tr_way (fun a' l e => ?_) (fun p e => ?_)
  · unfold overF at e
    cases hw : walkF c.V b 0 c.P with
    | stop i l0 =>
      simp only [hw] at e
      injection e with _ e
      subst e
      have := walk_stop v1 hw
      omega
    | let_ p =>
      simp only [hw] at e
      cases hw2 : walkF c.V' a 0 (exF c.r c.x p) with
      | stop i l0 =>
        simp only [hw2] at e
        injection e with _ e
        subst e
        have := walk_stop v2 hw2
        omega
      | let_ q =>
        simp only [hw2] at e
        cases e
  · unfold overF at e
    cases hw : walkF c.V b 0 c.P with
    | stop i l0 =>
      simp only [hw] at e
      cases e
    | let_ p0 =>
      simp only [hw] at e
      cases hw2 : walkF c.V' a 0 (exF c.r c.x p0) with
      | stop i l0 =>
        simp only [hw2] at e
        cases e
      | let_ q =>
        simp only [hw2] at e
        injection e with e
        subst e
        have := walk_len hw2
        rw [exF_len] at this
        omega
theorem cut_iL (l : List Int) (a b : Option Int) : ∃ m : List Int, Py.cutD (iL l) a b = iL m ∧ m.length ≤ l.length ∧ ∀ x, x ∈ m → x ∈ l := by
  unfold Py.cutD
  refine ⟨(l.drop (HT.sIx (iL l).length 0 a)).take (HT.sIx (iL l).length (iL l).length b - HT.sIx (iL l).length 0 a), ?_, ?_, fun x hx => List.mem_of_mem_drop (List.mem_of_mem_take hx)⟩
  · unfold iL
    rw [List.map_take, List.map_drop]
  · rw [List.length_take, List.length_drop]
    omega
theorem row_nil {V : List Vis} : rowOk V [] := ⟨Nat.zero_le _, in_nil⟩
theorem chOk_up {c : Ch} (h : ChOk 2 2 c) : ChOk 800000000 200000000000000000 c := { h with r := ⟨h.r.1, fun l hl => ⟨(h.r.2 l hl).1, in_le (h.r.2 l hl).2 (by decide)⟩⟩, x := ⟨h.x.1, in_le h.x.2 (by decide)⟩ }
theorem dec_same {c : Ch} : decide (c = c) = true := decide_eq_true rfl
theorem pu_law : Body G_law ir_law 1 sp_law := by
  intro ds w Q R hl h
  match ds, hl, h with
  | [.scr ns], _, h =>
    obtain ⟨rfl, hns, hq⟩ := h
    walk_at "go"
    refine ⟨hns, ?_⟩
    intro w1 hw1
    walk_at "go"
    refine ⟨⟨by decide, by decide⟩, ?_⟩
    refine forL_ind (fun rest env w' => BoxW w' ∧ ∃ (s2 s3 s4 s5 s6 s7 s8 s9 s10 s11 s12 s13 s14 s15 s16 : Py.Slot), PlS s16 ∧
      env = [.val (.scr ns), .val (.h 0), s2, s3, s4, s5, s6, s7, s8, s9, s10, s11, s12, s13, s14, s15, s16]) ?_ ?_ _ _ _ ⟨hw1, .none, .none, .none, .none, .none, .none, .none, .none, .none, .none, .none, .none, .none, .none, .none, .inl rfl, rfl⟩
    · rintro d rest env w' nx ⟨hw, s2, s3, s4, s5, s6, s7, s8, s9, s10, s11, s12, s13, s14, s15, s16, p16, rfl⟩ hnx
      -- the rest of a turn, behind the change
      have fin1 : ∀ (Rs : List D) (c : Ch) (w' : W) (K : En), K.nx = nx → K.rt = Q → ChOk 800000000 200000000000000000 c → rowsFor c.V Rs → BoxW w' →
          wpSs G_law (fun x _ w => R x w) ((ir_law.get 1).bod.drop 2) [.val (.scr ns), .val (.h 0), .val d, s3, s4, s5, s6, s7, s8, s9, .val (.tup Rs), .val (tC c), s12, s13, s14, s15, s16] w' K := by
        intro Rs c w' K hK hrt hc hR hw
        have ok := chOk_okC hc (by decide) (by decide)
        have hP3 := hc.l
        have hP3' := hc.l'
        have one := hc.one
        -- the rows
        have fin3 : ∀ (s3 s4 s7 s9 s13 s14 s15 s16 : Py.Slot) (m : Int) (b left : List Int) (w' : W), PlS s16 → 0 ≤ m → m ≤ 400 → rowOk c.V b → left.length = c.P'.length → BoxW w' →
            wpSs G_law (fun x _ w => R x w) ((ir_law.get 1).bod.drop 12) [.val (.scr ns), .val (.h 0), .val d, s3, s4, .val (.int m), .val (tI b), s7, .val (tI left), s9, .val (.tup Rs), .val (tC c), .val (oC c), s13, s14, s15, s16] w' K := by
          intro s3 s4 s7 s9 s13 s14 s15 s16 m b left w' p16 m0 m1 hb hleft hw
          obtain ⟨knx, krt, kbk, kct⟩ := K
          replace hK : knx = nx := hK
          replace hrt : krt = Q := hrt
          subst hK hrt
          walk_at "go"
          refine ⟨left, c.V', rfl, rfl, by omega, fun v hv => ⟨(hc.v' v hv).1.trans hleft.symm, (hc.v' v hv).2.1.trans hleft.symm⟩, by rw [hc.len]; exact one.1, by rw [hc.len]; omega, m0, m1, hw, ?_⟩
          intro a w1 ha hw1
          have ha : rowOk c.V a := ⟨ha.1, by have := ha.2; rw [hc.len] at this; exact this⟩
          obtain ⟨b2, hb2, hb3, hb4⟩ := cut_iL b none (some (-1))
          have hb2 : Py.cutD (iL b) none (some (-1)) = iL b2 := hb2
          have rb2 : rowOk c.V b2 := ⟨Nat.le_trans hb3 hb.1, fun x hx => hb.2 x (hb4 x hx)⟩
          (conv => whnf)
          iterate 6 (refine And.intro (le100 rfl) ?_; (conv => whnf))
          refine And.intro (le100 rfl) ?_
          refine forL_ind (fun rest env w' => BoxW w' ∧ (∀ x, x ∈ rest → ∃ b a, x = .tup [tI b, tI a] ∧ rowOk c.V b ∧ rowOk c.V a) ∧ ∃ (s14 s15 : Py.Slot),
            env = [.val (.scr ns), .val (.h 0), .val d, s3, s4, .val (.int m), .val (tI b), s7, .val (tI left), .val (tI a), .val (.tup Rs), .val (tC c), .val (oC c), s13, s14, s15, s16]) ?_ ?_ _ _ _ ⟨hw1, fun x hx => ?_, s14, s15, rfl⟩
          · rintro x rest env w' nx ⟨hw, hx, s14, s15, rfl⟩ hnx
            obtain ⟨b, a, rfl, hb, ha⟩ := hx x (List.mem_cons_self ..)
            walk_at "go"
            refine ⟨hw, tr_tI (by have := hb.1; omega), ?_⟩
            intro b' w1 hb' hw1
            walk_at "go"
            refine ⟨hw1, tr_tI (by have := ha.1; omega), ?_⟩
            intro a' w2 ha' hw2
            walk_at "go"
            refine ⟨c, b, a, rfl, ls_tI hb', ls_tI ha', ok, hb, ha, ?_⟩
            walk_at "go"
            refine ⟨c, b, a, rfl, rfl, rfl, ok, hb, ha, ?_⟩
            walk_at "go"
            refine ⟨tr_over ok, ?_⟩
            exact hnx _ _ ⟨hw2, fun y hy => hx y (List.mem_cons_of_mem _ hy), _, _, rfl⟩
          · rintro env w' ⟨hw, hx, s14, s15, rfl⟩
            walk_at "go"
            refine ⟨c, rfl, rfl, ok, ?_⟩
            obtain ⟨sn, h1, h10, hrows⟩ := hR
            walk_at "go"
            refine ⟨hw, ⟨c.V.length, sn, hrows, one.1, by omega, h1, by omega⟩, ?_⟩
            intro fs w1 hw1
            walk_at "go"
            exact hnx _ _ ⟨hw1, _, _, _, _, _, _, _, _, _, _, _, _, _, _, _, p16, rfl⟩
          · simp only [List.mem_cons, List.not_mem_nil, or_false] at hx
            rcases hx with rfl | rfl | rfl | rfl
            · exact ⟨b, a, rfl, hb, ha⟩
            · exact ⟨b2, a, congrArg (fun z => D.tup [D.tup z, tI a]) hb2, rb2, ha⟩
            · exact ⟨b, [], rfl, hb, row_nil⟩
            · exact ⟨[], a, rfl, row_nil, ha⟩
        -- behind the turned one
        have fin2 : ∀ (s3 s13 s14 s15 : Py.Slot) (w' : W), BoxW w' →
            wpSs G_law (fun x _ w => R x w) ((ir_law.get 1).bod.drop 6) [.val (.scr ns), .val (.h 0), .val d, s3, s4, s5, s6, s7, s8, s9, .val (.tup Rs), .val (tC c), .val (oC c), s13, s14, s15, s16] w' K := by
          intro s3 s13 s14 s15 w' hw
          obtain ⟨knx, krt, kbk, kct⟩ := K
          replace hK : knx = nx := hK
          replace hrt : krt = Q := hrt
          subst hK hrt
          rcases p16 with rfl | ⟨d16, rfl⟩ <;> (
            walk_at "go"
            rw [iL_len]
            refine ⟨sm60 (by omega), ?_⟩
            rw [rng_num]
            refine compL_P BoxW (dg big30) (by rw [numI_len]; exact le_sz (by omega)) hw (fun d w nx hd hw hnx => ?_) ?_
            · walk_at "go"
              refine ⟨⟨by decide, by decide, by decide⟩, ?_⟩
              walk_at "go"
              refine ⟨hw, (fun z => nomatch z), by simp, ?_⟩
              intro x w2 hx hw2
              walk_at "go"
              refine hnx _ _ ?_ hw2
              simp only [List.mem_cons, List.not_mem_nil, or_false] at hx
              rcases hx with rfl | rfl | rfl | rfl
              · exact ⟨_, rfl, by decide, by decide⟩
              · exact ⟨_, rfl, by decide, by decide⟩
              · exact ⟨_, rfl, by decide, by decide⟩
              · exact ⟨_, rfl, by decide, by decide⟩
            intro acc w2 hal hp hw2
            obtain ⟨p, rfl, hpin⟩ := dg_all hp
            rw [numI_len, List.length_map] at hal
            walk_at "go"
            refine ⟨hw2, tr_tI (by omega), ?_⟩
            intro p' w3 hp' hw3
            walk_at "go"
            refine ⟨c, p, rfl, ls_tI hp', ok, hal, hpin, ?_⟩
            walk_at "go"
            refine ⟨c.r, c.x, p, rfl, rfl, rfl, by rw [hal]; exact ok.2.2.2.1.1, by omega, by rw [ok.2.2.2.2.1]; omega, fun l hl => ⟨by rw [ok.2.2.2.2.1]; exact (ok.2.2.2.1.2 l hl).1, (ok.2.2.2.1.2 l hl).2⟩, ?_⟩
            walk_at "go"
            refine ⟨tr_tI (by rw [exF_len, ok.2.2.2.2.1]; omega), ?_⟩
            walk_at "go"
            refine ⟨hw3, (fun z => nomatch z), by simp, ?_⟩
            intro most w4 hmost hw4
            have hm : ∃ m : Int, most = .int m ∧ 0 ≤ m ∧ m ≤ 400 := by
              simp only [List.mem_cons, List.not_mem_nil, or_false] at hmost
              rcases hmost with rfl | rfl | rfl
              · exact ⟨_, rfl, by decide, by decide⟩
              · exact ⟨_, rfl, by decide, by decide⟩
              · exact ⟨_, rfl, by decide, by decide⟩
            obtain ⟨m, rfl, m0, m1⟩ := hm
            walk_at "go"
            refine ⟨c.P, c.V, rfl, rfl, by omega, fun v hv => ⟨(hc.v v hv).1, (hc.v v hv).2.1⟩, one.1, by omega, m0, m1, hw4, ?_⟩
            intro b w5 hb hw5
            walk_at "go"
            refine ⟨c.P.length, c.V, c.P, b, rfl, rfl, rfl, ⟨rfl, by omega, fun v hv => ⟨(hc.v v hv).1, (hc.v v hv).2.1⟩, hb.2, hb.1⟩, ?_⟩
            cases hwk : walkF c.V b 0 c.P with
            | stop i l =>
              walk_at "go"
              refine ⟨sh_stopped, sh_let, ?_⟩
              generalize he : PyData.eqv _ _ = b1
              obtain rfl := he.symm.trans eq_sl
              walk_at "go"
              refine ⟨c.r, c.x, c.P, rfl, rfl, rfl, ok.2.2.2.1.1, by omega, by rw [ok.2.2.2.2.1]; omega, fun l hl => ⟨by rw [ok.2.2.2.2.1]; exact (ok.2.2.2.1.2 l hl).1, (ok.2.2.2.1.2 l hl).2⟩, ?_⟩
              exact fin3 _ _ _ _ _ _ _ _ m b (exF c.r c.x c.P) _ (by first | exact .inl rfl | exact .inr ⟨_, rfl⟩) m0 m1 hb (by rw [exF_len, ok.2.2.2.2.1]) hw5
            | let_ q =>
              have hql := walk_len hwk
              walk_at "go"
              refine ⟨sh_let, sh_let, ?_⟩
              generalize he : PyData.eqv _ _ = b1
              obtain rfl := he.symm.trans eq_ll
              walk_at "go"
              refine ⟨c.r, c.x, q, rfl, rfl, rfl, by rw [hql]; exact ok.2.2.2.1.1, by omega, by rw [ok.2.2.2.2.1]; omega, fun l hl => ⟨by rw [ok.2.2.2.2.1]; exact (ok.2.2.2.1.2 l hl).1, (ok.2.2.2.1.2 l hl).2⟩, ?_⟩
              exact fin3 _ _ _ _ _ _ _ _ m b (exF c.r c.x q) _ (by first | exact .inl rfl | exact .inr ⟨_, rfl⟩) m0 m1 hb (by rw [exF_len, ok.2.2.2.2.1]) hw5)
        walk_at "go"
        refine ⟨c, rfl, ok, by omega, hw, ?_⟩
        intro w1 hw1
        walk_at "go"
        refine ⟨c, rfl, ok, by omega, hw1, ?_⟩
        intro w2 hw2
        walk_at "go"
        refine ⟨c, rfl, rfl, ok, ?_⟩
        walk_at "go"
        refine ⟨c, c, rfl, rfl, ?_⟩
        rw [dec_same]
        walk_at "go"
        refine ⟨c, c, rfl, rfl, ?_⟩
        rw [dec_same]
        walk_at "go"
        refine ⟨c, rfl, hc, hw2, ?_, ?_⟩
        · intro w3 hw3
          exact fin2 _ _ _ _ _ hw3
        · intro c' w3 hok' hne hl' hw3
          have hd : decide (c = c') = false := decide_eq_false fun z => hne z.symm
          walk_at "go"
          refine ⟨c', rfl, hok', hl', hw3, ?_⟩
          intro w4 hw4
          walk_at "go"
          refine ⟨c, c', rfl, rfl, ?_⟩
          rw [hd]
          walk_at "go"
          refine ⟨c', rfl, hok', hl', hw4, ?_⟩
          intro w5 hw5
          walk_at "go"
          refine ⟨c, c', rfl, rfl, ?_⟩
          rw [hd]
          exact fin2 _ _ _ _ _ hw5
      walk_at "go"
      refine ⟨hw, ?_⟩
      intro Rs c w1 hc hR hw1
      walk_at "go"
      refine ⟨hw1, by decide, ?_⟩
      intro t w2 _ _ hw2
      walk_at "go"
      refine bsplit (fun e => ?_) (fun e => ?_)
      · walk_at "go"
        refine ⟨c, rfl, hc, hw2, ?_⟩
        intro c' w3 hc' hV hw3
        exact fin1 Rs c' w3 _ rfl rfl hc' (by rw [hV]; exact hR) hw3
      · exact fin1 Rs c w2 _ rfl rfl (chOk_up hc) hR hw2
    · rintro env w' ⟨hw, s2, s3, s4, s5, s6, s7, s8, s9, s10, s11, s12, s13, s14, s15, s16, p16, rfl⟩
      walk_at "go"
      exact hq _
end Pr

set_option Elab.async false
set_option linter.all false
set_option maxRecDepth 100000
set_option maxHeartbeats 0
namespace Hd
open PySem PySem.Spec PyProof.Rows L2 Py Pr
def spF : Py.Spec := fun _ _ _ _ => False
theorem gi_cons {mg : Str → Option Value} {x : Str} {i : Int} {l : List (Str × Int)} (h : ∃ t, mg x = some (.int i t)) (t : ∀ p, p ∈ l → ∃ t, mg p.1 = some (.int p.2 t)) : ∀ p, p ∈ (x, i) :: l → ∃ t, mg p.1 = some (.int p.2 t) := all_cons (P := fun p : Str × Int => ∃ t, mg p.1 = some (.int p.2 t)) h t
section
variable {P : Program} {w : World} {K : PySem.W.Frag} {h : Heap} {mg : Str → Option Value}
theorem facts (X : K.In h) (G : h.Ns mainGlobals mg) (c : He.SaysD fa fn K) (cx : xb K = true) :
    ∃ (f : Addr) (fd : FuncData), mg "law" = some (.ref f) ∧ (∀ (s : Shared) (u : Value), BindsTo s fd ⟨[u], []⟩ [("script", u)]) ∧
      ∀ base : Heap, K.In base → base.Ns mainGlobals mg → FnOk P w K mg base (L2.CX P w) 12 f fd ["script"] (spOf (⟨mg, K, fl, cn⟩ : Mo) 1 sp_law) := by
  obtain ⟨fd_law_take, F_law_take⟩ := c.def_ 0 (d := d_law_take) rfl
  obtain ⟨fd_law_loose, F_law_loose⟩ := c.def_ 1 (d := d_law_loose) rfl
  obtain ⟨fd_is_integer, F_is_integer⟩ := c.def_ 2 (d := d_is_integer) rfl
  obtain ⟨fd_is_below, F_is_below⟩ := c.def_ 3 (d := d_is_below) rfl
  obtain ⟨fd_is_sequence, F_is_sequence⟩ := c.def_ 4 (d := d_is_sequence) rfl
  obtain ⟨fd_is_row, F_is_row⟩ := c.def_ 5 (d := d_is_row) rfl
  obtain ⟨fd_is_between, F_is_between⟩ := c.def_ 6 (d := d_is_between) rfl
  obtain ⟨fd_Book_init, F_Book_init⟩ := c.def_ 7 (d := d_Book_init) rfl
  obtain ⟨fd_law_book, F_law_book⟩ := c.def_ 8 (d := d_law_book) rfl
  obtain ⟨fd_law_is_int, F_law_is_int⟩ := c.def_ 9 (d := d_law_is_int) rfl
  obtain ⟨fd_law_same, F_law_same⟩ := c.def_ 10 (d := d_law_same) rfl
  obtain ⟨fd_is_tickets, F_is_tickets⟩ := c.def_ 11 (d := d_is_tickets) rfl
  obtain ⟨fd_is_visit, F_is_visit⟩ := c.def_ 12 (d := d_is_visit) rfl
  obtain ⟨fd_Doors_init, F_Doors_init⟩ := c.def_ 13 (d := d_Doors_init) rfl
  obtain ⟨fd_law_are_doors, F_law_are_doors⟩ := c.def_ 14 (d := d_law_are_doors) rfl
  obtain ⟨fd_need_rates, F_need_rates⟩ := c.def_ 15 (d := d_need_rates) rfl
  obtain ⟨fd_Change_init, F_Change_init⟩ := c.def_ 16 (d := d_Change_init) rfl
  obtain ⟨fd_law_is_change, F_law_is_change⟩ := c.def_ 17 (d := d_law_is_change) rfl
  obtain ⟨fd_law_paid, F_law_paid⟩ := c.def_ 18 (d := d_law_paid) rfl
  obtain ⟨fd_law_lacks, F_law_lacks⟩ := c.def_ 19 (d := d_law_lacks) rfl
  obtain ⟨fd_law_walk, F_law_walk⟩ := c.def_ 20 (d := d_law_walk) rfl
  obtain ⟨fd_law_worth, F_law_worth⟩ := c.def_ 21 (d := d_law_worth) rfl
  obtain ⟨fd_law_exchange, F_law_exchange⟩ := c.def_ 22 (d := d_law_exchange) rfl
  obtain ⟨fd_law_walk_over, F_law_walk_over⟩ := c.def_ 23 (d := d_law_walk_over) rfl
  obtain ⟨fd_paid, F_paid⟩ := c.def_ 24 (d := d_paid) rfl
  obtain ⟨fd_lacks_in, F_lacks_in⟩ := c.def_ 25 (d := d_lacks_in) rfl
  obtain ⟨fd_walk_from, F_walk_from⟩ := c.def_ 26 (d := d_walk_from) rfl
  obtain ⟨fd_worth, F_worth⟩ := c.def_ 27 (d := d_worth) rfl
  obtain ⟨fd_exchange_of, F_exchange_of⟩ := c.def_ 28 (d := d_exchange_of) rfl
  obtain ⟨fd_row_wrong, F_row_wrong⟩ := c.def_ 29 (d := d_row_wrong) rfl
  obtain ⟨fd_need_change, F_need_change⟩ := c.def_ 30 (d := d_need_change) rfl
  obtain ⟨fd_gone_over, F_gone_over⟩ := c.def_ 31 (d := d_gone_over) rfl
  obtain ⟨fd_law_pick, F_law_pick⟩ := c.def_ 32 (d := d_law_pick) rfl
  obtain ⟨fd_law_fits, F_law_fits⟩ := c.def_ 33 (d := d_law_fits) rfl
  obtain ⟨fd_law_drawn_row, F_law_drawn_row⟩ := c.def_ 34 (d := d_law_drawn_row) rfl
  obtain ⟨fd_need_purse, F_need_purse⟩ := c.def_ 35 (d := d_need_purse) rfl
  obtain ⟨fd_exchanged, F_exchanged⟩ := c.def_ 36 (d := d_exchanged) rfl
  obtain ⟨fd_law_doors, F_law_doors⟩ := c.def_ 37 (d := d_law_doors) rfl
  obtain ⟨fd_law_change, F_law_change⟩ := c.def_ 38 (d := d_law_change) rfl
  obtain ⟨fd_law_turned, F_law_turned⟩ := c.def_ 39 (d := d_law_turned) rfl
  obtain ⟨fd_law_greater, F_law_greater⟩ := c.def_ 40 (d := d_law_greater) rfl
  obtain ⟨fd_law_number, F_law_number⟩ := c.def_ 41 (d := d_law_number) rfl
  obtain ⟨fd_law_visits, F_law_visits⟩ := c.def_ 42 (d := d_law_visits) rfl
  obtain ⟨fd_law_rows, F_law_rows⟩ := c.def_ 43 (d := d_law_rows) rfl
  obtain ⟨fd_law_hall, F_law_hall⟩ := c.def_ 44 (d := d_law_hall) rfl
  obtain ⟨fd_law_case, F_law_case⟩ := c.def_ 45 (d := d_law_case) rfl
  obtain ⟨fd_law_hall_change, F_law_hall_change⟩ := c.def_ 46 (d := d_law_hall_change) rfl
  obtain ⟨fd_law_change_case, F_law_change_case⟩ := c.def_ 47 (d := d_law_change_case) rfl
  obtain ⟨fd_law_box, F_law_box⟩ := c.def_ 48 (d := d_law_box) rfl
  obtain ⟨fd_Doors_eq, F_Doors_eq⟩ := c.def_ 49 (d := d_Doors_eq) rfl
  obtain ⟨fd_Change_eq, F_Change_eq⟩ := c.def_ 50 (d := d_Change_eq) rfl
  obtain ⟨fd_law, F_law⟩ := c.def_ 51 (d := d_law) rfl
  have g_law_take : mg "_law_take" = some (.ref (He.ga K "_law_take")) := He.glo_ok X G (c.fact 0 (f := .glo "_law_take") rfl)
  have g_law_loose : mg "_law_loose" = some (.ref (He.ga K "_law_loose")) := He.glo_ok X G (c.fact 1 (f := .glo "_law_loose") rfl)
  have g_is_integer : mg "is_integer" = some (.ref (He.ga K "is_integer")) := He.glo_ok X G (c.fact 2 (f := .glo "is_integer") rfl)
  have g_is_below : mg "is_below" = some (.ref (He.ga K "is_below")) := He.glo_ok X G (c.fact 3 (f := .glo "is_below") rfl)
  have g_is_sequence : mg "is_sequence" = some (.ref (He.ga K "is_sequence")) := He.glo_ok X G (c.fact 4 (f := .glo "is_sequence") rfl)
  have g_is_row : mg "is_row" = some (.ref (He.ga K "is_row")) := He.glo_ok X G (c.fact 5 (f := .glo "is_row") rfl)
  have g_is_between : mg "is_between" = some (.ref (He.ga K "is_between")) := He.glo_ok X G (c.fact 6 (f := .glo "is_between") rfl)
  have g_law_book : mg "_law_book" = some (.ref (He.ga K "_law_book")) := He.glo_ok X G (c.fact 8 (f := .glo "_law_book") rfl)
  have g_law_is_int : mg "_law_is_int" = some (.ref (He.ga K "_law_is_int")) := He.glo_ok X G (c.fact 9 (f := .glo "_law_is_int") rfl)
  have g_law_same : mg "_law_same" = some (.ref (He.ga K "_law_same")) := He.glo_ok X G (c.fact 10 (f := .glo "_law_same") rfl)
  have g_is_tickets : mg "is_tickets" = some (.ref (He.ga K "is_tickets")) := He.glo_ok X G (c.fact 11 (f := .glo "is_tickets") rfl)
  have g_is_visit : mg "is_visit" = some (.ref (He.ga K "is_visit")) := He.glo_ok X G (c.fact 12 (f := .glo "is_visit") rfl)
  have g_law_are_doors : mg "_law_are_doors" = some (.ref (He.ga K "_law_are_doors")) := He.glo_ok X G (c.fact 14 (f := .glo "_law_are_doors") rfl)
  have g_need_rates : mg "need_rates" = some (.ref (He.ga K "need_rates")) := He.glo_ok X G (c.fact 15 (f := .glo "need_rates") rfl)
  have g_law_is_change : mg "_law_is_change" = some (.ref (He.ga K "_law_is_change")) := He.glo_ok X G (c.fact 17 (f := .glo "_law_is_change") rfl)
  have g_law_paid : mg "_law_paid" = some (.ref (He.ga K "_law_paid")) := He.glo_ok X G (c.fact 18 (f := .glo "_law_paid") rfl)
  have g_law_lacks : mg "_law_lacks" = some (.ref (He.ga K "_law_lacks")) := He.glo_ok X G (c.fact 19 (f := .glo "_law_lacks") rfl)
  have g_law_walk : mg "_law_walk" = some (.ref (He.ga K "_law_walk")) := He.glo_ok X G (c.fact 20 (f := .glo "_law_walk") rfl)
  have g_law_worth : mg "_law_worth" = some (.ref (He.ga K "_law_worth")) := He.glo_ok X G (c.fact 21 (f := .glo "_law_worth") rfl)
  have g_law_exchange : mg "_law_exchange" = some (.ref (He.ga K "_law_exchange")) := He.glo_ok X G (c.fact 22 (f := .glo "_law_exchange") rfl)
  have g_law_walk_over : mg "_law_walk_over" = some (.ref (He.ga K "_law_walk_over")) := He.glo_ok X G (c.fact 23 (f := .glo "_law_walk_over") rfl)
  have g_paid : mg "paid" = some (.ref (He.ga K "paid")) := He.glo_ok X G (c.fact 24 (f := .glo "paid") rfl)
  have g_lacks_in : mg "lacks_in" = some (.ref (He.ga K "lacks_in")) := He.glo_ok X G (c.fact 25 (f := .glo "lacks_in") rfl)
  have g_walk_from : mg "walk_from" = some (.ref (He.ga K "walk_from")) := He.glo_ok X G (c.fact 26 (f := .glo "walk_from") rfl)
  have g_worth : mg "worth" = some (.ref (He.ga K "worth")) := He.glo_ok X G (c.fact 27 (f := .glo "worth") rfl)
  have g_exchange_of : mg "exchange_of" = some (.ref (He.ga K "exchange_of")) := He.glo_ok X G (c.fact 28 (f := .glo "exchange_of") rfl)
  have g_row_wrong : mg "row_wrong" = some (.ref (He.ga K "row_wrong")) := He.glo_ok X G (c.fact 29 (f := .glo "row_wrong") rfl)
  have g_need_change : mg "need_change" = some (.ref (He.ga K "need_change")) := He.glo_ok X G (c.fact 30 (f := .glo "need_change") rfl)
  have g_gone_over : mg "gone_over" = some (.ref (He.ga K "gone_over")) := He.glo_ok X G (c.fact 31 (f := .glo "gone_over") rfl)
  have g_law_pick : mg "_law_pick" = some (.ref (He.ga K "_law_pick")) := He.glo_ok X G (c.fact 32 (f := .glo "_law_pick") rfl)
  have g_law_fits : mg "_law_fits" = some (.ref (He.ga K "_law_fits")) := He.glo_ok X G (c.fact 33 (f := .glo "_law_fits") rfl)
  have g_law_drawn_row : mg "_law_drawn_row" = some (.ref (He.ga K "_law_drawn_row")) := He.glo_ok X G (c.fact 34 (f := .glo "_law_drawn_row") rfl)
  have g_need_purse : mg "need_purse" = some (.ref (He.ga K "need_purse")) := He.glo_ok X G (c.fact 35 (f := .glo "need_purse") rfl)
  have g_exchanged : mg "exchanged" = some (.ref (He.ga K "exchanged")) := He.glo_ok X G (c.fact 36 (f := .glo "exchanged") rfl)
  have g_law_doors : mg "_law_doors" = some (.ref (He.ga K "_law_doors")) := He.glo_ok X G (c.fact 37 (f := .glo "_law_doors") rfl)
  have g_law_change : mg "_law_change" = some (.ref (He.ga K "_law_change")) := He.glo_ok X G (c.fact 38 (f := .glo "_law_change") rfl)
  have g_law_turned : mg "_law_turned" = some (.ref (He.ga K "_law_turned")) := He.glo_ok X G (c.fact 39 (f := .glo "_law_turned") rfl)
  have g_law_greater : mg "_law_greater" = some (.ref (He.ga K "_law_greater")) := He.glo_ok X G (c.fact 40 (f := .glo "_law_greater") rfl)
  have g_law_number : mg "_law_number" = some (.ref (He.ga K "_law_number")) := He.glo_ok X G (c.fact 41 (f := .glo "_law_number") rfl)
  have g_law_visits : mg "_law_visits" = some (.ref (He.ga K "_law_visits")) := He.glo_ok X G (c.fact 42 (f := .glo "_law_visits") rfl)
  have g_law_rows : mg "_law_rows" = some (.ref (He.ga K "_law_rows")) := He.glo_ok X G (c.fact 43 (f := .glo "_law_rows") rfl)
  have g_law_hall : mg "_law_hall" = some (.ref (He.ga K "_law_hall")) := He.glo_ok X G (c.fact 44 (f := .glo "_law_hall") rfl)
  have g_law_case : mg "_law_case" = some (.ref (He.ga K "_law_case")) := He.glo_ok X G (c.fact 45 (f := .glo "_law_case") rfl)
  have g_law_hall_change : mg "_law_hall_change" = some (.ref (He.ga K "_law_hall_change")) := He.glo_ok X G (c.fact 46 (f := .glo "_law_hall_change") rfl)
  have g_law_change_case : mg "_law_change_case" = some (.ref (He.ga K "_law_change_case")) := He.glo_ok X G (c.fact 47 (f := .glo "_law_change_case") rfl)
  have g_law_box : mg "_law_box" = some (.ref (He.ga K "_law_box")) := He.glo_ok X G (c.fact 48 (f := .glo "_law_box") rfl)
  have g_law : mg "law" = some (.ref (He.ga K "law")) := He.glo_ok X G (c.fact 49 (f := .glo "law") rfl)
  have hcn : ∀ n, n ∈ cn → mg n = some (.ref (He.ga K n)) := (all_cons (He.glo_ok X G (c.fact 7 (f := .glo "Book") rfl)) (all_cons (He.glo_ok X G (c.fact 13 (f := .glo "Doors") rfl)) (all_cons (He.glo_ok X G (c.fact 16 (f := .glo "Change") rfl)) all_nil)))
  have hblt : ∀ x, x ∈ bltNames → mg x = none := (all_cons (He.free_ok X G (c.fact 58 (f := .free "len") rfl)) (all_cons (He.free_ok X G (c.fact 59 (f := .free "tuple") rfl)) (all_cons (He.free_ok X G (c.fact 60 (f := .free "list") rfl)) (all_cons (He.free_ok X G (c.fact 61 (f := .free "sum") rfl)) (all_cons (He.free_ok X G (c.fact 62 (f := .free "all") rfl)) (all_cons (He.free_ok X G (c.fact 63 (f := .free "any") rfl)) (all_cons (He.free_ok X G (c.fact 64 (f := .free "abs") rfl)) (all_cons (He.free_ok X G (c.fact 65 (f := .free "int") rfl)) (all_cons (He.free_ok X G (c.fact 66 (f := .free "max") rfl)) (all_cons (He.free_ok X G (c.fact 67 (f := .free "min") rfl)) (all_cons (He.free_ok X G (c.fact 68 (f := .free "str") rfl)) (all_cons (He.free_ok X G (c.fact 69 (f := .free "isinstance") rfl)) (all_cons (He.free_ok X G (c.fact 70 (f := .free "bool") rfl)) (all_cons (He.free_ok X G (c.fact 71 (f := .free "zip") rfl)) (all_cons (He.free_ok X G (c.fact 72 (f := .free "range") rfl)) (all_cons (He.free_ok X G (c.fact 73 (f := .free "enumerate") rfl)) (all_cons (He.free_ok X G (c.fact 74 (f := .free "reversed") rfl)) all_nil)))))))))))))))))
  have cx2 := Bool.and_eq_true_iff.mp (show ((cn.all fun n => clsX fl cn n K) && eqc.all fun n => eqX n K) = true from cx)
  refine ⟨He.ga K "law", fd_law, g_law, fun s u => FunD.bindsA (ps := ["script"]) F_law (fun _ _ _ _ _ _ us hl => match us, hl with | [_], _ => rfl) s [u] rfl, fun base _ _ => ?_⟩
  have H_law_take : FnHas P w (⟨mg, K, fl, cn⟩ : Mo) base 2 ⟨"_law_take", 2, sp_law_take, [[]]⟩ := fn_has (ps := ["box", "many"]) F_law_take g_law_take scp_law_take ⟨all_nil, all_nil, all_nil, hblt, all_nil, all_nil⟩ rfl chk_law_take rfl pu_law_take (all_cons ⟨[], FunD.bindsN F_law_take (fun _ _ _ _ _ _ us hl => match us, hl with | [_, _], _ => rfl), .nil⟩ all_nil)
  have Z_law_loose : FnHas P w (⟨mg, K, fl, cn⟩ : Mo) base 1 ⟨"_law_loose", 2, spF, [[]]⟩ := (fn_false (ps := ["box", "value"]) (e := ⟨"_law_loose", 2, spF, [[]]⟩) F_law_loose g_law_loose scp_law_loose rfl (all_cons ⟨[], FunD.bindsN F_law_loose (fun _ _ _ _ _ _ us hl => match us, hl with | [_, _], _ => rfl), .nil⟩ all_nil) rfl)
  have R_law_loose : ∀ n, FnHas P w (⟨mg, K, fl, cn⟩ : Mo) base (3 + n) ⟨"_law_loose", 2, (sp_law_looseN n), [[]]⟩ := fun n => by
    induction n with
    | zero => exact fn_has (ps := ["box", "value"]) (k := 2) F_law_loose g_law_loose scp_law_loose ⟨(all_cons ((H_law_take).up (by decide)) (all_cons (Z_law_loose.up (by decide)) all_nil)), all_nil, all_nil, hblt, all_nil, all_nil⟩ rfl (chk_law_loose spF) rfl (pu_law_loose (.inl rfl)) (all_cons ⟨[], FunD.bindsN F_law_loose (fun _ _ _ _ _ _ us hl => match us, hl with | [_, _], _ => rfl), .nil⟩ all_nil)
    | succ n ih => exact fn_has (ps := ["box", "value"]) (k := 3 + n) F_law_loose g_law_loose scp_law_loose ⟨(all_cons ((H_law_take).up (Nat.le_trans (by decide) (Nat.le_add_right 3 n))) (all_cons ih all_nil)), all_nil, all_nil, hblt, all_nil, all_nil⟩ rfl (chk_law_loose (sp_law_looseN n)) rfl (pu_law_loose (.inr ⟨n, rfl, rfl⟩)) (all_cons ⟨[], FunD.bindsN F_law_loose (fun _ _ _ _ _ _ us hl => match us, hl with | [_, _], _ => rfl), .nil⟩ all_nil)
  have H_law_loose : FnHas P w (⟨mg, K, fl, cn⟩ : Mo) base 9 ⟨"_law_loose", 2, sp_law_loose, [[]]⟩ := R_law_loose 6
  have H_is_integer : FnHas P w (⟨mg, K, fl, cn⟩ : Mo) base 2 ⟨"is_integer", 1, sp_is_integer, [[]]⟩ := fn_has (ps := ["value"]) F_is_integer g_is_integer scp_is_integer ⟨all_nil, all_nil, all_nil, hblt, all_nil, all_nil⟩ rfl chk_is_integer rfl pu_is_integer (all_cons ⟨[], FunD.bindsN F_is_integer (fun _ _ _ _ _ _ us hl => match us, hl with | [_], _ => rfl), .nil⟩ all_nil)
  have H_is_below : FnHas P w (⟨mg, K, fl, cn⟩ : Mo) base 3 ⟨"is_below", 2, sp_is_below, [[]]⟩ := fn_has (ps := ["value", "limit"]) F_is_below g_is_below scp_is_below ⟨(all_cons ((H_is_integer).up (by decide)) all_nil), all_nil, all_nil, hblt, all_nil, all_nil⟩ rfl chk_is_below rfl pu_is_below (all_cons ⟨[], FunD.bindsN F_is_below (fun _ _ _ _ _ _ us hl => match us, hl with | [_, _], _ => rfl), .nil⟩ all_nil)
  have H_is_sequence : FnHas P w (⟨mg, K, fl, cn⟩ : Mo) base 2 ⟨"is_sequence", 1, sp_is_sequence, [[]]⟩ := fn_has (ps := ["value"]) F_is_sequence g_is_sequence scp_is_sequence ⟨all_nil, all_nil, all_nil, hblt, all_nil, all_nil⟩ rfl chk_is_sequence rfl pu_is_sequence (all_cons ⟨[], FunD.bindsN F_is_sequence (fun _ _ _ _ _ _ us hl => match us, hl with | [_], _ => rfl), .nil⟩ all_nil)
  have H_is_row : FnHas P w (⟨mg, K, fl, cn⟩ : Mo) base 3 ⟨"is_row", 2, sp_is_row, [[]]⟩ := fn_has (ps := ["value", "many"]) F_is_row g_is_row scp_is_row ⟨(all_cons ((H_is_sequence).up (by decide)) all_nil), all_nil, all_nil, hblt, all_nil, all_nil⟩ rfl chk_is_row rfl pu_is_row (all_cons ⟨[], FunD.bindsN F_is_row (fun _ _ _ _ _ _ us hl => match us, hl with | [_, _], _ => rfl), .nil⟩ all_nil)
  have H_is_between : FnHas P w (⟨mg, K, fl, cn⟩ : Mo) base 3 ⟨"is_between", 3, sp_is_between, [[]]⟩ := fn_has (ps := ["value", "least", "greatest"]) F_is_between g_is_between scp_is_between ⟨(all_cons ((H_is_integer).up (by decide)) all_nil), all_nil, all_nil, hblt, all_nil, all_nil⟩ rfl chk_is_between rfl pu_is_between (all_cons ⟨[], FunD.bindsN F_is_between (fun _ _ _ _ _ _ us hl => match us, hl with | [_, _, _], _ => rfl), .nil⟩ all_nil)
  have H_Book_init : ClHas P w (⟨mg, K, fl, cn⟩ : Mo) base 4 ⟨"Book", 3, sp_Book_init, [[]]⟩ := cl_has (ps := ["self", "kinds", "rows"]) F_Book_init (He.mkr_ok (c.fact 51 (f := .mkr "Book") rfl)) (He.cls_ok (c.fact 50 (f := .cls "Book") rfl)) (by decide) hcn (List.all_eq_true.mp cx2.1 "Book" (by decide)) scp_Book_init ⟨(all_cons ((H_is_below).up (by decide)) (all_cons ((H_is_row).up (by decide)) (all_cons ((H_is_between).up (by decide)) (all_cons ((H_is_sequence).up (by decide)) all_nil)))), all_nil, (gi_cons (He.int_ok X G (c.fact 75 (f := .int "MOST_STATES" (40)) rfl)) (gi_cons (He.int_ok X G (c.fact 76 (f := .int "MOST_KINDS" (6)) rfl)) all_nil)), hblt, all_nil, (all_cons (show ("rows" : Str) ∈ fl by decide) (all_cons (show ("kinds" : Str) ∈ fl by decide) all_nil))⟩ rfl chk_Book_init rfl pu_Book_init (FunD.bindsN F_Book_init (fun _ _ _ _ _ _ us hl => match us, hl with | [_, _, _], _ => rfl))
  have H_law_book : FnHas P w (⟨mg, K, fl, cn⟩ : Mo) base 10 ⟨"_law_book", 2, sp_law_book, [[]]⟩ := fn_has (ps := ["box", "rows"]) F_law_book g_law_book scp_law_book ⟨(all_cons ((H_law_loose).up (by decide)) all_nil), (all_cons ⟨8, rfl, H_Book_init.up (by decide)⟩ all_nil), all_nil, hblt, all_nil, all_nil⟩ rfl chk_law_book rfl pu_law_book (all_cons ⟨[], FunD.bindsN F_law_book (fun _ _ _ _ _ _ us hl => match us, hl with | [_, _], _ => rfl), .nil⟩ all_nil)
  have H_law_is_int : FnHas P w (⟨mg, K, fl, cn⟩ : Mo) base 2 ⟨"_law_is_int", 1, sp_law_is_int, [[]]⟩ := fn_has (ps := ["value"]) F_law_is_int g_law_is_int scp_law_is_int ⟨all_nil, all_nil, all_nil, hblt, all_nil, all_nil⟩ rfl chk_law_is_int rfl pu_law_is_int (all_cons ⟨[], FunD.bindsN F_law_is_int (fun _ _ _ _ _ _ us hl => match us, hl with | [_], _ => rfl), .nil⟩ all_nil)
  have Z_law_same : FnHas P w (⟨mg, K, fl, cn⟩ : Mo) base 1 ⟨"_law_same", 2, spF, [[]]⟩ := (fn_false (ps := ["value", "due"]) (e := ⟨"_law_same", 2, spF, [[]]⟩) F_law_same g_law_same scp_law_same rfl (all_cons ⟨[], FunD.bindsN F_law_same (fun _ _ _ _ _ _ us hl => match us, hl with | [_, _], _ => rfl), .nil⟩ all_nil) rfl)
  have R_law_same : ∀ n, FnHas P w (⟨mg, K, fl, cn⟩ : Mo) base (3 + n) ⟨"_law_same", 2, (sp_law_sameN n), [[]]⟩ := fun n => by
    induction n with
    | zero => exact fn_has (ps := ["value", "due"]) (k := 2) F_law_same g_law_same scp_law_same ⟨(all_cons ((H_law_is_int).up (by decide)) (all_cons (Z_law_same.up (by decide)) all_nil)), all_nil, all_nil, hblt, all_nil, all_nil⟩ rfl (chk_law_same spF) rfl (pu_law_same (.inl rfl)) (all_cons ⟨[], FunD.bindsN F_law_same (fun _ _ _ _ _ _ us hl => match us, hl with | [_, _], _ => rfl), .nil⟩ all_nil)
    | succ n ih => exact fn_has (ps := ["value", "due"]) (k := 3 + n) F_law_same g_law_same scp_law_same ⟨(all_cons ((H_law_is_int).up (Nat.le_trans (by decide) (Nat.le_add_right 3 n))) (all_cons ih all_nil)), all_nil, all_nil, hblt, all_nil, all_nil⟩ rfl (chk_law_same (sp_law_sameN n)) rfl (pu_law_same (.inr ⟨n, rfl, rfl⟩)) (all_cons ⟨[], FunD.bindsN F_law_same (fun _ _ _ _ _ _ us hl => match us, hl with | [_, _], _ => rfl), .nil⟩ all_nil)
  have H_law_same : FnHas P w (⟨mg, K, fl, cn⟩ : Mo) base 9 ⟨"_law_same", 2, sp_law_same, [[]]⟩ := R_law_same 6
  have H_is_tickets : FnHas P w (⟨mg, K, fl, cn⟩ : Mo) base 4 ⟨"is_tickets", 2, sp_is_tickets, [[]]⟩ := fn_has (ps := ["value", "colours"]) F_is_tickets g_is_tickets scp_is_tickets ⟨(all_cons ((H_is_between).up (by decide)) (all_cons ((H_is_row).up (by decide)) all_nil)), all_nil, (gi_cons (He.int_ok X G (c.fact 77 (f := .int "MOST_TICKETS" (1000000000000000000)) rfl)) all_nil), hblt, all_nil, all_nil⟩ rfl chk_is_tickets rfl pu_is_tickets (all_cons ⟨[], FunD.bindsN F_is_tickets (fun _ _ _ _ _ _ us hl => match us, hl with | [_, _], _ => rfl), .nil⟩ all_nil)
  have H_is_visit : FnHas P w (⟨mg, K, fl, cn⟩ : Mo) base 5 ⟨"is_visit", 2, sp_is_visit, [[]]⟩ := fn_has (ps := ["value", "colours"]) F_is_visit g_is_visit scp_is_visit ⟨(all_cons ((H_is_tickets).up (by decide)) (all_cons ((H_is_row).up (by decide)) all_nil)), all_nil, all_nil, hblt, all_nil, all_nil⟩ rfl chk_is_visit rfl pu_is_visit (all_cons ⟨[], FunD.bindsN F_is_visit (fun _ _ _ _ _ _ us hl => match us, hl with | [_, _], _ => rfl), .nil⟩ all_nil)
  have H_Doors_init : ClHas P w (⟨mg, K, fl, cn⟩ : Mo) base 6 ⟨"Doors", 3, sp_Doors_init, [[]]⟩ := cl_has (ps := ["self", "purse", "visits"]) F_Doors_init (He.mkr_ok (c.fact 53 (f := .mkr "Doors") rfl)) (He.cls_ok (c.fact 52 (f := .cls "Doors") rfl)) (by decide) hcn (List.all_eq_true.mp cx2.1 "Doors" (by decide)) scp_Doors_init ⟨(all_cons ((H_is_visit).up (by decide)) (all_cons ((H_is_between).up (by decide)) (all_cons ((H_is_sequence).up (by decide)) all_nil))), all_nil, (gi_cons (He.int_ok X G (c.fact 76 (f := .int "MOST_KINDS" (6)) rfl)) (gi_cons (He.int_ok X G (c.fact 77 (f := .int "MOST_TICKETS" (1000000000000000000)) rfl)) (gi_cons (He.int_ok X G (c.fact 78 (f := .int "MOST_COLOURS" (60)) rfl)) all_nil))), hblt, all_nil, (all_cons (show ("visits" : Str) ∈ fl by decide) (all_cons (show ("purse" : Str) ∈ fl by decide) all_nil))⟩ rfl chk_Doors_init rfl pu_Doors_init (FunD.bindsN F_Doors_init (fun _ _ _ _ _ _ us hl => match us, hl with | [_, _, _], _ => rfl))
  have H_law_are_doors : FnHas P w (⟨mg, K, fl, cn⟩ : Mo) base 10 ⟨"_law_are_doors", 3, sp_law_are_doors, [[]]⟩ := fn_has (ps := ["doors", "purse", "visits"]) F_law_are_doors g_law_are_doors scp_law_are_doors ⟨(all_cons ((H_law_same).up (by decide)) all_nil), (all_cons ⟨8, rfl, H_Doors_init.up (by decide)⟩ all_nil), all_nil, hblt, all_nil, all_nil⟩ rfl chk_law_are_doors rfl pu_law_are_doors (all_cons ⟨[], FunD.bindsN F_law_are_doors (fun _ _ _ _ _ _ us hl => match us, hl with | [_, _, _], _ => rfl), .nil⟩ all_nil)
  have H_need_rates : FnHas P w (⟨mg, K, fl, cn⟩ : Mo) base 4 ⟨"need_rates", 3, sp_need_rates, [[]]⟩ := fn_has (ps := ["old", "new", "rates"]) F_need_rates g_need_rates scp_need_rates ⟨(all_cons ((H_is_between).up (by decide)) (all_cons ((H_is_row).up (by decide)) all_nil)), all_nil, (gi_cons (He.int_ok X G (c.fact 79 (f := .int "MOST_RATE" (1000000000)) rfl)) all_nil), hblt, all_nil, all_nil⟩ rfl chk_need_rates rfl pu_need_rates (all_cons ⟨[], FunD.bindsN F_need_rates (fun _ _ _ _ _ _ us hl => match us, hl with | [_, _, _], _ => rfl), .nil⟩ all_nil)
  have H_Change_init : ClHas P w (⟨mg, K, fl, cn⟩ : Mo) base 8 ⟨"Change", 5, sp_Change_init, [[]]⟩ := cl_has (ps := ["self", "old", "new", "rates", "extra"]) F_Change_init (He.mkr_ok (c.fact 55 (f := .mkr "Change") rfl)) (He.cls_ok (c.fact 54 (f := .cls "Change") rfl)) (by decide) hcn (List.all_eq_true.mp cx2.1 "Change" (by decide)) scp_Change_init ⟨(all_cons ((H_is_between).up (by decide)) (all_cons ((H_is_row).up (by decide)) (all_cons ((H_need_rates).up (by decide)) all_nil))), (all_cons ⟨6, rfl, H_Doors_init.up (by decide)⟩ all_nil), (gi_cons (He.int_ok X G (c.fact 77 (f := .int "MOST_TICKETS" (1000000000000000000)) rfl)) all_nil), hblt, all_nil, (all_cons (show ("extra" : Str) ∈ fl by decide) (all_cons (show ("rates" : Str) ∈ fl by decide) (all_cons (show ("new" : Str) ∈ fl by decide) (all_cons (show ("old" : Str) ∈ fl by decide) all_nil))))⟩ rfl chk_Change_init rfl pu_Change_init (FunD.bindsN F_Change_init (fun _ _ _ _ _ _ us hl => match us, hl with | [_, _, _, _, _], _ => rfl))
  have H_law_is_change : FnHas P w (⟨mg, K, fl, cn⟩ : Mo) base 11 ⟨"_law_is_change", 2, sp_law_is_change, [[]]⟩ := fn_has (ps := ["value", "change"]) F_law_is_change g_law_is_change scp_law_is_change ⟨(all_cons ((H_law_same).up (by decide)) (all_cons ((H_law_are_doors).up (by decide)) all_nil)), (all_cons ⟨9, rfl, H_Change_init.up (by decide)⟩ all_nil), all_nil, hblt, all_nil, all_nil⟩ rfl chk_law_is_change rfl pu_law_is_change (all_cons ⟨[], FunD.bindsN F_law_is_change (fun _ _ _ _ _ _ us hl => match us, hl with | [_, _], _ => rfl), .nil⟩ all_nil)
  have H_law_paid : FnHas P w (⟨mg, K, fl, cn⟩ : Mo) base 2 ⟨"_law_paid", 2, sp_law_paid, [[]]⟩ := fn_has (ps := ["purse", "visit"]) F_law_paid g_law_paid scp_law_paid ⟨all_nil, all_nil, all_nil, hblt, all_nil, all_nil⟩ rfl chk_law_paid rfl pu_law_paid (all_cons ⟨[], FunD.bindsN F_law_paid (fun _ _ _ _ _ _ us hl => match us, hl with | [_, _], _ => rfl), .nil⟩ all_nil)
  have H_law_lacks : FnHas P w (⟨mg, K, fl, cn⟩ : Mo) base 2 ⟨"_law_lacks", 2, sp_law_lacks, [[]]⟩ := fn_has (ps := ["purse", "fee"]) F_law_lacks g_law_lacks scp_law_lacks ⟨all_nil, all_nil, all_nil, hblt, all_nil, all_nil⟩ rfl chk_law_lacks rfl pu_law_lacks (all_cons ⟨[], FunD.bindsN F_law_lacks (fun _ _ _ _ _ _ us hl => match us, hl with | [_, _], _ => rfl), .nil⟩ all_nil)
  have H_law_walk : FnHas P w (⟨mg, K, fl, cn⟩ : Mo) base 3 ⟨"_law_walk", 3, sp_law_walk, [[]]⟩ := fn_has (ps := ["purse", "visits", "row"]) F_law_walk g_law_walk scp_law_walk ⟨(all_cons ((H_law_paid).up (by decide)) (all_cons ((H_law_lacks).up (by decide)) all_nil)), all_nil, all_nil, hblt, all_nil, all_nil⟩ rfl chk_law_walk rfl pu_law_walk (all_cons ⟨[], FunD.bindsN F_law_walk (fun _ _ _ _ _ _ us hl => match us, hl with | [_, _, _], _ => rfl), .nil⟩ all_nil)
  have H_law_worth : FnHas P w (⟨mg, K, fl, cn⟩ : Mo) base 2 ⟨"_law_worth", 3, sp_law_worth, [[]]⟩ := fn_has (ps := ["rates", "colour", "purse"]) F_law_worth g_law_worth scp_law_worth ⟨all_nil, all_nil, all_nil, hblt, all_nil, all_nil⟩ rfl chk_law_worth rfl pu_law_worth (all_cons ⟨[], FunD.bindsN F_law_worth (fun _ _ _ _ _ _ us hl => match us, hl with | [_, _, _], _ => rfl), .nil⟩ all_nil)
  have H_law_exchange : FnHas P w (⟨mg, K, fl, cn⟩ : Mo) base 3 ⟨"_law_exchange", 3, sp_law_exchange, [[]]⟩ := fn_has (ps := ["rates", "extra", "purse"]) F_law_exchange g_law_exchange scp_law_exchange ⟨(all_cons ((H_law_worth).up (by decide)) all_nil), all_nil, all_nil, hblt, all_nil, all_nil⟩ rfl chk_law_exchange rfl pu_law_exchange (all_cons ⟨[], FunD.bindsN F_law_exchange (fun _ _ _ _ _ _ us hl => match us, hl with | [_, _, _], _ => rfl), .nil⟩ all_nil)
  have H_law_walk_over : FnHas P w (⟨mg, K, fl, cn⟩ : Mo) base 4 ⟨"_law_walk_over", 3, sp_law_walk_over, [[]]⟩ := fn_has (ps := ["change", "before", "after"]) F_law_walk_over g_law_walk_over scp_law_walk_over ⟨(all_cons ((H_law_walk).up (by decide)) (all_cons ((H_law_exchange).up (by decide)) all_nil)), all_nil, all_nil, hblt, all_nil, all_nil⟩ rfl chk_law_walk_over rfl pu_law_walk_over (all_cons ⟨[], FunD.bindsN F_law_walk_over (fun _ _ _ _ _ _ us hl => match us, hl with | [_, _, _], _ => rfl), .nil⟩ all_nil)
  have H_paid : FnHas P w (⟨mg, K, fl, cn⟩ : Mo) base 2 ⟨"paid", 2, sp_paid, [[]]⟩ := fn_has (ps := ["purse", "visit"]) F_paid g_paid scp_paid ⟨all_nil, all_nil, all_nil, hblt, all_nil, all_nil⟩ rfl chk_paid rfl pu_paid (all_cons ⟨[], FunD.bindsN F_paid (fun _ _ _ _ _ _ us hl => match us, hl with | [_, _], _ => rfl), .nil⟩ all_nil)
  have H_lacks_in : FnHas P w (⟨mg, K, fl, cn⟩ : Mo) base 2 ⟨"lacks_in", 2, sp_lacks_in, [[]]⟩ := fn_has (ps := ["purse", "fee"]) F_lacks_in g_lacks_in scp_lacks_in ⟨all_nil, all_nil, all_nil, hblt, all_nil, all_nil⟩ rfl chk_lacks_in rfl pu_lacks_in (all_cons ⟨[], FunD.bindsN F_lacks_in (fun _ _ _ _ _ _ us hl => match us, hl with | [_, _], _ => rfl), .nil⟩ all_nil)
  have H_walk_from : FnHas P w (⟨mg, K, fl, cn⟩ : Mo) base 3 ⟨"walk_from", 3, sp_walk_from, [[]]⟩ := fn_has (ps := ["doors", "purse", "row"]) F_walk_from g_walk_from scp_walk_from ⟨(all_cons ((H_paid).up (by decide)) (all_cons ((H_lacks_in).up (by decide)) all_nil)), all_nil, all_nil, hblt, all_nil, all_nil⟩ rfl chk_walk_from rfl pu_walk_from (all_cons ⟨[], FunD.bindsN F_walk_from (fun _ _ _ _ _ _ us hl => match us, hl with | [_, _, _], _ => rfl), .nil⟩ all_nil)
  have H_worth : FnHas P w (⟨mg, K, fl, cn⟩ : Mo) base 2 ⟨"worth", 3, sp_worth, [[]]⟩ := fn_has (ps := ["rates", "colour", "purse"]) F_worth g_worth scp_worth ⟨all_nil, all_nil, all_nil, hblt, all_nil, all_nil⟩ rfl chk_worth rfl pu_worth (all_cons ⟨[], FunD.bindsN F_worth (fun _ _ _ _ _ _ us hl => match us, hl with | [_, _, _], _ => rfl), .nil⟩ all_nil)
  have H_exchange_of : FnHas P w (⟨mg, K, fl, cn⟩ : Mo) base 3 ⟨"exchange_of", 2, sp_exchange_of, [[]]⟩ := fn_has (ps := ["change", "purse"]) F_exchange_of g_exchange_of scp_exchange_of ⟨(all_cons ((H_worth).up (by decide)) all_nil), all_nil, all_nil, hblt, all_nil, all_nil⟩ rfl chk_exchange_of rfl pu_exchange_of (all_cons ⟨[], FunD.bindsN F_exchange_of (fun _ _ _ _ _ _ us hl => match us, hl with | [_, _], _ => rfl), .nil⟩ all_nil)
  have H_row_wrong : FnHas P w (⟨mg, K, fl, cn⟩ : Mo) base 4 ⟨"row_wrong", 2, sp_row_wrong, [[]]⟩ := fn_has (ps := ["row", "kinds"]) F_row_wrong g_row_wrong scp_row_wrong ⟨(all_cons ((H_is_below).up (by decide)) (all_cons ((H_is_sequence).up (by decide)) all_nil)), all_nil, (gi_cons (He.int_ok X G (c.fact 80 (f := .int "MOST_VISITS" (400)) rfl)) all_nil), hblt, all_nil, all_nil⟩ rfl chk_row_wrong rfl pu_row_wrong (all_cons ⟨[], FunD.bindsN F_row_wrong (fun _ _ _ _ _ _ us hl => match us, hl with | [_, _], _ => rfl), .nil⟩ all_nil)
  have H_need_change : FnHas P w (⟨mg, K, fl, cn⟩ : Mo) base 10 ⟨"need_change", 3, sp_need_change, [[.int (-1), .non]]⟩ := fn_has (ps := ["value", "at", "kinds"]) F_need_change g_need_change scp_need_change ⟨all_nil, (all_cons ⟨8, rfl, H_Change_init.up (by decide)⟩ all_nil), all_nil, hblt, all_nil, all_nil⟩ rfl chk_need_change rfl pu_need_change (all_cons (exV (FunD.binds1 F_need_change 1 0 (List.cons_ne_nil _ _) rfl fun _ _ _ _ _ _ _ us its hl hl2 => match us, hl, its, hl2 with | [_], _, [_, _], _ => ⟨_, rfl, rfl⟩)) all_nil)
  have H_gone_over : FnHas P w (⟨mg, K, fl, cn⟩ : Mo) base 11 ⟨"gone_over", 3, sp_gone_over, [[]]⟩ := fn_has (ps := ["change", "before", "after"]) F_gone_over g_gone_over scp_gone_over ⟨(all_cons ((H_walk_from).up (by decide)) (all_cons ((H_exchange_of).up (by decide)) (all_cons ((H_row_wrong).up (by decide)) (all_cons ((H_need_change).up (by decide)) all_nil)))), all_nil, all_nil, hblt, all_nil, all_nil⟩ rfl chk_gone_over rfl pu_gone_over (all_cons ⟨[], FunD.bindsN F_gone_over (fun _ _ _ _ _ _ us hl => match us, hl with | [_, _, _], _ => rfl), .nil⟩ all_nil)
  have H_law_pick : FnHas P w (⟨mg, K, fl, cn⟩ : Mo) base 3 ⟨"_law_pick", 2, sp_law_pick, [[]]⟩ := fn_has (ps := ["box", "some"]) F_law_pick g_law_pick scp_law_pick ⟨(all_cons ((H_law_take).up (by decide)) all_nil), all_nil, all_nil, hblt, all_nil, all_nil⟩ rfl chk_law_pick rfl pu_law_pick (all_cons ⟨[], FunD.bindsN F_law_pick (fun _ _ _ _ _ _ us hl => match us, hl with | [_, _], _ => rfl), .nil⟩ all_nil)
  have H_law_fits : FnHas P w (⟨mg, K, fl, cn⟩ : Mo) base 2 ⟨"_law_fits", 2, sp_law_fits, [[]]⟩ := fn_has (ps := ["purse", "fee"]) F_law_fits g_law_fits scp_law_fits ⟨all_nil, all_nil, all_nil, hblt, all_nil, all_nil⟩ rfl chk_law_fits rfl pu_law_fits (all_cons ⟨[], FunD.bindsN F_law_fits (fun _ _ _ _ _ _ us hl => match us, hl with | [_, _], _ => rfl), .nil⟩ all_nil)
  have H_law_drawn_row : FnHas P w (⟨mg, K, fl, cn⟩ : Mo) base 4 ⟨"_law_drawn_row", 4, sp_law_drawn_row, [[]]⟩ := fn_has (ps := ["box", "purse", "visits", "most"]) F_law_drawn_row g_law_drawn_row scp_law_drawn_row ⟨(all_cons ((H_law_take).up (by decide)) (all_cons ((H_law_paid).up (by decide)) (all_cons ((H_law_pick).up (by decide)) (all_cons ((H_law_fits).up (by decide)) all_nil)))), all_nil, all_nil, hblt, all_nil, all_nil⟩ rfl chk_law_drawn_row rfl pu_law_drawn_row (all_cons ⟨[], FunD.bindsN F_law_drawn_row (fun _ _ _ _ _ _ us hl => match us, hl with | [_, _, _, _], _ => rfl), .nil⟩ all_nil)
  have H_need_purse : FnHas P w (⟨mg, K, fl, cn⟩ : Mo) base 4 ⟨"need_purse", 2, sp_need_purse, [[]]⟩ := fn_has (ps := ["doors", "purse"]) F_need_purse g_need_purse scp_need_purse ⟨(all_cons ((H_is_between).up (by decide)) (all_cons ((H_is_row).up (by decide)) all_nil)), all_nil, (gi_cons (He.int_ok X G (c.fact 81 (f := .int "MOST_PURSE" (999999999999999999999999999999)) rfl)) all_nil), hblt, all_nil, all_nil⟩ rfl chk_need_purse rfl pu_need_purse (all_cons ⟨[], FunD.bindsN F_need_purse (fun _ _ _ _ _ _ us hl => match us, hl with | [_, _], _ => rfl), .nil⟩ all_nil)
  have H_exchanged : FnHas P w (⟨mg, K, fl, cn⟩ : Mo) base 11 ⟨"exchanged", 2, sp_exchanged, [[]]⟩ := fn_has (ps := ["change", "purse"]) F_exchanged g_exchanged scp_exchanged ⟨(all_cons ((H_exchange_of).up (by decide)) (all_cons ((H_need_purse).up (by decide)) (all_cons ((H_need_change).up (by decide)) all_nil))), all_nil, all_nil, hblt, all_nil, all_nil⟩ rfl chk_exchanged rfl pu_exchanged (all_cons ⟨[], FunD.bindsN F_exchanged (fun _ _ _ _ _ _ us hl => match us, hl with | [_, _], _ => rfl), .nil⟩ all_nil)
  have H_law_doors : FnHas P w (⟨mg, K, fl, cn⟩ : Mo) base 10 ⟨"_law_doors", 3, sp_law_doors, [[]]⟩ := fn_has (ps := ["box", "purse", "visits"]) F_law_doors g_law_doors scp_law_doors ⟨(all_cons ((H_law_loose).up (by decide)) all_nil), (all_cons ⟨8, rfl, H_Doors_init.up (by decide)⟩ all_nil), all_nil, hblt, all_nil, all_nil⟩ rfl chk_law_doors rfl pu_law_doors (all_cons ⟨[], FunD.bindsN F_law_doors (fun _ _ _ _ _ _ us hl => match us, hl with | [_, _, _], _ => rfl), .nil⟩ all_nil)
  have H_law_change : FnHas P w (⟨mg, K, fl, cn⟩ : Mo) base 11 ⟨"_law_change", 2, sp_law_change, [[]]⟩ := fn_has (ps := ["box", "change"]) F_law_change g_law_change scp_law_change ⟨(all_cons ((H_law_loose).up (by decide)) (all_cons ((H_law_doors).up (by decide)) all_nil)), (all_cons ⟨9, rfl, H_Change_init.up (by decide)⟩ all_nil), all_nil, hblt, all_nil, all_nil⟩ rfl chk_law_change rfl pu_law_change (all_cons ⟨[], FunD.bindsN F_law_change (fun _ _ _ _ _ _ us hl => match us, hl with | [_, _], _ => rfl), .nil⟩ all_nil)
  have H_law_turned : FnHas P w (⟨mg, K, fl, cn⟩ : Mo) base 3 ⟨"_law_turned", 2, sp_law_turned, [[]]⟩ := fn_has (ps := ["box", "change"]) F_law_turned g_law_turned scp_law_turned ⟨(all_cons ((H_law_take).up (by decide)) all_nil), all_nil, all_nil, hblt, all_nil, all_nil⟩ rfl chk_law_turned rfl pu_law_turned (all_cons ⟨[], FunD.bindsN F_law_turned (fun _ _ _ _ _ _ us hl => match us, hl with | [_, _], _ => rfl), .nil⟩ all_nil)
  have H_law_greater : FnHas P w (⟨mg, K, fl, cn⟩ : Mo) base 4 ⟨"_law_greater", 2, sp_law_greater, [[]]⟩ := fn_has (ps := ["box", "change"]) F_law_greater g_law_greater scp_law_greater ⟨(all_cons ((H_law_pick).up (by decide)) all_nil), all_nil, all_nil, hblt, all_nil, all_nil⟩ rfl chk_law_greater rfl pu_law_greater (all_cons ⟨[], FunD.bindsN F_law_greater (fun _ _ _ _ _ _ us hl => match us, hl with | [_, _], _ => rfl), .nil⟩ all_nil)
  have H_law_number : FnHas P w (⟨mg, K, fl, cn⟩ : Mo) base 4 ⟨"_law_number", 2, sp_law_number, [[]]⟩ := fn_has (ps := ["box", "most"]) F_law_number g_law_number scp_law_number ⟨(all_cons ((H_law_pick).up (by decide)) (all_cons ((H_law_take).up (by decide)) all_nil)), all_nil, all_nil, hblt, all_nil, all_nil⟩ rfl chk_law_number rfl pu_law_number (all_cons ⟨[], FunD.bindsN F_law_number (fun _ _ _ _ _ _ us hl => match us, hl with | [_, _], _ => rfl), .nil⟩ all_nil)
  have H_law_visits : FnHas P w (⟨mg, K, fl, cn⟩ : Mo) base 5 ⟨"_law_visits", 4, sp_law_visits, [[]]⟩ := fn_has (ps := ["box", "kinds", "colours", "most"]) F_law_visits g_law_visits scp_law_visits ⟨(all_cons ((H_law_number).up (by decide)) all_nil), all_nil, all_nil, hblt, all_nil, all_nil⟩ rfl chk_law_visits rfl pu_law_visits (all_cons ⟨[], FunD.bindsN F_law_visits (fun _ _ _ _ _ _ us hl => match us, hl with | [_, _, _, _], _ => rfl), .nil⟩ all_nil)
  have H_law_rows : FnHas P w (⟨mg, K, fl, cn⟩ : Mo) base 4 ⟨"_law_rows", 3, sp_law_rows, [[]]⟩ := fn_has (ps := ["box", "kinds", "states"]) F_law_rows g_law_rows scp_law_rows ⟨(all_cons ((H_law_pick).up (by decide)) (all_cons ((H_law_take).up (by decide)) all_nil)), all_nil, all_nil, hblt, all_nil, all_nil⟩ rfl chk_law_rows rfl pu_law_rows (all_cons ⟨[], FunD.bindsN F_law_rows (fun _ _ _ _ _ _ us hl => match us, hl with | [_, _, _], _ => rfl), .nil⟩ all_nil)
  have H_law_hall : FnHas P w (⟨mg, K, fl, cn⟩ : Mo) base 2 ⟨"_law_hall", 1, sp_law_hall, [[]]⟩ := fn_has (ps := ["size"]) F_law_hall g_law_hall scp_law_hall ⟨all_nil, all_nil, all_nil, hblt, all_nil, all_nil⟩ rfl chk_law_hall rfl pu_law_hall (all_cons ⟨[], FunD.bindsN F_law_hall (fun _ _ _ _ _ _ us hl => match us, hl with | [_], _ => rfl), .nil⟩ all_nil)
  have H_law_case : FnHas P w (⟨mg, K, fl, cn⟩ : Mo) base 6 ⟨"_law_case", 1, sp_law_case, [[]]⟩ := fn_has (ps := ["box"]) F_law_case g_law_case scp_law_case ⟨(all_cons ((H_law_number).up (by decide)) (all_cons ((H_law_visits).up (by decide)) (all_cons ((H_law_rows).up (by decide)) (all_cons ((H_law_take).up (by decide)) (all_cons ((H_law_pick).up (by decide)) (all_cons ((H_law_hall).up (by decide)) all_nil)))))), all_nil, all_nil, hblt, all_nil, all_nil⟩ rfl chk_law_case rfl pu_law_case (all_cons ⟨[], FunD.bindsN F_law_case (fun _ _ _ _ _ _ us hl => match us, hl with | [_], _ => rfl), .nil⟩ all_nil)
  have H_law_hall_change : FnHas P w (⟨mg, K, fl, cn⟩ : Mo) base 3 ⟨"_law_hall_change", 1, sp_law_hall_change, [[]]⟩ := fn_has (ps := ["box"]) F_law_hall_change g_law_hall_change scp_law_hall_change ⟨(all_cons ((H_law_hall).up (by decide)) (all_cons ((H_law_take).up (by decide)) all_nil)), all_nil, all_nil, hblt, all_nil, all_nil⟩ rfl chk_law_hall_change rfl pu_law_hall_change (all_cons ⟨[], FunD.bindsN F_law_hall_change (fun _ _ _ _ _ _ us hl => match us, hl with | [_], _ => rfl), .nil⟩ all_nil)
  have H_law_change_case : FnHas P w (⟨mg, K, fl, cn⟩ : Mo) base 7 ⟨"_law_change_case", 1, sp_law_change_case, [[]]⟩ := fn_has (ps := ["box"]) F_law_change_case g_law_change_case scp_law_change_case ⟨(all_cons ((H_law_take).up (by decide)) (all_cons ((H_law_visits).up (by decide)) (all_cons ((H_law_case).up (by decide)) (all_cons ((H_law_hall_change).up (by decide)) all_nil)))), all_nil, all_nil, hblt, all_nil, all_nil⟩ rfl chk_law_change_case rfl pu_law_change_case (all_cons ⟨[], FunD.bindsN F_law_change_case (fun _ _ _ _ _ _ us hl => match us, hl with | [_], _ => rfl), .nil⟩ all_nil)
  have H_law_box : FnHas P w (⟨mg, K, fl, cn⟩ : Mo) base 2 ⟨"_law_box", 1, sp_law_box, [[]]⟩ := fn_has (ps := ["script"]) F_law_box g_law_box scp_law_box ⟨all_nil, all_nil, all_nil, hblt, all_nil, all_nil⟩ rfl chk_law_box rfl pu_law_box (all_cons ⟨[], FunD.bindsN F_law_box (fun _ _ _ _ _ _ us hl => match us, hl with | [_], _ => rfl), .nil⟩ all_nil)
  have H_Doors_eq : EqHas P w (⟨mg, K, fl, cn⟩ : Mo) base 8 ⟨"Doors", 2, sp_Doors_eq, [[]]⟩ := eq_has (ps := ["self", "other"]) F_Doors_eq (He.meth_ok (c.fact 57 (f := .meth "Doors" "__eq__") rfl)) (by decide) hcn (List.all_eq_true.mp cx2.1 "Doors" (by decide)) (List.all_eq_true.mp cx2.2 "Doors" (by decide)) scp_Doors_eq ⟨all_nil, (all_cons ⟨6, rfl, H_Doors_init.up (by decide)⟩ all_nil), all_nil, hblt, all_nil, all_nil⟩ rfl chk_Doors_eq rfl pu_Doors_eq (FunD.bindsN F_Doors_eq (fun _ _ _ _ _ _ us hl => match us, hl with | [_, _], _ => rfl))
  have H_Change_eq : EqHas P w (⟨mg, K, fl, cn⟩ : Mo) base 10 ⟨"Change", 2, sp_Change_eq, [[]]⟩ := eq_has (ps := ["self", "other"]) F_Change_eq (He.meth_ok (c.fact 56 (f := .meth "Change" "__eq__") rfl)) (by decide) hcn (List.all_eq_true.mp cx2.1 "Change" (by decide)) (List.all_eq_true.mp cx2.2 "Change" (by decide)) scp_Change_eq ⟨all_nil, (all_cons ⟨8, rfl, H_Change_init.up (by decide)⟩ all_nil), all_nil, hblt, (all_cons ⟨8, rfl, H_Doors_eq.up (by decide)⟩ all_nil), all_nil⟩ rfl chk_Change_eq rfl pu_Change_eq (FunD.bindsN F_Change_eq (fun _ _ _ _ _ _ us hl => match us, hl with | [_, _], _ => rfl))
  have H_law : FnHas P w (⟨mg, K, fl, cn⟩ : Mo) base 12 ⟨"law", 1, sp_law, [[]]⟩ := fn_has (ps := ["script"]) F_law g_law scp_law ⟨(all_cons ((H_law_book).up (by decide)) (all_cons ((H_law_is_change).up (by decide)) (all_cons ((H_law_same).up (by decide)) (all_cons ((H_law_walk_over).up (by decide)) (all_cons ((H_gone_over).up (by decide)) (all_cons ((H_law_loose).up (by decide)) (all_cons ((H_law_drawn_row).up (by decide)) (all_cons ((H_law_exchange).up (by decide)) (all_cons ((H_law_walk).up (by decide)) (all_cons ((H_law_pick).up (by decide)) (all_cons ((H_exchanged).up (by decide)) (all_cons ((H_law_change).up (by decide)) (all_cons ((H_law_turned).up (by decide)) (all_cons ((H_law_take).up (by decide)) (all_cons ((H_law_greater).up (by decide)) (all_cons ((H_law_change_case).up (by decide)) (all_cons ((H_law_box).up (by decide)) all_nil))))))))))))))))), (all_cons ⟨10, rfl, H_Book_init.up (by decide)⟩ all_nil), all_nil, hblt, (all_cons ⟨10, rfl, H_Change_eq.up (by decide)⟩ all_nil), all_nil⟩ rfl chk_law rfl pu_law (all_cons ⟨[], FunD.bindsN F_law (fun _ _ _ _ _ _ us hl => match us, hl with | [_], _ => rfl), .nil⟩ all_nil)
  exact fn_ok (m := (⟨mg, K, fl, cn⟩ : Mo)) F_law scp_law ⟨(all_cons ((H_law_book).up (by decide)) (all_cons ((H_law_is_change).up (by decide)) (all_cons ((H_law_same).up (by decide)) (all_cons ((H_law_walk_over).up (by decide)) (all_cons ((H_gone_over).up (by decide)) (all_cons ((H_law_loose).up (by decide)) (all_cons ((H_law_drawn_row).up (by decide)) (all_cons ((H_law_exchange).up (by decide)) (all_cons ((H_law_walk).up (by decide)) (all_cons ((H_law_pick).up (by decide)) (all_cons ((H_exchanged).up (by decide)) (all_cons ((H_law_change).up (by decide)) (all_cons ((H_law_turned).up (by decide)) (all_cons ((H_law_take).up (by decide)) (all_cons ((H_law_greater).up (by decide)) (all_cons ((H_law_change_case).up (by decide)) (all_cons ((H_law_box).up (by decide)) all_nil))))))))))))))))), (all_cons ⟨10, rfl, H_Book_init.up (by decide)⟩ all_nil), all_nil, hblt, (all_cons ⟨10, rfl, H_Change_eq.up (by decide)⟩ all_nil), all_nil⟩ rfl chk_law pu_law
end
end Hd
open PySem PySem.W PySem.Calls PyProof.Rows
theorem law_spec : Py.LawSp Pr.sp_law 63 := fun ns hl Q R h => ⟨rfl, hl, h⟩
set_option Elab.async false
set_option maxRecDepth 100000 in
set_option maxHeartbeats 0 in
theorem PySem.Challenge.cw_takentickets_k79_whole_changes_and_walks_holds : PySem.Challenge.rw_takentickets_k79_whole_changes_and_walks.Holds := by
  w_on; o_law
  refine HandSHeadRun.head_any (r := OpenLaw.row PySem.Challenge.rw_takentickets_k79_whole_changes_and_walks) (q := view (OpenLaw.row PySem.Challenge.rw_takentickets_k79_whole_changes_and_walks).prog [71]) (H := Hd.hk) (ob := Hd.ob) (M := 30000) (loose := Hd.loose) (d := HandSHeadRun.topDef (OpenLaw.row PySem.Challenge.rw_takentickets_k79_whole_changes_and_walks).prog 71) (kwd := []) Hd.ob_eq
    (by kernel_rfl) (fun s => by kernel_rfl) Hd.run (by kernel_rfl) (by kernel_rfl) (by kernel_rfl) (by rfl) (by first | assumption | decide +kernel) (by decide +kernel) ⟨rfl, rfl, rfl, rfl, rfl, by decide +kernel⟩ ?hw ?hc
  case hw => w_witness2
  case hc =>
    refine Py.law_end (l := PySem.Challenge.rw_takentickets_k79_whole_changes_and_walks) (n := 63) (k := 12) (x := "script") (sp := Pr.sp_law) (fl := Hd.fl) (cn := Hd.cn) rfl (by decide) (by kernel_rfl) ⟨rfl, by decide, by decide⟩ law_spec ?F
    intro w mg K h KX G c cx
    have e : (HandSHeadRun.topDef (OpenLaw.row PySem.Challenge.rw_takentickets_k79_whole_changes_and_walks).prog 71).name = ("law" : PySem.Str) := by kernel_rfl
    obtain ⟨f, fd, h1, h2, h3⟩ := Hd.facts (P := (PySem.Challenge.rw_takentickets_k79_whole_changes_and_walks).prog) (w := w) KX G c cx
    exact ⟨f, fd, by rw [e]; exact h1, h2, h3⟩
