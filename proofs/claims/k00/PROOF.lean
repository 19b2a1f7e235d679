import PyProof.Rows.All
import Wide.All
import OpenK.AllK
import Wide.FinOn
import KE.KStateDown
import HandS.ExcIs
import HandS.Head0
import HandS.Head1
import HandS.Head2
import HandS.HeadEnd
import HandS.HeadHook1
import HandS.HeadHook2
import HandS.ExcField
import HandS.ExcInit
import HandS.Base
import HandS.Call
import HandS.Property
import HandS.Defaults
import HandS.Ends
import HandS.More
import HandS.Words
import HandS.WordsExc
import HandS.ForMost
import HandS.ForExc
import HandS.IsInst
import HandS.CallSlots
import HandS.Wide
import HandS.TupAny
import HandS.Zip
import HandS.Rev
import HandS.SortInts
import HandS.TupSets
import KE.SortData
import HandS.Text
import HandS.Star
import HandS.Style
import KE.GoesMore
import KE.GoesEnum
import PyProof.ListNew
import HandS.SetFor
import HandS.Strs
import HandS.Comp
import HandS.Dict
import HandS.Conv
import KE.DatumOrd
import KE.KDictZip
import KE.KDictItemsList
import HandS.ListItems
import HandS.List
import HandS.ExcOwn
import HandS.TryOnly
import KE.KExcIs
import HandS.HotCalls
import OpenK.KMake
import HandS.CallLocal
import HandS.Exc
import HandS.Deep
import PyProof.Rows.CountFlat
import PyProof.Rows.RowBridgeK
import PyProof.NeKinds
import PySem.Challenge.RW_limiterheard_k00_error_classes
set_option Elab.async false
set_option linter.all false
set_option maxRecDepth 100000
set_option maxHeartbeats 0
/-! LEXB: what the kernel looks up of exception classes. -/
namespace LH
open PySem PySem.Spec PyProof.Rows L2
def tabE (n m : Str) : Bool := n == m || m == "LimitError"
/-! ### facts, by the kernel -/
def excB (K : PySem.W.Frag) (n : Str) : Bool :=
  (He.Fa.glo n).ok K && ((He.Fa.exc n).ok K && (decide (PySem.W.findIn K (.ref (He.ga K n)) "__getattribute__" = some (some (.builtin "BaseException.__getattribute__"))) && (decide (PySem.W.findIn K (.ref (He.ga K n)) "__getattr__" = some none) && (PySem.W.hasDictIn K (He.ga K n) &&
    (decide (PySem.W.findIn K (.ref (He.ga K n)) "__class__" = some (some (.builtin "object.__class__"))) && (decide (PySem.W.specialIn K (.builtin "object.__class__") "__get__" = some (some (.builtin "getset_descriptor.__get__"))) && (decide (PySem.W.takesIn K (.builtin "object.__class__") = some true) &&
    (decide (PySem.W.mroIn K (He.ga K n) (.type "object") = some true) && decide (PySem.W.kitOne K (.ref (He.ga K n)) (.type "ValueError") = some true)))))))))
def excsB (K : PySem.W.Frag) (NS MS : List Str) (cl : Str) : Bool :=
  (He.Fa.glo cl).ok K && ((NS.all fun n => excB K n && (decide (PySem.W.exmOne K (.ref (He.ga K n)) (.ref (He.ga K cl)) = some true) && MS.all fun m => decide (PySem.W.kitOne K (.ref (He.ga K n)) (.ref (He.ga K m)) = some (tabE n m)))) && MS.all fun m => (He.Fa.glo m).ok K)
end LH

/-! LXFB: what the kernel looks up of exception classes with fields. -/
namespace LH
open PySem PySem.Spec PyProof.Rows L2
def xbase (K : PySem.W.Frag) (n : Str) : Bool :=
  (He.Fa.glo n).ok K && (decide (PySem.W.findIn K (.ref (He.ga K n)) "__getattribute__" = some (some (.builtin "BaseException.__getattribute__"))) && (decide (PySem.W.findIn K (.ref (He.ga K n)) "__getattr__" = some none) && (PySem.W.hasDictIn K (He.ga K n) && (decide (PySem.W.findIn K (.ref (He.ga K n)) "__class__" = some (some (.builtin "object.__class__"))) && (decide (PySem.W.specialIn K (.builtin "object.__class__") "__get__" = some (some (.builtin "getset_descriptor.__get__"))) && (decide (PySem.W.takesIn K (.builtin "object.__class__") = some true) && (decide (PySem.W.mroIn K (He.ga K n) (.type "object") = some true) && (decide (PySem.W.kitOne K (.ref (He.ga K n)) (.type "ValueError") = some true) && (decide (PySem.W.subIn K (.ref (He.ga K n)) (.type "BaseException") = some true) && (decide (PySem.W.typeIn K (.ref (He.ga K n)) = some (.type "type")) && PySem.W.keepIn K (.ref (He.ga K n))))))))))))
def xtB (K : PySem.W.Frag) (NS MS CL FL : List Str) : Bool :=
  NS.all (fun n => xbase K n && ((CL.all fun c => decide (PySem.W.exmOne K (.ref (He.ga K n)) (.ref (He.ga K c)) = some (tabE n c))) && ((MS.all fun m => decide (PySem.W.kitOne K (.ref (He.ga K n)) (.ref (He.ga K m)) = some (tabE n m))) && FL.all fun f => decide (PySem.W.findIn K (.ref (He.ga K n)) f = some none)))) &&
    ((CL.all fun c => (He.Fa.glo c).ok K) && MS.all fun m => (He.Fa.glo m).ok K)
/-- classes without __init__ -/
def xrB (K : PySem.W.Frag) (RS : List Str) : Bool := RS.all fun n => (He.Fa.glo n).ok K && (He.Fa.exc n).ok K
def oexB (K : PySem.W.Frag) (C : Addr) : Bool := match K.lookup C with
  | some ⟨.type "type", _, .cls cd, sl⟩ => (match cd.mro, sl.toList with
    | .ref C' :: bm, [_, _, _, _, some (.builtin n), _] => C' == C && (n == "ValueError.__new__" && (!cd.hasDel && (cd.hasDict && PySem.HandSPX.refsVE bm)))
    | _, _ => false)
  | _ => false
def xclB (K : PySem.W.Frag) (n : Str) (fs : List Str) : Bool :=
  xbase K n && (oexB K (He.ga K n) && (decide (PySem.W.findIn K (.ref (He.ga K n)) "__setattr__" = some (some (.builtin "object.__setattr__"))) && (decide (PySem.W.findIn K (.ref (He.ga K n)) "__init__" = some (some (.ref (He.ma K (He.ga K n) "__init__")))) &&
    (decide (PySem.W.typeIn K (.ref (He.ma K (He.ga K n) "__init__")) = some (.type "function")) && fs.all fun f => decide (PySem.W.findIn K (.ref (He.ga K n)) f = some none)))))
def limB (K : PySem.W.Frag) (x : Str) : Bool :=
  (He.Fa.glo x).ok K && (decide (PySem.W.specialIn K (.ref (He.ga K x)) "__getattribute__" = some (some (.builtin "type.__getattribute__"))) && (PySem.W.readsIn K (He.ga K x) (.type "type") && (match PySem.W.findCls K (.ref (He.ga K x)) (.type "type") "__init__" with
    | some (.val (.builtin b)) => b == "ValueError.__init__"
    | _ => false)))
end LH

/-! LHA: the head of a law with own classes, what the kernel runs (leans on the kit alone). -/
namespace LH
open PySem PySem.Spec PyProof.Rows L2
/-! ### the text: a class's defs -/
def clsBody : Stmt → List Stmt
  | .ClassDef _ _ _ b _ _ _ _ _ _ _ => b
  | _ => []
def inCls (st : Stmt) (i : Nat) : Stmt := (clsBody st).getD i (.Pass ⟨0, 0, 0, 0⟩)
/-! ### a part of the heap that holds the classes' defs -/
def nsOfC (K : PySem.W.Frag) (x : Str) : List Addr := match K.lookup (He.ga K x) with
  | some ⟨_, _, .cls cd, _⟩ => [cd.ns]
  | _ => []
def asFrom (g : Addr → Option Obj) : Nat → List Addr → List Addr
  | 0, as => as
  | n + 1, as => asFrom g n (He.growD g as)
/-- the name * stands for the table of statics -/
def asC (cs : List Str) (g : Addr → Option Obj) : List Addr := He.asD g 2 ++ asFrom g 3 (cs.flatMap fun x => nsOfC (He.frG g (He.asD g 2)) x) ++ (if cs.contains "*" then [PySem.cStatics] else [])
def obsC (cs : List Str) (fa : List He.Fa) (fn : List He.DefD) (ex : PySem.W.Frag → Bool) (g : Addr → Option Obj) : He.AlD × Bool := (He.obsD fa fn (He.frG g (asC cs g)), ex (He.frG g (asC cs g)))
def hookC (cs : List Str) (fa : List He.Fa) (fn : List He.DefD) (ex : PySem.W.Frag → Bool) : PySem.W.Hook where
  α := He.AlD × Bool
  obs := fun s => obsC cs fa fn ex s.heap.get?
  val := fun _ => (He.valD fn, true)
  says := fun _ h => ∃ K : PySem.W.Frag, K.In h ∧ He.SaysD fa fn K ∧ ex K = true
  of := fun _ _ e => ⟨_, He.frG_in, congrArg Prod.fst e, congrArg Prod.snd e⟩
  keeps := fun _ _ _ ⟨K, hK, c⟩ k => ⟨K, PySem.W.Frag.In.keeps hK k, c⟩
theorem obsC_eq {cs : List Str} {fa : List He.Fa} {fn : List He.DefD} {ex : PySem.W.Frag → Bool} {g : Addr → Option Obj} {s : Shared} (h : ∀ a, g a = s.heap.get? a) : obsC cs fa fn ex g = (hookC cs fa fn ex).obs s := by
  have e : g = s.heap.get? := funext h
  rw [e] <;> rfl
end LH

namespace LH
end LH
namespace LW
open PySem PySem.Spec PyProof.Rows L2 LH
/-! the text: its defs by their places -/
def top (i : Nat) : Stmt := PySem.Challenge.pw_limiterheard_k00_error_classes.main.body.getD i (.Pass ⟨0, 0, 0, 0⟩)
abbrev s__law_raised_more : Stmt := top 52
abbrev s__law_raised_one : Stmt := top 51
abbrev s__law_marks : Stmt := top 53
abbrev s__law_way_right : Stmt := top 54
abbrev s_is_integer : Stmt := top 36
abbrev s_is_at_least : Stmt := top 37
abbrev s_greatest_divisor : Stmt := top 38
abbrev s_is_fraction : Stmt := top 39
abbrev s_is_rule : Stmt := top 43
abbrev s_check_rule : Stmt := top 44
abbrev s_is_request : Stmt := top 40
abbrev s_is_rising : Stmt := top 41
abbrev s_is_row : Stmt := top 42
abbrev s_check_row : Stmt := top 45
abbrev s_levels : Stmt := top 46
abbrev s_counted : Stmt := top 47
abbrev s_answers_of : Stmt := top 48
abbrev s_answers : Stmt := top 49
abbrev s__law_kept_right : Stmt := top 55
abbrev s_law : Stmt := top 56
abbrev NSX : List Str := ["InvalidCost", "InvalidEntry", "InvalidFraction", "InvalidIndex", "InvalidKind", "InvalidKinds", "InvalidLog", "InvalidLogs", "InvalidNumber", "InvalidPassed", "InvalidRequest", "InvalidRow", "InvalidRule", "InvalidRules", "InvalidText", "InvalidTicks", "InvalidTime", "InvalidTries", "LimitError", "NoRule", "NotFitting", "NotHeard", "NothingToUndo", "Open", "OtherKind", "TooEarly", "TooMany"]
abbrev MSX : List Str := ["InvalidCost", "InvalidEntry", "InvalidFraction", "InvalidIndex", "InvalidKind", "InvalidKinds", "InvalidLog", "InvalidLogs", "InvalidNumber", "InvalidPassed", "InvalidRequest", "InvalidRow", "InvalidRule", "InvalidRules", "InvalidText", "InvalidTicks", "InvalidTime", "InvalidTries", "NoRule", "NotFitting", "NotHeard", "NothingToUndo", "Open", "OtherKind", "TooEarly", "TooMany"]
abbrev CLX : List Str := ["LimitError", "NotFitting", "Open"]
abbrev FLX : List Str := ["index", "one", "other"]
abbrev NRX : List Str := ["InvalidCost", "InvalidEntry", "InvalidFraction", "InvalidIndex", "InvalidKind", "InvalidKinds", "InvalidLog", "InvalidLogs", "InvalidNumber", "InvalidPassed", "InvalidRequest", "InvalidRow", "InvalidRule", "InvalidRules", "InvalidText", "InvalidTicks", "InvalidTime", "InvalidTries", "LimitError", "NoRule", "NotHeard", "NothingToUndo", "OtherKind", "TooEarly", "TooMany"]
abbrev s_NotFitting___init__ : Stmt := inCls (top 26) 0
abbrev s_Open___init__ : Stmt := inCls (top 27) 0
/-! the head -/
def D__law_raised_more : He.DefD := ⟨("_law_raised_more", none), "_law_raised_more", "_law_raised_more", defArgs s__law_raised_more, defBody s__law_raised_more, defScope s__law_raised_more, [], []⟩
def D__law_raised_one : He.DefD := ⟨("_law_raised_one", none), "_law_raised_one", "_law_raised_one", defArgs s__law_raised_one, defBody s__law_raised_one, defScope s__law_raised_one, [], []⟩
def D__law_marks : He.DefD := ⟨("_law_marks", none), "_law_marks", "_law_marks", defArgs s__law_marks, defBody s__law_marks, defScope s__law_marks, [], []⟩
def D__law_way_right : He.DefD := ⟨("_law_way_right", none), "_law_way_right", "_law_way_right", defArgs s__law_way_right, defBody s__law_way_right, defScope s__law_way_right, [], []⟩
def D_is_integer : He.DefD := ⟨("is_integer", none), "is_integer", "is_integer", defArgs s_is_integer, defBody s_is_integer, defScope s_is_integer, [], []⟩
def D_is_at_least : He.DefD := ⟨("is_at_least", none), "is_at_least", "is_at_least", defArgs s_is_at_least, defBody s_is_at_least, defScope s_is_at_least, [], []⟩
def D_greatest_divisor : He.DefD := ⟨("greatest_divisor", none), "greatest_divisor", "greatest_divisor", defArgs s_greatest_divisor, defBody s_greatest_divisor, defScope s_greatest_divisor, [], []⟩
def D_is_fraction : He.DefD := ⟨("is_fraction", none), "is_fraction", "is_fraction", defArgs s_is_fraction, defBody s_is_fraction, defScope s_is_fraction, [], []⟩
def D_is_rule : He.DefD := ⟨("is_rule", none), "is_rule", "is_rule", defArgs s_is_rule, defBody s_is_rule, defScope s_is_rule, [], []⟩
def D_check_rule : He.DefD := ⟨("check_rule", none), "check_rule", "check_rule", defArgs s_check_rule, defBody s_check_rule, defScope s_check_rule, [], []⟩
def D_is_request : He.DefD := ⟨("is_request", none), "is_request", "is_request", defArgs s_is_request, defBody s_is_request, defScope s_is_request, [], []⟩
def D_is_rising : He.DefD := ⟨("is_rising", none), "is_rising", "is_rising", defArgs s_is_rising, defBody s_is_rising, defScope s_is_rising, [], []⟩
def D_is_row : He.DefD := ⟨("is_row", none), "is_row", "is_row", defArgs s_is_row, defBody s_is_row, defScope s_is_row, [], []⟩
def D_check_row : He.DefD := ⟨("check_row", none), "check_row", "check_row", defArgs s_check_row, defBody s_check_row, defScope s_check_row, [], []⟩
def D_levels : He.DefD := ⟨("levels", none), "levels", "levels", defArgs s_levels, defBody s_levels, defScope s_levels, [], []⟩
def D_counted : He.DefD := ⟨("counted", none), "counted", "counted", defArgs s_counted, defBody s_counted, defScope s_counted, [], []⟩
def D_answers_of : He.DefD := ⟨("answers_of", none), "answers_of", "answers_of", defArgs s_answers_of, defBody s_answers_of, defScope s_answers_of, [], []⟩
def D_answers : He.DefD := ⟨("answers", none), "answers", "answers", defArgs s_answers, defBody s_answers, defScope s_answers, [], []⟩
def D__law_kept_right : He.DefD := ⟨("_law_kept_right", none), "_law_kept_right", "_law_kept_right", defArgs s__law_kept_right, defBody s__law_kept_right, defScope s__law_kept_right, [], []⟩
def D_law : He.DefD := ⟨("law", none), "law", "law", defArgs s_law, defBody s_law, defScope s_law, [], []⟩
def D_NotFitting___init__ : He.DefD := ⟨("NotFitting", some "__init__"), "__init__", "NotFitting.__init__", defArgs s_NotFitting___init__, defBody s_NotFitting___init__, defScope s_NotFitting___init__, [], []⟩
def D_Open___init__ : He.DefD := ⟨("Open", some "__init__"), "__init__", "Open.__init__", defArgs s_Open___init__, defBody s_Open___init__, defScope s_Open___init__, [], []⟩
def fn : List He.DefD := [D__law_raised_more, D__law_raised_one, D__law_marks, D__law_way_right, D_is_integer, D_is_at_least, D_greatest_divisor, D_is_fraction, D_is_rule, D_check_rule, D_is_request, D_is_rising, D_is_row, D_check_row, D_levels, D_counted, D_answers_of, D_answers, D__law_kept_right, D_law, D_NotFitting___init__, D_Open___init__]
def fa : List He.Fa := [.glo "_law_raised_more", .glo "_law_raised_one", .glo "_law_marks", .glo "_law_way_right", .glo "is_integer", .glo "is_at_least", .glo "greatest_divisor", .glo "is_fraction", .glo "is_rule", .glo "check_rule", .glo "is_request", .glo "is_rising", .glo "is_row", .glo "check_row", .glo "levels", .glo "counted", .glo "answers_of", .glo "answers", .glo "_law_kept_right", .glo "law", .free "ValueError", .free "all", .free "bool", .free "int", .free "isinstance", .free "len", .free "min", .free "range", .free "str", .free "sum", .free "tuple", .free "zip", .str "FRAME" "frame", .str "GAP" "gap", .str "METER" "meter", .str "WINDOW" "window", .glo "FILLED", .glo "SPANNED"]
def ex (K : PySem.W.Frag) : Bool := He.tupB K "FILLED" [.str "bucket", .str "meter"] && He.tupB K "SPANNED" [.str "window", .str "frame"] && xtB K NSX MSX CLX FLX && xrB K NRX && limB K "LimitError" && xclB K "NotFitting" ["index"] && xclB K "Open" ["one", "other"]
abbrev R : PySem.W.OpenRow := PySem.W.OpenLaw.row PySem.Challenge.rw_limiterheard_k00_error_classes
abbrev hk : PySem.W.Hook := hookC ["*", "NotFitting", "Open"] fa fn ex
def ob (s : PySem.W.SharedT) : He.AlD × Bool := obsC ["*", "NotFitting", "Open"] fa fn ex (HandSHeadRun.getT s)
theorem ob_eq (s : PySem.W.SharedT) : ob s = hk.obs s.abs := obsC_eq (HandSHeadRun.getT_eq s)
def loose : List Str := (["LimitError", "InvalidRule", "InvalidRow", "InvalidLog", "InvalidLogs", "InvalidTime", "InvalidCost", "InvalidIndex", "InvalidKind", "InvalidFraction", "InvalidRules", "InvalidTries", "InvalidTicks", "InvalidText", "InvalidEntry", "InvalidNumber", "InvalidRequest", "InvalidKinds", "InvalidPassed", "OtherKind", "TooEarly", "NoRule", "NotHeard", "NothingToUndo", "TooMany", "NotFitting", "Open", "BUCKET", "METER", "WINDOW"] : List Str) ++ (["FRAME", "GAP", "FILLED", "SPANNED", "is_integer", "is_at_least", "greatest_divisor", "is_fraction", "is_request", "is_rising", "is_row", "is_rule", "check_rule", "check_row", "levels", "counted", "answers_of", "answers", "_law_raised_one", "_law_raised_more", "_law_marks", "_law_way_right", "_law_kept_right"] : List Str)
theorem run (w : World) : HandSHeadRun.RunEq R (PySem.W.view R.prog [56]) hk ob 40000 loose w := by
  intro os
  kernel_rfl
end LW

/-! LA: values as trees, a store of mutable lists, what stands for what. -/
namespace LH
open PySem PySem.Spec PyProof.Rows L2

/-- a value as a tree; ro: a list that is read alone (the script); cell n: the n-th mutable thing of the store; ty: a built-in type; opq: a thing of the type t that is only passed on and asked for its type; xo: a caught exception at a, its fields at d -/
inductive PV where
  | non | bl (b : Bool) | int (i : Int) | str (s : Str) | ty (n : String) | tup (xs : List PV) | lst (xs : List PV) | ro (xs : List PV) | cell (n : Nat) | adr (a : Addr) | opq (t : Value) | xo (a d : Addr) (ns : List Str) (xs : List PV)
  deriving Inhabited
/-- a mutable thing -/
inductive Cell where
  | lst (xs : List PV) | raw (o : HO) | dead | gen (two : Bool) (g : Addr → List V → HO) (xs : List PV)
abbrev Sto := List Cell
/-- an exception: its class's name, its fields -/
structure Exc where
  name : Str
  fields : List (Str × PV)
inductive Res (α : Type) where
  | ok (a : α) (S : Sto) | exc (x : Exc) (S : Sto) | stuck
def Res.bind {α β : Type} (r : Res α) (g : α → Sto → Res β) : Res β := match r with
  | .ok a S => g a S
  | .exc x S => .exc x S
  | .stuck => .stuck

/-- a thing of a type that is none of the five -/
structure OpqAt (K : PySem.W.Frag) (F : Hp) (a : Addr) (t : Value) : Prop where
  at_ : ∃ o, F a = some o
  ty : ∀ H : Hp, (∀ b o, F b = some o → H b = some o) → TyX K H (.ref a) t
  no : ∀ T ∈ ["int", "bool", "str", "tuple", "list"], PySem.W.kitOne K t (.type T) = some false
mutual
inductive Rp (K : PySem.W.Frag) (F : Hp) (ci : List Addr) : PV → V → Prop
  | non : Rp K F ci .non .non
  | bl (b : Bool) : Rp K F ci (.bl b) (.bl b)
  | int (i : Int) : Rp K F ci (.int i) (.int i)
  | str (x : Str) : Rp K F ci (.str x) (.str x)
  | ty (n : String) : Rp K F ci (.ty n) (.ty n)
  | tup {a : Addr} {ds : List PV} {vs : List V} : SqT K F a vs → ds.length ≤ sizeLine → Rps K F ci ds vs → Rp K F ci (.tup ds) (.ref a)
  | lst {a : Addr} {ds : List PV} {vs : List V} : F a = some (.lst vs) → ds.length ≤ sizeLine → Rps K F ci ds vs → Rp K F ci (.lst ds) (.ref a)
  | ro {a : Addr} {ds : List PV} {vs : List V} : SqL K F a vs → ds.length ≤ sizeLine → Rps K F ci ds vs → Rp K F ci (.ro ds) (.ref a)
  | cell {a : Addr} {n : Nat} : ci[n]? = some a → Rp K F ci (.cell n) (.ref a)
  | adr {a : Addr} : Rp K F ci (.adr a) (.ref a)
  | opq {a : Addr} {t : Value} : OpqAt K F a t → Rp K F ci (.opq t) (.ref a)
  | xo {a d : Addr} {ns : List Str} {ds : List PV} {vs : List V} : F d = some (.xd (ns.zip vs)) → Rps K F ci ds vs → Rp K F ci (.xo a d ns ds) (.ref a)
inductive Rps (K : PySem.W.Frag) (F : Hp) (ci : List Addr) : List PV → List V → Prop
  | nil : Rps K F ci [] []
  | cons {d : PV} {v : V} {ds : List PV} {vs : List V} : Rp K F ci d v → Rps K F ci ds vs → Rps K F ci (d :: ds) (v :: vs)
end

/-- what stood frozen stands -/
def Ext (F F' : Hp) : Prop := ∀ a o, F a = some o → F' a = some o
theorem Ext.refl (F : Hp) : Ext F F := fun _ _ h => h
theorem Ext.trans {F G H : Hp} (a : Ext F G) (b : Ext G H) : Ext F H := fun c o h => b c o (a c o h)
theorem Ext.rd {F F' : Hp} (e : Ext F F') {a : Addr} {u : HO} (h : Rd F a u) : Rd F' a u := by
  rcases h with h | ⟨o, h⟩
  · exact .inl (e _ _ h)
  · exact .inr ⟨o, e _ _ h⟩
theorem Ext.opq {K : PySem.W.Frag} {F F' : Hp} (e : Ext F F') {a : Addr} {t : Value} (h : OpqAt K F a t) : OpqAt K F' a t where
  at_ := by obtain ⟨o, q⟩ := h.at_; exact ⟨o, e _ _ q⟩
  ty := fun H q => h.ty H fun b o z => q b o (e _ _ z)
  no := h.no
theorem Ext.sqT {K : PySem.W.Frag} {F F' : Hp} (e : Ext F F') {a : Addr} {vs : List V} (h : SqT K F a vs) : SqT K F' a vs := by
  rcases h with h | h
  · exact .inl (e.rd h)
  · exact .inr h
theorem Ext.sqL {K : PySem.W.Frag} {F F' : Hp} (e : Ext F F') {a : Addr} {vs : List V} (h : SqL K F a vs) : SqL K F' a vs := by
  rcases h with h | h
  · exact .inl (e.rd h)
  · exact .inr h

section
variable {K : PySem.W.Frag} {F F' : Hp} {ci ci' : List Addr}
theorem pre_get {l l' : List Addr} (p : l <+: l') {n : Nat} {a : Addr} (h : l[n]? = some a) : l'[n]? = some a := by
  obtain ⟨t, rfl⟩ := p
  have hn : n < l.length := (List.getElem?_eq_some_iff.mp h).1
  rw [List.getElem?_append_left hn]; exact h
mutual
theorem Rp.mono (e : Ext F F') (p : ci <+: ci') : ∀ {d : PV} {v : V}, Rp K F ci d v → Rp K F' ci' d v
  | _, _, .non => .non
  | _, _, .bl b => .bl b
  | _, _, .int i => .int i
  | _, _, .str x => .str x
  | _, _, .ty n => .ty n
  | _, _, .tup h z r => .tup (e.sqT h) z (Rps.mono e p r)
  | _, _, .lst h z r => .lst (e _ _ h) z (Rps.mono e p r)
  | _, _, .ro h z r => .ro (e.sqL h) z (Rps.mono e p r)
  | _, _, .cell h => .cell (pre_get p h)
  | _, _, .adr => .adr
  | _, _, .opq h => .opq (e.opq h)
  | _, _, .xo h r => .xo (e _ _ h) (Rps.mono e p r)
theorem Rps.mono (e : Ext F F') (p : ci <+: ci') : ∀ {ds : List PV} {vs : List V}, Rps K F ci ds vs → Rps K F' ci' ds vs
  | _, _, .nil => .nil
  | _, _, .cons h r => .cons (Rp.mono e p h) (Rps.mono e p r)
end
theorem Rps.length : ∀ {ds : List PV} {vs : List V}, Rps K F ci ds vs → ds.length = vs.length
  | _, _, .nil => rfl
  | _, _, .cons _ r => by simp [Rps.length r]
theorem Rps.get : ∀ {ds : List PV} {vs : List V} {i : Nat} {d : PV}, Rps K F ci ds vs → ds[i]? = some d → ∃ v, vs[i]? = some v ∧ Rp K F ci d v
  | _, _, _, _, .nil, h => by simp at h
  | _, _, 0, _, .cons h _, e => by simp at e; subst e; exact ⟨_, rfl, h⟩
  | _, _, i + 1, d, .cons _ r, e => by
    obtain ⟨v, h1, h2⟩ := Rps.get (i := i) r (by simpa using e)
    exact ⟨v, by simpa using h1, h2⟩
theorem Rps.append : ∀ {ds es : List PV} {vs ws : List V}, Rps K F ci ds vs → Rps K F ci es ws → Rps K F ci (ds ++ es) (vs ++ ws)
  | _, _, _, _, .nil, s => s
  | _, _, _, _, .cons h r, s => .cons h (Rps.append r s)
theorem Rps.take : ∀ {ds : List PV} {vs : List V} (n : Nat), Rps K F ci ds vs → Rps K F ci (ds.take n) (vs.take n)
  | _, _, 0, _ => by simp; exact .nil
  | _, _, _ + 1, .nil => by simp; exact .nil
  | _, _, n + 1, .cons h r => by simp only [List.take_succ_cons]; exact .cons h (Rps.take n r)
theorem Rps.drop : ∀ {ds : List PV} {vs : List V} (n : Nat), Rps K F ci ds vs → Rps K F ci (ds.drop n) (vs.drop n)
  | _, _, 0, r => by simpa using r
  | _, _, _ + 1, .nil => by simp; exact .nil
  | _, _, n + 1, .cons h r => by simp only [List.drop_succ_cons]; exact Rps.drop n r
theorem Rps.set : ∀ {ds : List PV} {vs : List V} (i : Nat) {d : PV} {v : V}, Rps K F ci ds vs → Rp K F ci d v → Rps K F ci (ds.set i d) (vs.set i v)
  | _, _, _, _, _, .nil, _ => by simp; exact .nil
  | _, _, 0, _, _, .cons _ r, q => by simp only [List.set_cons_zero]; exact .cons q r
  | _, _, i + 1, _, _, .cons h r, q => by simp only [List.set_cons_succ]; exact .cons h (Rps.set i r q)
theorem Rps.reverse : ∀ {ds : List PV} {vs : List V}, Rps K F ci ds vs → Rps K F ci ds.reverse vs.reverse
  | _, _, .nil => .nil
  | _, _, .cons h r => by rw [List.reverse_cons, List.reverse_cons]; exact Rps.append (Rps.reverse r) (.cons h .nil)
theorem Rps.nil_inv {vs : List V} (h : Rps K F ci [] vs) : vs = [] := by cases h; rfl
theorem Rps.cons_inv {d : PV} {ds : List PV} {vs : List V} (h : Rps K F ci (d :: ds) vs) : ∃ v ws, vs = v :: ws ∧ Rp K F ci d v ∧ Rps K F ci ds ws := by
  cases h with | cons h r => exact ⟨_, _, rfl, h, r⟩
end

mutual
/-- names no mutable thing from the m-th on -/
def bel (m : Nat) : PV → Bool
  | .cell n => decide (n < m)
  | .tup xs => bels m xs
  | .lst xs => bels m xs
  | .ro xs => bels m xs
  | .xo _ _ _ xs => bels m xs
  | _ => true
def bels (m : Nat) : List PV → Bool
  | [] => true
  | x :: xs => bel m x && bels m xs
end
section
variable {K : PySem.W.Frag} {F : Hp} {ci ci' : List Addr}
mutual
theorem Rp.down {m : Nat} (h : ∀ n, n < m → ∀ a, ci[n]? = some a → ci'[n]? = some a) : ∀ {d : PV} {v : V}, bel m d = true → Rp K F ci d v → Rp K F ci' d v
  | _, _, _, .non => .non
  | _, _, _, .bl b => .bl b
  | _, _, _, .int i => .int i
  | _, _, _, .str x => .str x
  | _, _, _, .ty n => .ty n
  | _, _, b, .tup e z r => .tup e z (Rps.down h (by simpa [bel] using b) r)
  | _, _, b, .lst e z r => .lst e z (Rps.down h (by simpa [bel] using b) r)
  | _, _, b, .ro e z r => .ro e z (Rps.down h (by simpa [bel] using b) r)
  | _, _, b, .cell e => .cell (h _ (by simpa [bel] using b) _ e)
  | _, _, _, .adr => .adr
  | _, _, _, .opq h => .opq h
  | _, _, b, .xo e r => .xo e (Rps.down h (by simpa [bel] using b) r)
theorem Rps.down {m : Nat} (h : ∀ n, n < m → ∀ a, ci[n]? = some a → ci'[n]? = some a) : ∀ {ds : List PV} {vs : List V}, bels m ds = true → Rps K F ci ds vs → Rps K F ci' ds vs
  | _, _, _, .nil => .nil
  | _, _, b, .cons r rs => by
    simp only [bels, Bool.and_eq_true] at b
    exact .cons (Rp.down h b.1 r) (Rps.down h b.2 rs)
end
end
theorem bels_append (m : Nat) : ∀ xs ys : List PV, bels m (xs ++ ys) = (bels m xs && bels m ys)
  | [], ys => by simp [bels]
  | x :: xs, ys => by simp [bels, bels_append m xs ys, Bool.and_assoc]
/-- a thing made of values: its object, and where two, the dict that it owns -/
def GelAt (K : PySem.W.Frag) (F : Hp) (ci : List Addr) (H : Hp) (a : Addr) (two : Bool) (g : Addr → List V → HO) (xs : List PV) : Prop :=
  ∃ dx vs, F a = none ∧ H a = some (g dx vs) ∧ (xs.length ≤ sizeLine ∧ bels 0 xs = true) ∧ Rps K F ci xs vs ∧ (two = true → F dx = none ∧ dx ∉ ci ∧ H dx = some (.own a))
theorem GelAt.f {K : PySem.W.Frag} {F : Hp} {ci : List Addr} {H : Hp} {a : Addr} {two : Bool} {g : Addr → List V → HO} {xs : List PV} (h : GelAt K F ci H a two g xs) : F a = none := h.choose_spec.choose_spec.1
theorem GelAt.h {K : PySem.W.Frag} {F : Hp} {ci : List Addr} {H : Hp} {a : Addr} {two : Bool} {g : Addr → List V → HO} {xs : List PV} (h : GelAt K F ci H a two g xs) : ∃ o, H a = some o := ⟨_, h.choose_spec.choose_spec.2.1⟩
theorem GelAt.ne {K : PySem.W.Frag} {F : Hp} {ci : List Addr} {H : Hp} {a p : Addr} {two : Bool} {g : Addr → List V → HO} {xs : List PV} (h : GelAt K F ci H a two g xs) (hp : H p = none) : a ≠ p := fun e => by
  obtain ⟨o, q⟩ := h.h
  rw [e, hp] at q; cases q
/-- the store stands in the heap -/
structure SR (K : PySem.W.Frag) (F : Hp) (ci : List Addr) (S : Sto) (H : Hp) : Prop where
  le : ∀ a o, F a = some o → H a = some o
  len : ci.length = S.length
  nd : ci.Nodup
  there : ∀ a ∈ ci, ∃ o, H a = some o
  cel : ∀ (n : Nat) (xs : List PV), S[n]? = some (.lst xs) → ∃ a vs, ci[n]? = some a ∧ F a = none ∧ H a = some (.lst vs) ∧ (xs.length ≤ sizeLine ∧ bels 0 xs = true) ∧ Rps K F ci xs vs
  kel : ∀ (n : Nat) (u : HO), S[n]? = some (.raw u) → ∃ a, ci[n]? = some a ∧ F a = none ∧ H a = some u
  gel : ∀ (n : Nat) (two : Bool) (g : Addr → List V → HO) (xs : List PV), S[n]? = some (.gen two g xs) → ∃ a, ci[n]? = some a ∧ GelAt K F ci H a two g xs
/-- what has become of a state -/
structure Later (F : Hp) (ci : List Addr) (H : Hp) (F' : Hp) (ci' : List Addr) (H' : Hp) : Prop where
  ext : Ext F F'
  pre : ci <+: ci'
  keep : ∀ a o, H a = some o → a ∉ ci → H' a = some o
  new : ∀ a, a ∈ ci' → a ∉ ci → H a = none
  fz : ∀ a o, F' a = some o → F a = some o ∨ a ∈ ci ∨ H a = none
section
variable {K : PySem.W.Frag} {F F' F1 F2 : Hp} {ci ci' ci1 ci2 : List Addr} {H H' H1 H2 : Hp} {S S' : Sto}
theorem Later.refl : Later F ci H F ci H := ⟨.refl _, List.prefix_refl _, fun _ _ h _ => h, fun _ h n => absurd h n, fun _ _ h => .inl h⟩
theorem Later.trans (a : Later F ci H F1 ci1 H1) (b : Later F1 ci1 H1 F2 ci2 H2) : Later F ci H F2 ci2 H2 where
  ext := a.ext.trans b.ext
  pre := a.pre.trans b.pre
  keep := fun c o h n => by
    have h1 := a.keep c o h n
    refine b.keep c o h1 fun hm => ?_
    have := a.new c hm n
    rw [h] at this; cases this
  new := fun c hm n => by
    by_cases h1 : c ∈ ci1
    · exact a.new c h1 n
    · have h2 := b.new c hm h1
      cases e : H c with
      | none => rfl
      | some o => rw [a.keep c o e n] at h2; cases h2
  fz := fun c o h => by
    by_cases hc : c ∈ ci
    · exact .inr (.inl hc)
    · rcases b.fz c o h with h1 | h1 | h1
      · exact a.fz c o h1
      · exact .inr (.inr (a.new c h1 hc))
      · cases e : H c with
        | none => exact .inr (.inr rfl)
        | some u => rw [a.keep c u e hc] at h1; cases h1
theorem Later.rp (l : Later F ci H F' ci' H') {d : PV} {v : V} (h : Rp K F ci d v) : Rp K F' ci' d v := h.mono l.ext l.pre
theorem Later.gelat (l : Later F ci H F' ci' H') {a : Addr} {two : Bool} {g : Addr → List V → HO} {xs : List PV} (h : GelAt K F ci H a two g xs) (hF : F' a = none) (hH : H' a = H a) : GelAt K F' ci' H' a two g xs := by
  obtain ⟨dx, vs, h1, h2, h3, h4, h5⟩ := h
  refine ⟨dx, vs, hF, hH.trans h2, h3, h4.mono l.ext l.pre, fun t => ?_⟩
  obtain ⟨k1, k2, k3⟩ := h5 t
  have n1 : dx ∉ ci' := fun hm => by
    have := l.new dx hm k2
    rw [k3] at this; cases this
  refine ⟨?_, n1, l.keep dx _ k3 k2⟩
  cases e : F' dx with
  | none => rfl
  | some o =>
    rcases l.fz dx o e with q | q | q
    · rw [k1] at q; cases q
    · exact absurd q k2
    · rw [k3] at q; cases q
theorem Later.rps (l : Later F ci H F' ci' H') {d : List PV} {v : List V} (h : Rps K F ci d v) : Rps K F' ci' d v := h.mono l.ext l.pre
end

/-- what is wished of an outcome -/
def Out {α : Type} (K : PySem.W.Frag) (Z : Exc → Hp → List Addr → Sto → Hp → Prop) (F : Hp) (ci : List Addr) (H : Hp) (r : Res α) (P : α → Hp → List Addr → Sto → Hp → Prop) : Prop :=
  match r with
  | .ok d S' => ∀ F' ci' H', Later F ci H F' ci' H' → SR K F' ci' S' H' → P d F' ci' S' H'
  | .exc x S' => ∀ F' ci' H', Later F ci H F' ci' H' → SR K F' ci' S' H' → Z x F' ci' S' H'
  | .stuck => False
section
variable {α β : Type} {K : PySem.W.Frag} {Z : Exc → Hp → List Addr → Sto → Hp → Prop} {F F' : Hp} {ci ci' : List Addr} {H H' : Hp} {r : Res α} {P P' : α → Hp → List Addr → Sto → Hp → Prop}
theorem Out.later (h : Out K Z F ci H r P) (l : Later F ci H F' ci' H') : Out K Z F' ci' H' r P := by
  cases r with
  | ok d S' => exact fun F2 c2 H2 l2 s2 => h F2 c2 H2 (l.trans l2) s2
  | exc x S' => exact fun F2 c2 H2 l2 s2 => h F2 c2 H2 (l.trans l2) s2
  | stuck => exact h
theorem Out.bind {g : α → Sto → Res β} {P : β → Hp → List Addr → Sto → Hp → Prop} (h : Out K Z F ci H (r.bind g) P) : Out K Z F ci H r fun d F1 c1 S1 H1 => Out K Z F1 c1 H1 (g d S1) P := by
  cases r with
  | ok d S' => exact fun F2 c2 H2 l2 s2 => Out.later h l2
  | exc x S' => exact h
  | stuck => exact h
theorem Out.imp (h : Out K Z F ci H r P) (i : ∀ d F' ci' S' H', Later F ci H F' ci' H' → SR K F' ci' S' H' → P d F' ci' S' H' → P' d F' ci' S' H') : Out K Z F ci H r P' := by
  cases r with
  | ok d S' => exact fun F2 c2 H2 l2 s2 => i _ _ _ _ _ l2 s2 (h F2 c2 H2 l2 s2)
  | exc x S' => exact h
  | stuck => exact h
theorem Out.here {d : α} {S : Sto} (h : Out K Z F ci H (.ok d S) P) (s : SR K F ci S H) : P d F ci S H := h _ _ _ .refl s
end
end LH

/-! LB: what an expression, a test, an argument list, a statement, a def denotes. -/
namespace L2
open PySem PySem.Spec PyProof.Rows
theorem PE.imp {X : Cx} {e : Expr} {t t' : TE} (h : PE X e t) (i : ∀ σ H Q, t' σ H Q → t σ H Q) : PE X e t' := ⟨fun pins s σ H Q I q => h.run pins s σ H Q I (i σ H Q q)⟩
theorem PT.imp {X : Cx} {e : Expr} {t t' : TT} (h : PT X e t) (i : ∀ σ H Q, t' σ H Q → t σ H Q) : PT X e t' := ⟨fun pins s σ H Q I q => h.run pins s σ H Q I (i σ H Q q)⟩
theorem PW.imp {X : Cx} {e : Expr} {t t' : TT} (h : PW X e t) (i : ∀ σ H Q, t' σ H Q → t σ H Q) : PW X e t' := ⟨fun wh pins s σ H Q I q => h.run wh pins s σ H Q I (i σ H Q q)⟩
theorem PA.imp {X : Cx} {e : List Expr} {t t' : TA} (h : PA X e t) (i : ∀ σ H Q, t' σ H Q → t σ H Q) : PA X e t' := ⟨fun pos pins s σ H Q I q => h.run pos pins s σ H Q I (i σ H Q q)⟩
theorem PS.imp {X : Cx} {e : Stmt} {t t' : TS} (h : PS X e t) (i : ∀ D σ H, t' D σ H → t D σ H) : PS X e t' := ⟨fun pins s σ H D I q => h.run pins s σ H D I (i D σ H q)⟩
theorem PSs.imp {X : Cx} {e : List Stmt} {t t' : TS} (h : PSs X e t) (i : ∀ D σ H, t' D σ H → t D σ H) : PSs X e t' := ⟨fun pins s σ H D I q => h.run pins s σ H D I (i D σ H q)⟩

theorem PI.imp {X : Cx} {tg e : Expr} {wi wi' : TI} (h : PI X tg e wi) (i : ∀ σ H R, wi' σ H R → wi σ H R) : PI X tg e wi' := ⟨fun pins s σ H R I q => h.run pins s σ H R I (i σ H R q)⟩
end L2

namespace LH
open PySem PySem.Spec PyProof.Rows L2
abbrev St := L2.St

abbrev PEnv := List (Option PV)
abbrev ExprD := PEnv → Sto → Res PV
abbrev TestD := PEnv → Sto → Res Bool
abbrev ArgsD := PEnv → Sto → Res (List PV)
abbrev FnDen := List PV → Sto → Res PV
inductive Flow where
  | nx (e : PEnv) | rt (d : PV) | bk (e : PEnv) | ct (e : PEnv) | ex (x : Exc) (e : PEnv)
abbrev StmtD := PEnv → Sto → Res Flow

structure ER (K : PySem.W.Frag) (F : Hp) (ci : List Addr) (env : PEnv) (σ : St) : Prop where
  len : env.length = σ.length
  get : ∀ (i : Nat) (d : PV), env[i]? = some (some d) → ∃ v, σ[i]? = some (some v) ∧ Rp K F ci d v
section
variable {K : PySem.W.Frag} {F F' : Hp} {ci ci' : List Addr} {H H' : Hp} {env : PEnv} {σ : St}
theorem ER.later (r : ER K F ci env σ) (l : Later F ci H F' ci' H') : ER K F' ci' env σ := ⟨r.len, fun i d h => by
  obtain ⟨v, e, q⟩ := r.get i d h
  exact ⟨v, e, l.rp q⟩⟩
theorem ER.set (r : ER K F ci env σ) (i : Nat) {d : PV} {v : V} (q : Rp K F ci d v) : ER K F ci (env.set i (some d)) (σ.set i (some v)) := ⟨by simp [r.len], fun j e h => by
  by_cases hj : i = j
  · subst hj
    by_cases hl : i < env.length
    · rw [List.getElem?_set_self hl] at h
      cases h
      exact ⟨v, by rw [List.getElem?_set_self (by rw [← r.len]; exact hl)], q⟩
    · rw [List.getElem?_eq_none (by simp; omega)] at h; cases h
  · rw [List.getElem?_set_ne hj] at h ⊢
    exact r.get j e h⟩
theorem ER.unset (r : ER K F ci env σ) (i : Nat) : ER K F ci (env.set i none) (σ.set i none) := ⟨by simp [r.len], fun j e h => by
  by_cases hj : i = j
  · subst hj
    by_cases hl : i < env.length
    · rw [List.getElem?_set_self hl] at h; cases h
    · rw [List.getElem?_eq_none (by simp; omega)] at h; cases h
  · rw [List.getElem?_set_ne hj] at h ⊢
    exact r.get j e h⟩
end

/-- an exception that stands -/
def XRep (K : PySem.W.Frag) (mg : Str → Option Value) (F : Hp) (ci : List Addr) (x : Exc) (cls : Value) (d : Option Addr) : Prop :=
  ∃ C, mg x.name = some (.ref C) ∧ cls = .ref C ∧ ((x.fields = [] ∧ d = none) ∨ (x.fields ≠ [] ∧ ∃ dd fs, d = some dd ∧ F dd = some (.xd fs) ∧ Paired (fun (p : Str × PV) (q : Str × V) => p.1 = q.1 ∧ Rp K F ci p.2 q.2) x.fields fs))
def Zf (K : PySem.W.Frag) (mg : Str → Option Value) (E : XK) : Exc → Hp → List Addr → Sto → Hp → Prop := fun x F ci _ H => ∀ cls d, XRep K mg F ci x cls d → E cls d H

section
variable (K : PySem.W.Frag) (mg : Str → Option Value) (W : WX)
def tE (f : ExprD) : TE := fun σ H Q => ∃ env F ci S, SR K F ci S H ∧ ER K F ci env σ ∧ Out K (Zf K mg (WE W σ)) F ci H (f env S) fun d F' ci' S' H' => ∀ v, Rp K F' ci' d v → Q v H'
def tT (f : TestD) : TT := fun σ H Q => ∃ env F ci S, SR K F ci S H ∧ ER K F ci env σ ∧ Out K (Zf K mg (WE W σ)) F ci H (f env S) fun b F' ci' S' H' => Q b H'
def tA (f : ArgsD) : TA := fun σ H Q => ∃ env F ci S, SR K F ci S H ∧ ER K F ci env σ ∧ Out K (Zf K mg (WE W σ)) F ci H (f env S) fun ds F' ci' S' H' => ∀ vs, Rps K F' ci' ds vs → Q vs H'
def SW (D : Ends) (fl : Flow) (F : Hp) (ci : List Addr) (S : Sto) (H : Hp) : Prop := match fl with
  | .nx e => ∀ σ, ER K F ci e σ → D.nx σ H
  | .rt d => ∀ v, Rp K F ci d v → D.rt v H
  | .bk e => ∀ σ, ER K F ci e σ → D.bk σ H
  | .ct e => ∀ σ, ER K F ci e σ → D.ct σ H
  | .ex x e => ∀ σ, ER K F ci e σ → ∀ cls d, XRep K mg F ci x cls d → W cls d σ H
def tS (f : StmtD) : TS := fun D σ H => ∃ env F ci S, SR K F ci S H ∧ ER K F ci env σ ∧ Out K (fun _ _ _ _ _ => False) F ci H (f env S) (SW K mg W D)
/-- an operator's, a call's wish by values -/
def rD (W : XK) (g : PV → PV → Sto → Res PV) : R2 := fun x y H Q => ∃ F ci S dx dy, SR K F ci S H ∧ Rp K F ci dx x ∧ Rp K F ci dy y ∧ Out K (Zf K mg W) F ci H (g dx dy S) fun d F' ci' S' H' => ∀ v, Rp K F' ci' d v → Q v H'
def rU (W : XK) (g : PV → Sto → Res PV) : V → Hp → VK → Prop := fun x H Q => ∃ F ci S dx, SR K F ci S H ∧ Rp K F ci dx x ∧ Out K (Zf K mg W) F ci H (g dx S) fun d F' ci' S' H' => ∀ v, Rp K F' ci' d v → Q v H'
def rL (W : XK) (g : List PV → Sto → Res PV) : List V → Hp → VK → Prop := fun xs H Q => ∃ F ci S ds, SR K F ci S H ∧ Rps K F ci ds xs ∧ Out K (Zf K mg W) F ci H (g ds S) fun d F' ci' S' H' => ∀ v, Rp K F' ci' d v → Q v H'
end

/-! ### combinators -/
def vE (i : Nat) : ExprD := fun env S => match env[i]? with
  | some (some d) => .ok d S
  | _ => .stuck
def cE (d : PV) : ExprD := fun _ S => .ok d S
def binE (g : PV → PV → Sto → Res PV) (a b : ExprD) : ExprD := fun env S => (a env S).bind fun x S1 => (b env S1).bind fun y S2 => g x y S2
def unE (g : PV → Sto → Res PV) (a : ExprD) : ExprD := fun env S => (a env S).bind fun x S1 => g x S1
def boolOf (d : PV) (S : Sto) : Res Bool := match d with
  | .bl b => .ok b S
  | _ => .stuck
def tstE (a : ExprD) : TestD := fun env S => (a env S).bind boolOf
def notT (a : TestD) : TestD := fun env S => (a env S).bind fun b S1 => .ok (!b) S1
def andT (a b : TestD) : TestD := fun env S => (a env S).bind fun c S1 => if c = true then b env S1 else .ok false S1
def orT (a b : TestD) : TestD := fun env S => (a env S).bind fun c S1 => if c = true then .ok true S1 else b env S1
def andE (a b : ExprD) : ExprD := fun env S => (a env S).bind fun x S1 => (boolOf x S1).bind fun c S2 => if c = true then b env S2 else .ok (.bl false) S2
def orE (a b : ExprD) : ExprD := fun env S => (a env S).bind fun x S1 => (boolOf x S1).bind fun c S2 => if c = true then .ok (.bl true) S2 else b env S2
def notE (a : ExprD) : ExprD := fun env S => (a env S).bind fun x S1 => (boolOf x S1).bind fun c S2 => .ok (.bl (!c)) S2
def iteE (t : TestD) (a b : ExprD) : ExprD := fun env S => (t env S).bind fun c S1 => if c = true then a env S1 else b env S1
def nilA : ArgsD := fun _ S => .ok [] S
def consA (a : ExprD) (r : ArgsD) : ArgsD := fun env S => (a env S).bind fun x S1 => (r env S1).bind fun xs S2 => .ok (x :: xs) S2
def listE (a : ArgsD) : ExprD := fun env S => (a env S).bind fun xs S1 => if xs.length ≤ sizeLine then .ok (.lst xs) S1 else .stuck
def tupE (a : ArgsD) : ExprD := fun env S => (a env S).bind fun xs S1 => if xs.length ≤ sizeLine then .ok (.tup xs) S1 else .stuck
/-- a new list that is a mutable thing -/
def cellE (a : ArgsD) : ExprD := fun env S => (a env S).bind fun xs S1 => if xs.length ≤ sizeLine ∧ bels 0 xs = true then .ok (.cell S1.length) (S1 ++ [.lst xs]) else .stuck
def callE (f : FnDen) (a : ArgsD) : ExprD := fun env S => (a env S).bind fun xs S1 => f xs S1

def skipS : StmtD := fun env S => .ok (.nx env) S
def brkS : StmtD := fun env S => .ok (.bk env) S
def cntS : StmtD := fun env S => .ok (.ct env) S
/-- an expression's outcome, or its exception as the statement's -/
def runE (r : Res PV) (env : PEnv) (g : PV → Sto → Res Flow) : Res Flow := match r with
  | .ok d S => g d S
  | .exc x S => .ok (.ex x env) S
  | .stuck => .stuck
def runT (r : Res Bool) (env : PEnv) (g : Bool → Sto → Res Flow) : Res Flow := match r with
  | .ok d S => g d S
  | .exc x S => .ok (.ex x env) S
  | .stuck => .stuck
def retS (a : ExprD) : StmtD := fun env S => runE (a env S) env fun d S1 => .ok (.rt d) S1
def exprS (a : ExprD) : StmtD := fun env S => runE (a env S) env fun _ S1 => .ok (.nx env) S1
/-- targets: names and tuples of targets -/
inductive Tg where
  | nm (i : Nat) | tp (ts : List Tg)
mutual
def Tg.bind (S : Sto) : Tg → PV → PEnv → Option PEnv
  | .nm i, d, env => some (env.set i (some d))
  | .tp ts, d, env => match d with
    | .tup ds => Tg.binds S ts ds env
    | .lst ds => Tg.binds S ts ds env
    | _ => none
def Tg.binds (S : Sto) : List Tg → List PV → PEnv → Option PEnv
  | [], [], env => some env
  | t :: ts, d :: ds, env => (Tg.bind S t d env).bind fun env' => Tg.binds S ts ds env'
  | _, _, _ => none
end
def asgS (t : Tg) (a : ExprD) : StmtD := fun env S => runE (a env S) env fun d S1 => match t.bind S1 d env with
  | some env' => .ok (.nx env') S1
  | none => .stuck
def seqS (a b : StmtD) : StmtD := fun env S => match a env S with
  | .ok (.nx env') S1 => b env' S1
  | r => r
def ifS (t : TestD) (a b : StmtD) : StmtD := fun env S => runT (t env S) env fun c S1 => if c = true then a env S1 else b env S1
/-- n more turns of a while -/
def whileN (t : TestD) (b : StmtD) : Nat → StmtD
  | 0 => fun _ _ => .stuck
  | n + 1 => fun env S => runT (t env S) env fun c S1 => if c = true then (match b env S1 with
      | .ok (.nx env') S2 => whileN t b n env' S2
      | .ok (.ct env') S2 => whileN t b n env' S2
      | .ok (.bk env') S2 => .ok (.nx env') S2
      | r => r) else .ok (.nx env) S1
def neverS : StmtD := fun _ _ => .stuck
/-- a def by its body: as many parameters, as many names -/
def fnD (np nn : Nat) (b : StmtD) : FnDen := fun ds S => if ds.length = np then (match b (ds.map some ++ List.replicate (nn - ds.length) none) S with
    | .ok (.nx _) S1 => .ok .non S1
    | .ok (.rt d) S1 => .ok d S1
    | .ok (.ex x _) S1 => .exc x S1
    | _ => .stuck) else .stuck

/-! ### the rules -/
section
variable {X : Cx} {W : WX} {a b c e : Expr} {es : List Expr} {pos : Pos} {f fa fb : ExprD} {g : PV → PV → Sto → Res PV}

theorem de_v (i : Nat) {x : Str} {pos : Pos} (hN : X.N[i]? = some x := by rfl) (hv : Vis X.env.scope x := by first | exact Or.inl rfl | exact Or.inr (Or.inl rfl) | exact Or.inr (Or.inr rfl)) (hd : (x == ("__debug__" : Str)) = false := by decide)
    (hcd : (x == ("__classdict__" : Str)) = false := by decide) : PE X (.Name x pos) (tE X.K X.mg W (vE i)) := (pe_var hN hv hd hcd).imp fun σ H Q h => by
  obtain ⟨env, F, ci, S, sr, er, h⟩ := h
  unfold vE at h
  split at h
  · rename_i d q
    obtain ⟨v, e1, r⟩ := er.get i d q
    exact ⟨v, e1, h.here sr v r⟩
  · exact h.elim
/-- a written constant -/
theorem de_c {v : V} {d : PV} (h : PE X e (tC v)) (hd : ∀ F ci, Rp X.K F ci d v) : PE X e (tE X.K X.mg W (cE d)) := h.imp fun σ H Q h => by
  obtain ⟨env, F, ci, S, sr, er, h⟩ := h
  exact h.here sr v (hd _ _)
theorem de_int {i : Int} {j pos} : PE X (.Constant (.int i) j pos) (tE X.K X.mg W (cE (.int i))) := de_c pe_int fun _ _ => .int i
theorem de_bl {b : Bool} {j pos} : PE X (.Constant (.bool b) j pos) (tE X.K X.mg W (cE (.bl b))) := de_c pe_bl fun _ _ => .bl b
theorem de_str {x : Str} {j pos} : PE X (.Constant (.str x) j pos) (tE X.K X.mg W (cE (.str x))) := de_c pe_str fun _ _ => .str x

theorem out2 {K : PySem.W.Frag} {mg : Str → Option Value} {σ : St} {H : Hp} {env : PEnv} {F : Hp} {ci : List Addr} {S : Sto} {Q : VK} {r : R2} (sr : SR K F ci S H) (er : ER K F ci env σ)
    (h : Out K (Zf K mg (WE W σ)) F ci H (binE g fa fb env S) fun d F' ci' S' H' => ∀ v, Rp K F' ci' d v → Q v H')
    (hr : ∀ x y H2, rD K mg (WE W σ) g x y H2 Q → r x y H2 Q) :
    tE K mg W fa σ H fun x H1 => tE K mg W fb σ H1 fun y H2 => r x y H2 Q := by
  refine ⟨env, F, ci, S, sr, er, (Out.bind h).imp fun dx F1 c1 S1 H1 l1 s1 h1 v1 r1 => ⟨env, F1, c1, S1, s1, er.later l1, (Out.bind h1).imp fun dy F2 c2 S2 H2 l2 s2 h2 v2 r2 => hr _ _ _ ⟨F2, c2, S2, dx, dy, s2, l2.rp r1, r2, h2⟩⟩⟩
theorem de_op {op : Operator} (ho : ∀ σ, OpR X (binaryOp op) (rD X.K X.mg (WE W σ) g)) (ha : PE X a (tE X.K X.mg W fa)) (hb : PE X b (tE X.K X.mg W fb)) : PE X (.BinOp a op b pos) (tE X.K X.mg W (binE g fa fb)) := by
  refine ⟨fun pins s σ H Q I h => ?_⟩
  obtain ⟨env, F, ci, S, sr, er, h⟩ := h
  exact (pe_op (ho σ) ha hb).run pins s σ H Q I (out2 sr er h fun _ _ _ z => z)
theorem de_cmp {op : CmpOp} (ho : ∀ σ, OpR X (compareOp op) (rD X.K X.mg (WE W σ) g)) (ha : PE X a (tE X.K X.mg W fa)) (hb : PE X b (tE X.K X.mg W fb)) (hm : behindInMarks op b = false) : PE X (.Compare a [op] [b] pos) (tE X.K X.mg W (binE g fa fb)) := by
  refine ⟨fun pins s σ H Q I h => ?_⟩
  obtain ⟨env, F, ci, S, sr, er, h⟩ := h
  exact (pe_cmpR (ho σ) ha hb hm).run pins s σ H Q I (out2 sr er h fun _ _ _ z => z)
theorem de_un {op : UnaryOp} {g : PV → Sto → Res PV} (ho : ∀ σ, UnR X (unaryOp op) (rU X.K X.mg (WE W σ) g)) (ha : PE X a (tE X.K X.mg W fa)) : PE X (.UnaryOp op a pos) (tE X.K X.mg W (unE g fa)) := by
  refine ⟨fun pins s σ H Q I h => ?_⟩
  obtain ⟨env, F, ci, S, sr, er, h⟩ := h
  exact (pe_un (ho σ) ha).run pins s σ H Q I ⟨env, F, ci, S, sr, er, (Out.bind h).imp fun dx F1 c1 S1 H1 l1 s1 h1 v1 r1 => ⟨F1, c1, S1, dx, s1, r1, h1⟩⟩

/-! tests -/
theorem Rp.bl_inv {K : PySem.W.Frag} {F : Hp} {ci : List Addr} {b : Bool} {v : V} (h : Rp K F ci (.bl b) v) : v = .bl b := by cases h; rfl
theorem out_bool {K : PySem.W.Frag} {Z : Exc → Hp → List Addr → Sto → Hp → Prop} {F : Hp} {ci : List Addr} {H : Hp} {d : PV} {S : Sto} {P : Bool → Hp → List Addr → Sto → Hp → Prop} {v : V} (h : Out K Z F ci H (boolOf d S) P) (s : SR K F ci S H) (r : Rp K F ci d v) :
    ∃ b, v = .bl b ∧ d = .bl b ∧ P b F ci S H := by
  unfold boolOf at h
  split at h
  · exact ⟨_, r.bl_inv, rfl, h.here s⟩
  · exact h.elim
theorem dt_val (ha : PE X a (tE X.K X.mg W fa)) (he : ∀ whole, isTrue a X.env whole = (do let v ← whole; standAt a.pos; holding [v] (truthy v)) := by intro _; rfl) : PT X a (tT X.K X.mg W (tstE fa)) := (pt_val ha he).imp fun σ H Q h => by
  obtain ⟨env, F, ci, S, sr, er, h⟩ := h
  refine ⟨env, F, ci, S, sr, er, (Out.bind h).imp fun dx F1 c1 S1 H1 l1 s1 h1 v1 r1 => ?_⟩
  obtain ⟨b, e1, _, h2⟩ := out_bool h1 s1 r1
  exact ⟨b, e1, h2⟩
theorem dt_cmp {op : CmpOp} (ho : ∀ σ, OpR X (compareOp op) (rD X.K X.mg (WE W σ) g)) (ha : PE X a (tE X.K X.mg W fa)) (hb : PE X b (tE X.K X.mg W fb)) (hm : behindInMarks op b = false) : PT X (.Compare a [op] [b] pos) (tT X.K X.mg W (tstE (binE g fa fb))) := by
  refine ⟨fun pins s σ H Q I h => ?_⟩
  obtain ⟨env, F, ci, S, sr, er, h⟩ := h
  have h' := (Out.bind h)
  refine (pt_cmpR (ho σ) ha hb hm).run pins s σ H Q I (out2 sr er (h'.imp fun dx F1 c1 S1 H1 l1 s1 h1 v1 r1 => ?_) fun _ _ _ z => z)
  obtain ⟨b, e1, _, h2⟩ := out_bool h1 s1 r1
  exact ⟨b, e1, h2⟩
theorem dt_not {t : TestD} (ha : PT X a (tT X.K X.mg W t)) : PT X (.UnaryOp .Not a pos) (tT X.K X.mg W (notT t)) := (pt_not ha).imp fun σ H Q h => by
  obtain ⟨env, F, ci, S, sr, er, h⟩ := h
  exact ⟨env, F, ci, S, sr, er, (Out.bind h).imp fun b F1 c1 S1 H1 l1 s1 h1 => h1.here s1⟩
theorem dw_or1 {t : TestD} (ha : PT X a (tT X.K X.mg W t)) : PW X (.BoolOp .Or [a] pos) (tT X.K X.mg W t) := pw_or1 ha
theorem dw_or {t u : TestD} {rest : List Expr} (ha : PT X a (tT X.K X.mg W t)) (hb : PW X (.BoolOp .Or (b :: rest) pos) (tT X.K X.mg W u)) : PW X (.BoolOp .Or (a :: b :: rest) pos) (tT X.K X.mg W (orT t u)) := (pw_or ha hb).imp fun σ H Q h => by
  obtain ⟨env, F, ci, S, sr, er, h⟩ := h
  refine ⟨env, F, ci, S, sr, er, (Out.bind h).imp fun b F1 c1 S1 H1 l1 s1 h1 => ?_⟩
  cases b with
  | true => exact h1.here s1
  | false => exact ⟨env, F1, c1, S1, s1, er.later l1, h1⟩
/-! and, or, not as values -/
theorem de_one {op : PySem.BoolOp} (ha : PE X a (tE X.K X.mg W fa)) : PE X (.BoolOp op [a] pos) (tE X.K X.mg W fa) := pe_one ha
theorem de_and {rest : List Expr} (ha : PE X a (tE X.K X.mg W fa)) (hb : PE X (.BoolOp .And (b :: rest) pos) (tE X.K X.mg W fb)) : PE X (.BoolOp .And (a :: b :: rest) pos) (tE X.K X.mg W (andE fa fb)) := (pe_and ha hb).imp fun σ H Q h => by
  obtain ⟨env, F, ci, S, sr, er, h⟩ := h
  refine ⟨env, F, ci, S, sr, er, (Out.bind h).imp fun dx F1 c1 S1 H1 l1 s1 h1 v1 r1 => ?_⟩
  obtain ⟨c, e1, _, h2⟩ := out_bool (Out.bind h1) s1 r1
  refine ⟨c, e1, ?_⟩
  cases c with
  | true => exact ⟨env, F1, c1, S1, s1, er.later l1, h2⟩
  | false => exact h2.here s1 _ (.bl false)
theorem de_or {rest : List Expr} (ha : PE X a (tE X.K X.mg W fa)) (hb : PE X (.BoolOp .Or (b :: rest) pos) (tE X.K X.mg W fb)) : PE X (.BoolOp .Or (a :: b :: rest) pos) (tE X.K X.mg W (orE fa fb)) := (pe_or ha hb).imp fun σ H Q h => by
  obtain ⟨env, F, ci, S, sr, er, h⟩ := h
  refine ⟨env, F, ci, S, sr, er, (Out.bind h).imp fun dx F1 c1 S1 H1 l1 s1 h1 v1 r1 => ?_⟩
  obtain ⟨c, e1, _, h2⟩ := out_bool (Out.bind h1) s1 r1
  refine ⟨c, e1, ?_⟩
  cases c with
  | true => exact h2.here s1 _ (.bl true)
  | false => exact ⟨env, F1, c1, S1, s1, er.later l1, h2⟩
theorem de_not (ha : PE X a (tE X.K X.mg W fa)) : PE X (.UnaryOp .Not a pos) (tE X.K X.mg W (notE fa)) := (pe_not ha).imp fun σ H Q h => by
  obtain ⟨env, F, ci, S, sr, er, h⟩ := h
  refine ⟨env, F, ci, S, sr, er, (Out.bind h).imp fun dx F1 c1 S1 H1 l1 s1 h1 v1 r1 => ?_⟩
  obtain ⟨c, e1, _, h2⟩ := out_bool (Out.bind h1) s1 r1
  exact ⟨c, e1, h2.here s1 _ (.bl _)⟩
theorem de_ite {t : TestD} (hc : PT X c (tT X.K X.mg W t)) (ha : PE X a (tE X.K X.mg W fa)) (hb : PE X b (tE X.K X.mg W fb)) : PE X (.IfExp c a b pos) (tE X.K X.mg W (iteE t fa fb)) := (pe_ifExp hc ha hb).imp fun σ H Q h => by
  obtain ⟨env, F, ci, S, sr, er, h⟩ := h
  refine ⟨env, F, ci, S, sr, er, (Out.bind h).imp fun b F1 c1 S1 H1 l1 s1 h1 => ?_⟩
  cases b with
  | true => exact ⟨env, F1, c1, S1, s1, er.later l1, h1⟩
  | false => exact ⟨env, F1, c1, S1, s1, er.later l1, h1⟩

/-! arguments, displays -/
variable {r : ArgsD}
theorem da_nil : PA X [] (tA X.K X.mg W nilA) := pa_nil.imp fun σ H Q h => by
  obtain ⟨env, F, ci, S, sr, er, h⟩ := h
  exact h.here sr [] .nil
theorem da_cons (ha : PE X e (tE X.K X.mg W fa)) (hr : PA X es (tA X.K X.mg W r)) (hs : starEach (e :: es) X.env = (false, eval e X.env) :: starEach es X.env := by rfl) : PA X (e :: es) (tA X.K X.mg W (consA fa r)) := (pa_cons ha hr hs).imp fun σ H Q h => by
  obtain ⟨env, F, ci, S, sr, er, h⟩ := h
  exact ⟨env, F, ci, S, sr, er, (Out.bind h).imp fun dx F1 c1 S1 H1 l1 s1 h1 v1 r1 => ⟨env, F1, c1, S1, s1, er.later l1, (Out.bind h1).imp fun ds F2 c2 S2 H2 l2 s2 h2 vs rs => h2.here s2 (v1 :: vs) (.cons (l2.rp r1) rs)⟩⟩
end

/-! ### a new object -/
section
variable {K : PySem.W.Frag} {F : Hp} {ci : List Addr} {S : Sto} {H : Hp}
theorem ext_new {p : Addr} {o : HO} (h : F p = none) : Ext F (upd F p o) := fun a u q => by rw [upd_ne (ne_of_none q h)]; exact q
theorem SR.free (s : SR K F ci S H) {p : Addr} (h : H p = none) : F p = none := by
  cases e : F p with
  | none => rfl
  | some o => rw [s.le p o e] at h; cases h
theorem SR.notIn (s : SR K F ci S H) {p : Addr} (h : H p = none) : p ∉ ci := fun hm => by
  obtain ⟨o, e⟩ := s.there p hm
  rw [h] at e; cases e
/-- a new frozen thing -/
theorem SR.laid (s : SR K F ci S H) {p : Addr} {o : HO} (h : H p = none) : SR K (upd F p o) ci S (upd H p o) ∧ Later F ci H (upd F p o) ci (upd H p o) := by
  have hF := s.free h
  have hx : Ext F (upd F p o) := ext_new hF
  have l : Later F ci H (upd F p o) ci (upd H p o) := by
    refine ⟨hx, List.prefix_refl _, fun a u q _ => ?_, fun a hm hn => absurd hm hn, fun a u q => ?_⟩
    · rw [upd_ne (ne_of_none q h)]; exact q
    · by_cases ha : a = p
      · subst ha; exact .inr (.inr h)
      · rw [upd_ne ha] at q; exact .inl q
  refine ⟨⟨fun a u q => ?_, s.len, s.nd, fun a hm => ?_, fun n xs e => ?_, fun n u e => by
    obtain ⟨a, e1, e2, e3⟩ := s.kel n u e
    have ha : a ≠ p := ne_of_none e3 h
    exact ⟨a, e1, by rw [upd_ne ha]; exact e2, by rw [upd_ne ha]; exact e3⟩, fun n two g xs e => by
    obtain ⟨a, e1, hg⟩ := s.gel n two g xs e
    exact ⟨a, e1, l.gelat hg (by rw [upd_ne (hg.ne h)]; exact hg.f) (upd_ne (hg.ne h))⟩⟩, l⟩
  · by_cases ha : a = p
    · subst ha; rw [upd_same] at q ⊢; exact q
    · rw [upd_ne ha] at q ⊢; exact s.le a u q
  · obtain ⟨u, e⟩ := s.there a hm
    exact ⟨u, by rw [upd_ne (ne_of_none e h)]; exact e⟩
  · obtain ⟨a, vs, e1, e2, e3, z, e4⟩ := s.cel n xs e
    have ha : a ≠ p := ne_of_none e3 h
    exact ⟨a, vs, e1, by rw [upd_ne ha]; exact e2, by rw [upd_ne ha]; exact e3, z, e4.mono hx (List.prefix_refl _)⟩
theorem GelAt.upd {a D : Addr} {o : HO} {two : Bool} {g : Addr → List V → HO} {xs : List PV} (h : GelAt K F ci H a two g xs) (ha : a ≠ D) (hd : ∀ b, H D ≠ some (.own b)) : GelAt K F ci (upd H D o) a two g xs := by
  obtain ⟨dx, vs, h1, h2, h3, h4, h5⟩ := h
  refine ⟨dx, vs, h1, by rw [upd_ne ha]; exact h2, h3, h4, fun t => ?_⟩
  obtain ⟨k1, k2, k3⟩ := h5 t
  have : dx ≠ D := fun e => by subst e; exact hd _ k3
  exact ⟨k1, k2, by rw [upd_ne this]; exact k3⟩
theorem GelAt.frz {a D : Addr} {o : HO} {two : Bool} {g : Addr → List V → HO} {xs : List PV} (h : GelAt K F ci H a two g xs) (ha : a ≠ D) (hf : F D = none) (hd : ∀ b, H D ≠ some (.own b)) : GelAt K (L2.upd F D o) ci H a two g xs := by
  obtain ⟨dx, vs, h1, h2, h3, h4, h5⟩ := h
  refine ⟨dx, vs, by rw [upd_ne ha]; exact h1, h2, h3, h4.mono (ext_new hf) (List.prefix_refl _), fun t => ?_⟩
  obtain ⟨k1, k2, k3⟩ := h5 t
  have : dx ≠ D := fun e => by subst e; exact hd _ k3
  exact ⟨by rw [upd_ne this]; exact k1, k2, k3⟩
theorem GelAt.same {a : Addr} {H' : Hp} {two : Bool} {g : Addr → List V → HO} {xs : List PV} (h : GelAt K F ci H a two g xs) (ha : H' a = H a) (hd : ∀ c b, H c = some (.own b) → H' c = some (.own b)) : GelAt K F ci H' a two g xs := by
  obtain ⟨dx, vs, h1, h2, h3, h4, h5⟩ := h
  refine ⟨dx, vs, h1, ha.trans h2, h3, h4, fun t => ?_⟩
  obtain ⟨k1, k2, k3⟩ := h5 t
  exact ⟨k1, k2, hd _ _ k3⟩
/-- a new mutable list -/
theorem SR.celled (s : SR K F ci S H) {p : Addr} {xs : List PV} {vs : List V} (h : H p = none) (z : xs.length ≤ sizeLine ∧ bels 0 xs = true) (r : Rps K F ci xs vs) :
    SR K F (ci ++ [p]) (S ++ [.lst xs]) (upd H p (.lst vs)) ∧ Later F ci H F (ci ++ [p]) (upd H p (.lst vs)) ∧ (ci ++ [p])[S.length]? = some p := by
  have hp : ci <+: ci ++ [p] := List.prefix_append _ _
  have hg : (ci ++ [p])[S.length]? = some p := by rw [← s.len, List.getElem?_append_right (Nat.le_refl _), Nat.sub_self]; rfl
  have l : Later F ci H F (ci ++ [p]) (upd H p (.lst vs)) := by
    refine ⟨.refl _, hp, fun a u q _ => ?_, fun a hm hn => ?_, fun _ _ q => .inl q⟩
    · rw [upd_ne (ne_of_none q h)]; exact q
    · rcases List.mem_append.mp hm with hm | hm
      · exact absurd hm hn
      · have : a = p := by simpa using hm
        subst this; exact h
  refine ⟨⟨fun a u q => ?_, by simp [s.len], ?_, fun a hm => ?_, fun n ys e => ?_, fun n u e => by
    by_cases hn : n < S.length
    · rw [List.getElem?_append_left hn] at e
      obtain ⟨a, e1, e2, e3⟩ := s.kel n u e
      exact ⟨a, pre_get hp e1, e2, by rw [upd_ne (ne_of_none e3 h)]; exact e3⟩
    · have hn' : n = S.length := by
        have := (List.getElem?_eq_some_iff.mp e).1
        simp at this; omega
      subst hn'
      rw [List.getElem?_append_right (Nat.le_refl _), Nat.sub_self] at e
      simp at e, fun n two g ys e => by
    by_cases hn : n < S.length
    · rw [List.getElem?_append_left hn] at e
      obtain ⟨a, e1, hg⟩ := s.gel n two g ys e
      exact ⟨a, pre_get hp e1, l.gelat hg hg.f (upd_ne (hg.ne h))⟩
    · have hn' : n = S.length := by
        have := (List.getElem?_eq_some_iff.mp e).1
        simp at this; omega
      subst hn'
      rw [List.getElem?_append_right (Nat.le_refl _), Nat.sub_self] at e
      simp at e⟩, l, hg⟩
  · have := s.le a u q
    rw [upd_ne (ne_of_none this h)]; exact this
  · rw [List.nodup_append]
    refine ⟨s.nd, by simp, fun a ha b hb => ?_⟩
    have : b = p := by simpa using hb
    subst this
    rintro rfl
    exact s.notIn h ha
  · rcases List.mem_append.mp hm with hm | hm
    · obtain ⟨u, e⟩ := s.there a hm
      exact ⟨u, by rw [upd_ne (ne_of_none e h)]; exact e⟩
    · have : a = p := by simpa using hm
      subst this
      exact ⟨_, upd_same⟩
  · by_cases hn : n < S.length
    · rw [List.getElem?_append_left hn] at e
      obtain ⟨a, ws, e1, e2, e3, z', e4⟩ := s.cel n ys e
      exact ⟨a, ws, pre_get hp e1, e2, by rw [upd_ne (ne_of_none e3 h)]; exact e3, z', e4.mono (.refl _) hp⟩
    · have hn' : n = S.length := by
        have := (List.getElem?_eq_some_iff.mp e).1
        simp at this; omega
      subst hn'
      rw [List.getElem?_append_right (Nat.le_refl _), Nat.sub_self] at e
      have e' : ys = xs := by simpa using e.symm
      subst e'
      exact ⟨p, vs, hg, s.free h, upd_same, z, r.mono (.refl _) hp⟩
theorem rd_new {p : Addr} {o : HO} : Rd (upd F p o) p o := .inl upd_same
end

section
variable {X : Cx} {W : WX} {es : List Expr} {pos : Pos} {r : ArgsD}
theorem de_list (h : PA X es (tA X.K X.mg W r)) : PE X (.List es pos) (tE X.K X.mg W (listE r)) := (pe_lst h).imp fun σ H Q h => by
  obtain ⟨env, F, ci, S, sr, er, h⟩ := h
  refine ⟨env, F, ci, S, sr, er, (Out.bind h).imp fun ds F1 c1 S1 H1 l1 s1 h1 vs rs => ?_⟩
  split at h1
  · rename_i z
    refine ⟨by rw [← rs.length]; exact z, fun p hp => ?_⟩
    obtain ⟨s2, l2⟩ := s1.laid (o := .lst vs) hp
    exact h1 _ _ _ l2 s2 _ (.lst upd_same z (l2.rps rs))
  · exact h1.elim
theorem de_tup {k : Nat} (h : PA X es (tA X.K X.mg W r)) : PE X (.Tuple es k pos) (tE X.K X.mg W (tupE r)) := (pe_tup h).imp fun σ H Q h => by
  obtain ⟨env, F, ci, S, sr, er, h⟩ := h
  refine ⟨env, F, ci, S, sr, er, (Out.bind h).imp fun ds F1 c1 S1 H1 l1 s1 h1 vs rs => ?_⟩
  split at h1
  · rename_i z
    refine ⟨by rw [← rs.length]; exact z, fun p hp => ?_⟩
    obtain ⟨s2, l2⟩ := s1.laid (o := .tup vs) hp
    exact h1 _ _ _ l2 s2 _ (.tup (.inl rd_new) z (l2.rps rs))
  · exact h1.elim
theorem de_cell (h : PA X es (tA X.K X.mg W r)) : PE X (.List es pos) (tE X.K X.mg W (cellE r)) := (pe_lst h).imp fun σ H Q h => by
  obtain ⟨env, F, ci, S, sr, er, h⟩ := h
  refine ⟨env, F, ci, S, sr, er, (Out.bind h).imp fun ds F1 c1 S1 H1 l1 s1 h1 vs rs => ?_⟩
  split at h1
  · rename_i z
    refine ⟨by rw [← rs.length]; exact z.1, fun p hp => ?_⟩
    obtain ⟨s2, l2, g⟩ := s1.celled hp z rs
    exact h1 _ _ _ l2 s2 _ (.cell g)
  · exact h1.elim
end
end LH

/-! LC: statements, calls, defs. -/
namespace LH
open PySem PySem.Spec PyProof.Rows L2

section
variable {X : Cx} {W : WX} {st : Stmt} {rest : List Stmt} {e c : Expr} {pos : Pos} {f : ExprD} {p q : StmtD}
abbrev tSX (X : Cx) (W : WX) (p : StmtD) : TS := tS X.K X.mg W p

theorem runE_out {K : PySem.W.Frag} {mg : Str → Option Value} {F : Hp} {ci : List Addr} {H : Hp} {D : Ends} {r : Res PV} {env : PEnv} {g : PV → Sto → Res Flow} {σ : St} (er : ER K F ci env σ)
    (h : Out K (fun _ _ _ _ _ => False) F ci H (runE r env g) (SW K mg W D)) : Out K (Zf K mg (WE W σ)) F ci H r fun d F1 c1 S1 H1 => Out K (fun _ _ _ _ _ => False) F1 c1 H1 (g d S1) (SW K mg W D) := by
  cases r with
  | ok d S' => exact fun F1 c1 H1 l1 s1 => Out.later h l1
  | exc x S' => exact fun F1 c1 H1 l1 s1 cls d xr => h F1 c1 H1 l1 s1 σ (er.later l1) cls d xr
  | stuck => exact h
theorem runT_out {K : PySem.W.Frag} {mg : Str → Option Value} {F : Hp} {ci : List Addr} {H : Hp} {D : Ends} {r : Res Bool} {env : PEnv} {g : Bool → Sto → Res Flow} {σ : St} (er : ER K F ci env σ)
    (h : Out K (fun _ _ _ _ _ => False) F ci H (runT r env g) (SW K mg W D)) : Out K (Zf K mg (WE W σ)) F ci H r fun d F1 c1 S1 H1 => Out K (fun _ _ _ _ _ => False) F1 c1 H1 (g d S1) (SW K mg W D) := by
  cases r with
  | ok d S' => exact fun F1 c1 H1 l1 s1 => Out.later h l1
  | exc x S' => exact fun F1 c1 H1 l1 s1 cls d xr => h F1 c1 H1 l1 s1 σ (er.later l1) cls d xr
  | stuck => exact h

theorem dss_nil : PSs X [] (tSX X W skipS) := pss_nil.imp fun D σ H h => by
  obtain ⟨env, F, ci, S, sr, er, h⟩ := h
  exact h.here sr σ er
theorem seq_out {K : PySem.W.Frag} {mg : Str → Option Value} {F : Hp} {ci : List Addr} {S : Sto} {H : Hp} {D : Ends} {env : PEnv}
    (h : Out K (fun _ _ _ _ _ => False) F ci H (seqS p q env S) (SW K mg W D)) : Out K (fun _ _ _ _ _ => False) F ci H (p env S) (SW K mg W { D with nx := tS K mg W q D }) := by
  unfold seqS at h
  split at h
  · rename_i e' S1 h1
    rw [h1]
    exact fun F1 c1 H1 l1 s1 σ er => ⟨e', F1, c1, S1, s1, er, Out.later h l1⟩
  · rename_i r hr
    cases hp : p env S with
    | ok fl S1 =>
      rw [hp] at h
      cases fl with
      | nx e' => exact absurd hp (hr e' S1)
      | rt d => exact h
      | bk e' => exact h
      | ct e' => exact h
      | ex x e' => exact h
    | exc x S1 => rw [hp] at h; exact h
    | stuck => rw [hp] at h; exact h
theorem dss_cons (h1 : PS X st (tSX X W p)) (h2 : PSs X rest (tSX X W q)) : PSs X (st :: rest) (tSX X W (seqS p q)) := (pss_cons h1 h2).imp fun D σ H h => by
  obtain ⟨env, F, ci, S, sr, er, h⟩ := h
  exact ⟨env, F, ci, S, sr, er, seq_out h⟩
theorem dss_one (h1 : PS X st (tSX X W p)) : PSs X [st] (tSX X W p) := pss_one h1
theorem ds_ret (h : PE X e (tE X.K X.mg W f)) : PS X (.Return (some e) pos) (tSX X W (retS f)) := (ps_ret h).imp fun D σ H h => by
  obtain ⟨env, F, ci, S, sr, er, h⟩ := h
  exact ⟨env, F, ci, S, sr, er, (runE_out er h).imp fun d F1 c1 S1 H1 l1 s1 h1 v1 r1 => h1.here s1 v1 r1⟩
theorem ds_expr (h : PE X e (tE X.K X.mg W f)) (hs : swapsWith e none pos.line X.env = pure false := by rfl) : PS X (.Expr e pos) (tSX X W (exprS f)) := (ps_expr h hs).imp fun D σ H h => by
  obtain ⟨env, F, ci, S, sr, er, h⟩ := h
  exact ⟨env, F, ci, S, sr, er, (runE_out er h).imp fun d F1 c1 S1 H1 l1 s1 h1 v1 r1 => h1.here s1 σ (er.later l1)⟩
theorem ds_if {t : TestD} {a b : List Stmt} (hc : PT X c (tT X.K X.mg W t)) (ha : PSs X a (tSX X W p)) (hb : PSs X b (tSX X W q)) : PS X (.If c a b pos) (tSX X W (ifS t p q)) := (ps_if hc ha hb).imp fun D σ H h => by
  obtain ⟨env, F, ci, S, sr, er, h⟩ := h
  refine ⟨env, F, ci, S, sr, er, (runT_out er h).imp fun d F1 c1 S1 H1 l1 s1 h1 => ?_⟩
  cases d with
  | true => exact ⟨env, F1, c1, S1, s1, er.later l1, h1⟩
  | false => exact ⟨env, F1, c1, S1, s1, er.later l1, h1⟩

/-! targets -/
mutual
def Tg.slots : Tg → List Nat
  | .nm i => [i]
  | .tp ts => Tg.slotss ts
def Tg.slotss : List Tg → List Nat
  | [] => []
  | t :: ts => Tg.slots t ++ Tg.slotss ts
end
def Only (is : List Nat) (σ σ' : St) : Prop := ∀ ws : List Nat, (∀ i ∈ is, i ∈ ws) → wipe σ' ws = wipe σ ws
theorem wipe_set_out : ∀ (ws : List Nat) (σ : St) (i : Nat) (x : Option V), i ∉ ws → wipe (σ.set i x) ws = (wipe σ ws).set i x
  | [], _, _, _, _ => rfl
  | v :: vs, σ, i, x, h => by
    simp only [List.mem_cons, not_or] at h
    unfold wipe
    rw [wipe_set_out vs σ i x h.2, List.set_comm _ _ h.1]
theorem wipe_set_in : ∀ (ws : List Nat) (σ : St) (i : Nat) (x : Option V), i ∈ ws → wipe (σ.set i x) ws = wipe σ ws
  | [], _, _, _, h => by cases h
  | v :: vs, σ, i, x, h => by
    unfold wipe
    by_cases hi : i ∈ vs
    · rw [wipe_set_in vs σ i x hi]
    · have : i = v := by
        rcases List.mem_cons.mp h with e | e
        · exact e
        · exact absurd e hi
      subst this
      rw [wipe_set_out vs σ i x hi, List.set_set]
def gD (K : PySem.W.Frag) (t : Tg) : TG := fun v σ H Q => ∃ env F ci S d, SR K F ci S H ∧ ER K F ci env σ ∧ Rp K F ci d v ∧ ∃ env', t.bind S d env = some env' ∧ ∀ σ', ER K F ci env' σ' → Only t.slots σ σ' → Q σ' H
def gDs (K : PySem.W.Frag) (ts : List Tg) : TGs := fun vs σ H Q => ∃ env F ci S ds, SR K F ci S H ∧ ER K F ci env σ ∧ Rps K F ci ds vs ∧ ∃ env', Tg.binds S ts ds env = some env' ∧ ∀ σ', ER K F ci env' σ' → Only (Tg.slotss ts) σ σ' → Q σ' H
theorem PG.imp {tg : Expr} {t t' : TG} (h : PG X tg t) (i : ∀ v σ H Q, t' v σ H Q → t v σ H Q) : PG X tg t' := ⟨fun pins s σ H v u Q I r q => h.run pins s σ H v u Q I r (i v σ H Q q)⟩
theorem PGs.imp {tg : List Expr} {t t' : TGs} (h : PGs X tg t) (i : ∀ v σ H Q, t' v σ H Q → t v σ H Q) : PGs X tg t' := ⟨fun pins s σ H v u Q I r q => h.run pins s σ H v u Q I r (i v σ H Q q)⟩
theorem dg_name (i : Nat) {x : Str} {pos : Pos} (hN : X.N.Nodup) (hi : X.N[i]? = some x := by rfl) (hx : Loc X.env.scope x := by first | exact Or.inl rfl | exact Or.inr rfl) (hf : X.fn x = true ∨ X.env.scope.names.lookup x = some .local := by first | exact .inl rfl | exact .inr rfl) :
    PG X (.Name x pos) (gD X.K (.nm i)) := PG.imp (pg_name hN hi hx hf) fun v σ H Q h => by
  obtain ⟨env, F, ci, S, d, sr, er, r, env', e, h⟩ := h
  have e' : env.set i (some d) = env' := by simpa [Tg.bind] using e
  subst e'
  exact h _ (er.set i r) fun ws hw => wipe_set_in ws σ i _ (hw i (by simp [Tg.slots]))
theorem dgs_nil : PGs X [] (gDs X.K []) := PGs.imp pgs_nil fun v σ H Q h => by
  obtain ⟨env, F, ci, S, ds, sr, er, r, env', e, h⟩ := h
  cases ds with
  | nil =>
    have e' : env = env' := by simpa [Tg.binds] using e
    subst e'
    exact ⟨r.nil_inv, h _ er fun _ _ => rfl⟩
  | cons d ds => simp [Tg.binds] at e
theorem dgs_cons {e : Expr} {es : List Expr} {t : Tg} {ts : List Tg} (h1 : PG X e (gD X.K t)) (h2 : PGs X es (gDs X.K ts)) (hs : (assignEach (e :: es) X.env).map (·.2) = assign e X.env :: (assignEach es X.env).map (·.2) := by rfl) : PGs X (e :: es) (gDs X.K (t :: ts)) := PGs.imp (pgs_cons h1 h2 hs) fun v σ H Q h => by
  obtain ⟨env, F, ci, S, ds, sr, er, r, env', e, h⟩ := h
  cases ds with
  | nil => simp [Tg.binds] at e
  | cons d ds =>
    obtain ⟨v1, ws, rfl, r1, r2⟩ := r.cons_inv
    simp only [Tg.binds, Option.bind_eq_some_iff] at e
    obtain ⟨env1, e1, e2⟩ := e
    exact ⟨v1, ws, rfl, env, F, ci, S, d, sr, er, r1, env1, e1, fun σ1 er1 o1 => ⟨env1, F, ci, S, ds, sr, er1, r2, env', e2, fun σ2 er2 o2 => h σ2 er2 fun ws hw => (o2 ws fun i hi => hw i (by simp [Tg.slotss, hi])).trans (o1 ws fun i hi => hw i (by simp [Tg.slotss, hi]))⟩⟩
theorem SR.sqT {K : PySem.W.Frag} {F : Hp} {ci : List Addr} {S : Sto} {H : Hp} (s : SR K F ci S H) {a : Addr} {vs : List V} (h : SqT K F a vs) : SqT K H a vs := Ext.sqT s.le h
theorem SR.sqL {K : PySem.W.Frag} {F : Hp} {ci : List Addr} {S : Sto} {H : Hp} (s : SR K F ci S H) {a : Addr} {vs : List V} (h : SqL K F a vs) : SqL K H a vs := Ext.sqL s.le h
theorem Tg.binds_len : ∀ {S : Sto} {ts : List Tg} {ds : List PV} {env env' : PEnv}, Tg.binds S ts ds env = some env' → ds.length = ts.length
  | _, [], [], _, _, _ => rfl
  | _, [], _ :: _, _, _, h => by simp [Tg.binds] at h
  | _, _ :: _, [], _, _, h => by simp [Tg.binds] at h
  | S, t :: ts, d :: ds, env, env', h => by
    simp only [Tg.binds, Option.bind_eq_some_iff] at h
    obtain ⟨_, _, h2⟩ := h
    simp [Tg.binds_len h2]
theorem dg_tup {es : List Expr} {k : Nat} {ts : List Tg} (hc : X.calm = true) (h : PGs X es (gDs X.K ts))
    (hn : (assignEach es X.env).length = ts.length := by rfl) (hst : (assignEach es X.env).findIdx? (·.1) = none := by rfl) : PG X (.Tuple es k pos) (gD X.K (.tp ts)) := by
  refine ⟨fun pins s σ H v u Q I rv h' => ?_⟩
  obtain ⟨env, F, ci, S, d, sr, er, r, env', e, hq⟩ := h'
  cases d with
  | tup ds =>
    cases r with
    | tup hs hz rs =>
      have e' : Tg.binds S ts ds env = some env' := by simpa [Tg.bind] using e
      exact (pg_tup hc h hn hst).run pins s σ H _ u Q I rv ⟨_, _, rfl, sr.sqT hs, by rw [← rs.length]; exact Tg.binds_len e', env, F, ci, S, ds, sr, er, rs, env', e', fun σ' er' o => hq σ' er' (by simpa [Tg.slots] using o)⟩
  | lst ds =>
    cases r with
    | lst hs hz rs =>
      have e' : Tg.binds S ts ds env = some env' := by simpa [Tg.bind] using e
      exact (pg_lst hc h hn hst).run pins s σ H _ u Q I rv ⟨_, _, rfl, .inl (.inl (sr.le _ _ hs)), by rw [← rs.length]; exact Tg.binds_len e', env, F, ci, S, ds, sr, er, rs, env', e', fun σ' er' o => hq σ' er' (by simpa [Tg.slots] using o)⟩
  | _ => simp [Tg.bind] at e
theorem ds_asg {tg : Expr} {t : Tg} (he : PE X e (tE X.K X.mg W f)) (hg : PG X tg (gD X.K t)) (hs : swapsWithSole [tg] e pos.line X.env = pure false := by rfl) (hw : swappedStores [tg] e X.env = pure none := by rfl) (h1 : (assignEach [tg] X.env).map (·.2) = [assign tg X.env] := by rfl) :
    PS X (.Assign [tg] e pos) (tSX X W (asgS t f)) := (ps_asg he hg hs hw h1).imp fun D σ H h => by
  obtain ⟨env, F, ci, S, sr, er, h⟩ := h
  refine ⟨env, F, ci, S, sr, er, (runE_out er h).imp fun d F1 c1 S1 H1 l1 s1 h1 v1 r1 => ?_⟩
  split at h1
  · rename_i env' e'
    exact ⟨env, F1, c1, S1, d, s1, er.later l1, r1, env', e', fun σ' er' _ => h1.here s1 σ' er'⟩
  · exact h1.elim
theorem ds_set (i : Nat) {x : Str} {pos' : Pos} (hN : X.N.Nodup) (he : PE X e (tE X.K X.mg W f)) (hi : X.N[i]? = some x := by rfl) (hx : Loc X.env.scope x := by first | exact Or.inl rfl | exact Or.inr rfl) (hs : swapsWith e (some (.Name x pos')) pos.line X.env = pure false := by rfl)
    (hf : X.fn x = true ∨ X.env.scope.names.lookup x = some .local := by first | exact .inl rfl | exact .inr rfl) :
    PS X (.Assign [.Name x pos'] e pos) (tSX X W (asgS (.nm i) f)) := (ps_set hN hi hx he hs hf).imp fun D σ H h => by
  obtain ⟨env, F, ci, S, sr, er, h⟩ := h
  refine ⟨env, F, ci, S, sr, er, (runE_out er h).imp fun d F1 c1 S1 H1 l1 s1 h1 v1 r1 => ?_⟩
  exact h1.here s1 _ ((er.later l1).set i r1)
end

/-! ### while -/
section
variable {X : Cx} {W : WX} {c : Expr} {body : List Stmt} {pos : Pos} {t : TestD} {p : StmtD}
/-- a while of at most n turns -/
theorem ds_while (n : PEnv → Sto → Nat) (hp : PassesOwn (model X.prog X.w) X.A X.env X.xe) (hc : PT X c (tT X.K X.mg W t)) (hb : PSs X body (tSX X W p)) : PS X (.While c body [] pos) (tSX X W fun env S => whileN t p (n env S) env S) := (ps_while hp hc hb).imp fun D σ H h => by
  obtain ⟨env, F, ci, S, sr, er, h⟩ := h
  refine ⟨fun m σ H => ∃ env F ci S, SR X.K F ci S H ∧ ER X.K F ci env σ ∧ Out X.K (fun _ _ _ _ _ => False) F ci H (whileN t p m env S) (SW X.K X.mg W D), ⟨_, env, F, ci, S, sr, er, h⟩, ?_⟩
  rintro m σ H ⟨env, F, ci, S, sr, er, h⟩
  cases m with
  | zero => exact h.elim
  | succ m =>
    unfold whileN at h
    refine ⟨env, F, ci, S, sr, er, (runT_out er h).imp fun b F1 c1 S1 H1 l1 s1 h1 => ?_⟩
    cases b with
    | false => exact h1.here s1 σ (er.later l1)
    | true =>
      rw [if_pos rfl] at h1 ⊢
      refine ⟨fun σ' H' => ∃ env F ci S, SR X.K F ci S H' ∧ ER X.K F ci env σ' ∧ Out X.K (fun _ _ _ _ _ => False) F ci H' (whileN t p m env S) (SW X.K X.mg W D), fun σ' H' z => ⟨m, Nat.lt_succ_self m, z⟩, env, F1, c1, S1, s1, er.later l1, ?_⟩
      cases hq : p env S1 with
      | ok fl S2 =>
        rw [hq] at h1
        cases fl with
        | nx e' => exact fun F2 c2 H2 l2 s2 σ2 er2 => ⟨e', F2, c2, S2, s2, er2, Out.later h1 l2⟩
        | ct e' => exact fun F2 c2 H2 l2 s2 σ2 er2 => ⟨e', F2, c2, S2, s2, er2, Out.later h1 l2⟩
        | bk e' => exact h1
        | rt d => exact h1
        | ex x e' => exact h1
      | exc x S2 => rw [hq] at h1; exact h1
      | stuck => rw [hq] at h1; exact h1
end

/-! ### defs and their calls -/
def spF (K : PySem.W.Frag) (mg : Str → Option Value) (n : Nat) (f : FnDen) : Sp := fun vs H Q E => vs.length = n ∧ ∃ F ci S ds, SR K F ci S H ∧ Rps K F ci ds vs ∧ Out K (Zf K mg E) F ci H (f ds S) fun d F' ci' S' H' => ∀ v, Rp K F' ci' d v → Q v H'
/-- a def that may be called by its name -/
structure Callee (P : Program) (w : World) (K : PySem.W.Frag) (mg : Str → Option Value) (base : Heap) (k : Nat) (x : Str) (ps : List Str) (f : FnDen) : Prop where
  ex : ∃ fa fd, FnOk P w K mg base (L2.CX P w) k fa fd ps (spF K mg ps.length f) ∧ mg x = some (.ref fa) ∧ PySem.W.keepIn K (.ref fa) = true ∧ Binds K fd ps []
/-- what is raised by a callee is taken -/
def Lets (X : Cx) (W : WX) : Prop := ∀ σ, PassesAt (L2.CX X.prog X.w) X σ (WE W σ)
theorem lets_of {X : Cx} {W : WX} (tk : Takes X W) : Lets X W := fun σ => passAt tk σ
theorem lets0 {X : Cx} : Lets X (fun _ _ _ _ => False) := fun σ pins H s e s' I h => by
  obtain ⟨_, _, _, _, _, _, _, _, _, _, _, _, z⟩ := h
  exact z.elim
section
variable {X : Cx} {W : WX} {k j : Nat} {x : Str} {ps : List Str} {f : FnDen} {e : Expr} {es : List Expr} {r : ArgsD} {p pos : Pos}
theorem de_call (cl : Callee X.prog X.w X.K X.mg X.base k x ps f) (hl : Lets X W) (hr : Room j X.A) (ha : PA X (e :: es) (tA X.K X.mg W r)) (hk : k ≤ j := by decide) (hg : Gl X x := by rfl)
    (hn : (e :: es).length = ps.length := by rfl) (hrl : ∀ env S ds S', r env S = .ok ds S' → ds.length = (e :: es).length) (hdb : (x == ("__debug__" : Str)) = false := by decide) (he : starEach (e :: es) X.env = (false, eval e X.env) :: starEach es X.env := by rfl) (hpl : (backTo pos (starEach es X.env)).any (·.1) = false := by rfl) :
    PE X (.Call (.Name x p) (e :: es) [] pos) (tE X.K X.mg W (callE f r)) := by
  obtain ⟨fa, fd, F, hm, hkp, hb⟩ := cl.ex
  refine (pe_callSD (E := WE W) F (hr.mono hk) hg hm hkp hb .nil hl ha hdb he hpl).imp fun σ H Q h => ?_
  obtain ⟨env, F0, ci, S, sr, er, h⟩ := h
  refine ⟨env, F0, ci, S, sr, er, ?_⟩
  have hx := Out.bind h
  cases hq : r env S with
  | ok ds S1 =>
    rw [hq] at hx
    refine fun F1 c1 H1 l1 s1 vs rs => ⟨?_, F1, c1, S1, ds, s1, by rw [List.append_nil]; exact rs, hx F1 c1 H1 l1 s1⟩
    rw [List.append_nil, ← rs.length, hrl _ _ _ _ hq, hn]
  | exc x S1 => rw [hq] at hx; exact hx
  | stuck => rw [hq] at hx; exact hx
theorem de_call0 (cl : Callee X.prog X.w X.K X.mg X.base k x [] f) (hl : Lets X W) (hr : Room j X.A) (hk : k ≤ j := by decide) (hg : Gl X x := by rfl) (hdb : (x == ("__debug__" : Str)) = false := by decide) :
    PE X (.Call (.Name x p) [] [] pos) (tE X.K X.mg W (callE f nilA)) := by
  obtain ⟨fa, fd, F, hm, hkp, hb⟩ := cl.ex
  refine ⟨fun pins s σ H Q I h => ?_⟩
  obtain ⟨env, F0, ci, S, sr, er, h⟩ := h
  refine wpAny_Call_Name_kw (ld_glob I hg hm ?_ hdb)
  exact PySem.W.callWith_K0 I.kIn hkp (run_fnSD (us := []) (E := WE W) F (hr.mono hk) hb .nil (hl σ) I .nil ⟨rfl, F0, ci, S, [], sr, .nil, h⟩)
end
theorem len_nilA : ∀ env S ds S', nilA env S = .ok ds S' → ds.length = 0 := fun env S ds S' h => by
  unfold nilA at h; injection h with h1 _; subst h1; rfl
theorem len_consA {a : ExprD} {r : ArgsD} {n : Nat} (hr : ∀ env S ds S', r env S = .ok ds S' → ds.length = n) : ∀ env S ds S', consA a r env S = .ok ds S' → ds.length = n + 1 := fun env S ds S' h => by
  unfold consA at h
  cases ha : a env S with
  | ok x S1 =>
    rw [ha] at h
    cases hq : r env S1 with
    | ok xs S2 =>
      have h' : (r env S1).bind (fun xs S2 => Res.ok (x :: xs) S2) = .ok ds S' := h
      rw [hq] at h'
      injection h' with h1 _
      subst h1
      simp [hr _ _ _ _ hq]
    | exc y S2 =>
      have h' : (r env S1).bind (fun xs S2 => Res.ok (x :: xs) S2) = .ok ds S' := h
      rw [hq] at h'; cases h'
    | stuck =>
      have h' : (r env S1).bind (fun xs S2 => Res.ok (x :: xs) S2) = .ok ds S' := h
      rw [hq] at h'; cases h'
  | exc y S1 => rw [ha] at h; cases h
  | stuck => rw [ha] at h; cases h

/-! ### THE RULE for a def -/
theorem er_start {K : PySem.W.Frag} {F : Hp} {ci : List Addr} {ds : List PV} {vs : List V} (r : Rps K F ci ds vs) (N : List Str) : ER K F ci (ds.map some ++ List.replicate (N.length - ds.length) none) (L2.start N vs) := by
  have hl := r.length
  refine ⟨by unfold L2.start; simp [hl], fun i d h => ?_⟩
  by_cases hi : i < ds.length
  · rw [List.getElem?_append_left (by simpa using hi), List.getElem?_map] at h
    cases e : ds[i]? with
    | none => rw [e] at h; cases h
    | some d' =>
      rw [e] at h
      have e' : d' = d := by simpa using h
      subst e'
      obtain ⟨v, hv, rv⟩ := r.get e
      refine ⟨v, ?_, rv⟩
      unfold L2.start
      rw [List.getElem?_append_left (by rw [List.length_map]; omega), List.getElem?_map, hv]
      rfl
  · rw [List.getElem?_append_right (by simpa using Nat.le_of_not_lt hi), List.getElem?_replicate] at h
    split at h <;> cases h
theorem fn_ok {P : Program} {w : World} {K : PySem.W.Frag} {mg : Str → Option Value} {base : Heap} {x qual : Str} {params : Arguments} {body : List Stmt} {scope : Scope} {dvs : List V} {kws : List (Str × V)} {fa : Addr} {fd : FuncData} {N ps : List Str} {k : Nat} {b : StmtD}
    (F : FunD K x qual params body scope dvs kws fa fd) (S : FnScope N ps scope)
    (hbody : ∀ (cdv : Value) (A : Around) (outer : List Env) (s : Shared) (H : Hp) (E : XK), Room k (A.deeper (envOfC qual scope s.heap.objs.size fa cdv)) → Lets (cxOf (L2.CX P w) P w K mg base N qual scope fa cdv A outer s H E) (fun c d _ H => E c d H) →
      PassesOwn (model P w) (A.deeper (envOfC qual scope s.heap.objs.size fa cdv)) (envOfC qual scope s.heap.objs.size fa cdv) (cxOf (L2.CX P w) P w K mg base N qual scope fa cdv A outer s H E).xe →
      Takes (cxOf (L2.CX P w) P w K mg base N qual scope fa cdv A outer s H E) (fun c d _ H => E c d H) →
      PSs (cxOf (L2.CX P w) P w K mg base N qual scope fa cdv A outer s H E) body (tS K mg (fun c d _ H => E c d H) b)) :
    FnOk P w K mg base (L2.CX P w) (k + 1) fa fd ps (spF K mg ps.length (fnD ps.length N.length b)) := by
  refine F.ok S (fun vs H Q E h => h.1) fun cdv A outer s H vs Q E hr h => ?_
  have tk : Takes (cxOf (L2.CX P w) P w K mg base N qual scope fa cdv A outer s H E) (fun c d _ H => E c d H) := takes_of rfl rfl rfl rfl
  refine ⟨_, hbody cdv A outer s H E hr (lets_of tk) (passes_of rfl) tk, ?_⟩
  obtain ⟨hl, F0, ci, S0, ds, sr, rs, h⟩ := h
  have hd : ds.length = ps.length := by rw [rs.length, hl]
  refine ⟨ds.map some ++ List.replicate (N.length - ds.length) none, F0, ci, S0, sr, er_start rs N, ?_⟩
  unfold fnD at h
  rw [if_pos hd] at h
  cases hb : b (ds.map some ++ List.replicate (N.length - ds.length) none) S0 with
  | ok fl S1 =>
    rw [hb] at h
    cases fl with
    | nx e' => exact fun F1 c1 H1 l1 s1 σ _ => h F1 c1 H1 l1 s1 _ .non
    | rt d => exact fun F1 c1 H1 l1 s1 v r => h F1 c1 H1 l1 s1 v r
    | ex y e' => exact fun F1 c1 H1 l1 s1 σ _ cls d xr => h F1 c1 H1 l1 s1 cls d xr
    | bk e' => exact h.elim
    | ct e' => exact h.elim
  | exc y S1 => rw [hb] at h; exact h.elim
  | stuck => rw [hb] at h; exact h.elim
end LH

/-! LD: operators by values. -/
namespace LH
open PySem PySem.Spec PyProof.Rows L2

def lstOf (S : Sto) : PV → Option (List PV)
  | .lst xs => some xs
  | .ro xs => some xs
  | .cell n => match S[n]? with
    | some (.lst xs) => some xs
    | _ => none
  | _ => none
def catOf (S : Sto) : PV → Option (List PV)
  | .lst xs => some xs
  | .cell n => match S[n]? with
    | some (.lst xs) => some xs
    | _ => none
  | _ => none
/-- the items of a list or a tuple -/
def seqOf (S : Sto) : PV → Option (List PV)
  | .tup xs => some xs
  | d => lstOf S d
section
variable {K : PySem.W.Frag} {F : Hp} {ci : List Addr} {S : Sto} {H : Hp} {d : PV} {v : V} {xs : List PV}
theorem lst_rd (s : SR K F ci S H) (r : Rp K F ci d v) (h : lstOf S d = some xs) : ∃ a vs, v = .ref a ∧ SqL K H a vs ∧ Rps K F ci xs vs ∧ xs.length ≤ sizeLine := by
  cases r with
  | lst e z rs => cases h; exact ⟨_, _, rfl, .inl (.inl (s.le _ _ e)), rs, z⟩
  | ro e z rs => cases h; exact ⟨_, _, rfl, Ext.sqL s.le e, rs, z⟩
  | @cell a n e =>
    have h' : (match S[n]? with | some (.lst xs) => some xs | _ => none) = some xs := h
    split at h'
    · rename_i ys q
      cases h'
      obtain ⟨b, vs, e1, _, e3, z, rs⟩ := s.cel n _ q
      rw [e] at e1; cases e1
      exact ⟨_, vs, rfl, .inl (.inl e3), rs, z.1⟩
    · cases h'
  | _ => cases h
theorem cat_lst (s : SR K F ci S H) (r : Rp K F ci d v) (h : catOf S d = some xs) : ∃ a vs, v = .ref a ∧ H a = some (.lst vs) ∧ Rps K F ci xs vs ∧ xs.length ≤ sizeLine := by
  cases r with
  | lst e z rs => cases h; exact ⟨_, _, rfl, s.le _ _ e, rs, z⟩
  | @cell a n e =>
    have h' : (match S[n]? with | some (.lst xs) => some xs | _ => none) = some xs := h
    split at h'
    · rename_i ys q
      cases h'
      obtain ⟨b, vs, e1, _, e3, z, rs⟩ := s.cel n _ q
      rw [e] at e1; cases e1
      exact ⟨_, vs, rfl, e3, rs, z.1⟩
    · cases h'
  | _ => cases h
theorem seq_sq (s : SR K F ci S H) (r : Rp K F ci d v) (h : seqOf S d = some xs) : ∃ a vs, v = .ref a ∧ (SqL K H a vs ∨ SqT K H a vs) ∧ Rps K F ci xs vs ∧ xs.length ≤ sizeLine := by
  cases r with
  | tup e z rs => cases h; exact ⟨_, _, rfl, .inr (s.sqT e), rs, z⟩
  | lst e z rs => obtain ⟨a, vs, h1, h2, h3⟩ := lst_rd s (.lst e z rs) h; exact ⟨a, vs, h1, .inl h2, h3⟩
  | ro e z rs => obtain ⟨a, vs, h1, h2, h3⟩ := lst_rd s (.ro e z rs) h; exact ⟨a, vs, h1, .inl h2, h3⟩
  | cell e => obtain ⟨a, vs, h1, h2, h3⟩ := lst_rd s (.cell e) h; exact ⟨a, vs, h1, .inl h2, h3⟩
  | _ => cases h
end

/-! ### arithmetic -/
def intF (C : Int → Int → Prop) [∀ i j, Decidable (C i j)] (g : Int → Int → Int) : PV → PV → Sto → Res PV := fun x y S => match x, y with
  | .int i, .int j => if C i j then .ok (.int (g i j)) S else .stuck
  | _, _ => .stuck
def mulC (i j : Int) : Prop := i.natAbs.log2 + j.natAbs.log2 < 1000000
def divC (i j : Int) : Prop := 0 < j ∧ (j.natAbs.log2 < 9000 ∨ i.natAbs.log2 ≤ j.natAbs.log2 + 3000)
def modC (_ j : Int) : Prop := 0 < j
def powC (i j : Int) : Prop := 0 ≤ j ∧ j ≤ 1000 ∧ i.natAbs.log2 < 100000
instance (i j : Int) : Decidable (mulC i j) := by unfold mulC; infer_instance
instance (i j : Int) : Decidable (divC i j) := by unfold divC; infer_instance
instance (i j : Int) : Decidable (modC i j) := by unfold modC; infer_instance
instance (i j : Int) : Decidable (powC i j) := by unfold powC; infer_instance
def subV : PV → PV → Sto → Res PV := intF (fun _ _ => True) fun i j => i - j
def mulV : PV → PV → Sto → Res PV := intF mulC fun i j => i * j
def fdivV : PV → PV → Sto → Res PV := intF divC fun i j => i / j
def modV : PV → PV → Sto → Res PV := intF modC fun i j => i % j
def powV : PV → PV → Sto → Res PV := intF powC fun i j => i ^ j.toNat
def andV : PV → PV → Sto → Res PV := intF (fun _ _ => True) fun i j => Builtin.bitAnd i j
def addV : PV → PV → Sto → Res PV := fun x y S => match x, y with
  | .int i, .int j => .ok (.int (i + j)) S
  | .str a, .str b => if a.length + b.length ≤ sizeLine then .ok (.str (a ++ b)) S else .stuck
  | .tup a, .tup b => if a.length + b.length ≤ sizeLine then .ok (.tup (a ++ b)) S else .stuck
  | a, b => match catOf S a, catOf S b with
    | some a, some b => if a.length + b.length ≤ sizeLine then .ok (.lst (a ++ b)) S else .stuck
    | _, _ => .stuck
def negV : PV → Sto → Res PV := fun x S => match x with
  | .int i => .ok (.int (-i)) S
  | _ => .stuck
section
variable {X : Cx} {E : XK}
theorem od_int {f : Value → Value → Sem Value} {C C' : Int → Int → Prop} [∀ i j, Decidable (C i j)] {g : Int → Int → Int} (h : OpR X f (rI C' fun i j => .int (g i j))) (hC : ∀ i j, C i j → C' i j) : OpR X f (rD X.K X.mg E (intF C g)) := by
  intro pins s σ H x y v u Q I rx ry q
  obtain ⟨F, ci, S, dx, dy, sr, r1, r2, q⟩ := q
  unfold intF at q
  split at q
  · rename_i i j
    split at q
    · rename_i hc
      cases r1; cases r2
      exact h pins s σ H _ _ v u Q I rx ry ⟨i, j, rfl, rfl, hC _ _ hc, q.here sr _ (.int _)⟩
    · exact q.elim
  · exact q.elim
theorem rI0_I {f : Value → Value → Sem Value} {g : Int → Int → V} (h : OpR X f (rI0 g)) : OpR X f (rI (fun _ _ => True) g) := by
  intro pins s σ H x y v u Q I rx ry ⟨i, j, e1, e2, _, q⟩
  exact h pins s σ H x y v u Q I rx ry ⟨i, j, e1, e2, q⟩
theorem od_sub : OpR X (binaryOp .Sub) (rD X.K X.mg E subV) := od_int (rI0_I op_sub) fun _ _ h => h
theorem od_mul : OpR X (binaryOp .Mult) (rD X.K X.mg E mulV) := od_int op_mulW fun _ _ h => h
theorem noPy_near {x y : Int} (hy : 0 < y) (h : x.natAbs.log2 ≤ y.natAbs.log2 + 3000) : Builtin.divisionGoesByPylong x y = false := by
  have e1 : (y == 0) = false := by simp; omega
  have key : (if x == 0 then 0 else x.natAbs.log2 / 30 + 1) ≤ (if y == 0 then 0 else y.natAbs.log2 / 30 + 1) + 150 := by
    rw [e1]
    simp only [Bool.false_eq_true, if_false]
    split <;> omega
  show (_ && decide ((if x == 0 then 0 else x.natAbs.log2 / 30 + 1) > (if y == 0 then 0 else y.natAbs.log2 / 30 + 1) + 150)) = false
  rw [decide_eq_false (Nat.not_lt.mpr key), Bool.and_false]
theorem op_fdivX : OpR X (binaryOp .FloorDiv) (rI divC fun i j => .int (i / j)) := opI fun i j _ _ _ _ _ hc q => by
  have h1 : (0 : Int) < j := hc.1
  exact floordiv_int (by omega) (by rw [Int.fdiv_eq_ediv_of_nonneg i (by omega)]; exact q) (.inl (hc.2.elim (fun h => PyProof.noPylong_of_log2 h) fun h => noPy_near h1 h))
theorem od_fdiv : OpR X (binaryOp .FloorDiv) (rD X.K X.mg E fdivV) := od_int op_fdivX fun _ _ h => h
theorem od_mod : OpR X (binaryOp .Mod) (rD X.K X.mg E modV) := od_int op_mod fun _ _ h => h
theorem od_add : OpR X (binaryOp .Add) (rD X.K X.mg E addV) := by
  intro pins s σ H x y v u Q I rx ry q
  obtain ⟨F, ci, S, dx, dy, sr, r1, r2, q⟩ := q
  have lists : ∀ a b, catOf S dx = some a → catOf S dy = some b → a.length + b.length ≤ sizeLine → (Out X.K (Zf X.K X.mg E) F ci H (.ok (.lst (a ++ b)) S) fun d F' ci' S' H' => ∀ v, Rp X.K F' ci' d v → Q v H') →
      wpAny (model X.prog X.w) X.A (binaryOp .Add v u) (EP X pins σ Q) X.xe s := fun a b h1 h2 z q => by
    obtain ⟨l, vs, rfl, e1, rs1, _⟩ := cat_lst sr r1 h1
    obtain ⟨m, ws, rfl, e2, rs2, _⟩ := cat_lst sr r2 h2
    refine op_cat pins s σ H _ _ v u Q I rx ry ⟨l, m, vs, ws, rfl, rfl, e1, e2, by rw [← rs1.length, ← rs2.length]; exact z, fun p hp => ?_⟩
    obtain ⟨s2, l2⟩ := sr.laid (o := .lst (vs ++ ws)) hp
    exact q _ _ _ l2 s2 _ (.lst upd_same (by rw [List.length_append]; exact z) (l2.rps (rs1.append rs2)))
  unfold addV at q
  split at q
  · cases r1; cases r2
    exact op_add pins s σ H _ _ v u Q I rx ry ⟨_, _, rfl, rfl, q.here sr _ (.int _)⟩
  · split at q
    · cases r1; cases r2
      exact op_add_str pins s σ H _ _ v u Q I rx ry ⟨_, _, rfl, rfl, by assumption, q.here sr _ (.str _)⟩
    · exact q.elim
  · rename_i a b
    split at q
    · rename_i z
      cases r1 with
      | tup e1 z1 rs1 =>
        cases r2 with
        | tup e2 z2 rs2 =>
          refine op_catA pins s σ H _ _ v u Q I rx ry ⟨_, _, _, _, rfl, rfl, sr.sqT e1, sr.sqT e2, by rw [← rs1.length, ← rs2.length]; exact z, fun e => ?_, fun _ e => ?_, fun _ e p hp => ?_⟩
          · subst e
            have ha : a = [] := List.length_eq_zero_iff.mp (by simpa using rs1.length)
            subst ha
            exact q.here sr _ (.tup e2 z2 rs2)
          · subst e
            have hb : b = [] := List.length_eq_zero_iff.mp (by simpa using rs2.length)
            subst hb
            rw [List.append_nil] at q
            exact q.here sr _ (.tup e1 z1 rs1)
          · obtain ⟨s2, l2⟩ := sr.laid (o := .tup _) hp
            exact q _ _ _ l2 s2 _ (.tup (.inl rd_new) (by rw [List.length_append]; exact z) (l2.rps (rs1.append rs2)))
    · exact q.elim
  · rename_i a b _ _ _
    split at q
    · rename_i a' b' h1 h2
      split at q
      · exact lists _ _ h1 h2 (by assumption) q
      · exact q.elim
    · exact q.elim
theorem ud_neg : UnR X (unaryOp .USub) (rU X.K X.mg E negV) := by
  intro pins s σ H x v Q I rx q
  obtain ⟨F, ci, S, dx, sr, r1, q⟩ := q
  unfold negV at q
  split at q
  · cases r1
    exact un_neg pins s σ H _ v Q I rx ⟨_, rfl, q.here sr _ (.int _)⟩
  · exact q.elim
end

/-! ### comparisons -/
def cmpF (g : Int → Int → Bool) : PV → PV → Sto → Res PV := fun x y S => match x, y with
  | .int i, .int j => .ok (.bl (g i j)) S
  | _, _ => .stuck
def ltV : PV → PV → Sto → Res PV := cmpF fun i j => decide (i < j)
def leV : PV → PV → Sto → Res PV := cmpF fun i j => decide (i ≤ j)
def gtV : PV → PV → Sto → Res PV := cmpF fun i j => decide (j < i)
def geV : PV → PV → Sto → Res PV := cmpF fun i j => decide (j ≤ i)
def isNonB : PV → Bool
  | .non => true
  | _ => false
def isV : PV → PV → Sto → Res PV := fun x y S => match y with
  | .non => .ok (.bl (isNonB x)) S
  | _ => .stuck
def isNotV : PV → PV → Sto → Res PV := fun x y S => match y with
  | .non => .ok (.bl (!isNonB x)) S
  | _ => .stuck
/-- == of two flat values -/
def feq : PV → PV → Bool
  | .non, .non => true
  | .bl a, .bl b => a == b
  | .bl a, .int b => (if a then 1 else 0) == b
  | .int a, .bl b => a == (if b then 1 else 0)
  | .int a, .int b => a == b
  | .str a, .str b => a == b
  | _, _ => false
def flat : PV → Bool
  | .non => true
  | .bl _ => true
  | .int _ => true
  | .str _ => true
  | _ => false
mutual
/-- == -/
def peq : PV → PV → Bool
  | .tup xs, .tup ys => peqs xs ys
  | .lst xs, .lst ys => peqs xs ys
  | .lst xs, .ro ys => peqs xs ys
  | .ro xs, .lst ys => peqs xs ys
  | .ro xs, .ro ys => peqs xs ys
  | x, y => feq x y
def peqs : List PV → List PV → Bool
  | [], [] => true
  | x :: xs, y :: ys => peq x y && peqs xs ys
  | _, _ => false
end
mutual
/-- may be compared: depth, signs, nothing mutable within -/
def chk : Nat → PV → Bool
  | _, .non => true
  | _, .bl _ => true
  | _, .int _ => true
  | _, .str x => x.cps.all (· < 0x110000)
  | n + 1, .tup xs => chks n xs
  | n + 1, .lst xs => chks n xs
  | n + 1, .ro xs => chks n xs
  | _, _ => false
def chks : Nat → List PV → Bool
  | _, [] => true
  | n, x :: xs => chk n x && chks n xs
end
mutual
def toD : PV → PyData
  | .non => .none
  | .bl b => .bool b
  | .int i => .int i
  | .str x => .str x
  | .tup xs => .tuple (toDs xs)
  | .lst xs => .list (toDs xs)
  | .ro xs => .list (toDs xs)
  | _ => .none
def toDs : List PV → List PyData
  | [] => []
  | x :: xs => toD x :: toDs xs
end
section
variable {K : PySem.W.Frag} {F : Hp} {ci : List Addr} {S : Sto} {H : Hp}
mutual
theorem dp_of (s : SR K F ci S H) : ∀ (n : Nat) (d : PV) (v : V), chk n d = true → Rp K F ci d v → Dp K H v (toD d)
  | n, .non, _, _, r => by cases r; simp only [toD]; exact .non
  | n, .bl b, _, _, r => by cases r; simp only [toD]; exact .bl b
  | n, .int i, _, _, r => by cases r; simp only [toD]; exact .int i
  | n, .str x, _, _, r => by cases r; simp only [toD]; exact .str x
  | n, .ty x, _, h, _ => by simp [chk] at h
  | n, .cell x, _, h, _ => by simp [chk] at h
  | 0, .tup xs, _, h, r => by simp [chk] at h
  | 0, .lst xs, _, h, r => by simp [chk] at h
  | 0, .ro xs, _, h, r => by simp [chk] at h
  | n + 1, .tup xs, _, h, r => by
    simp only [chk] at h
    cases r with
    | tup e z rs => simp only [toD]; exact .tup (s.sqT e) (dps_of s n xs _ h rs)
  | n + 1, .lst xs, _, h, r => by
    simp only [chk] at h
    cases r with
    | lst e z rs => simp only [toD]; exact .lst (.inl (.inl (s.le _ _ e))) (dps_of s n xs _ h rs)
  | n + 1, .ro xs, _, h, r => by
    simp only [chk] at h
    cases r with
    | ro e z rs => simp only [toD]; exact .lst (Ext.sqL s.le e) (dps_of s n xs _ h rs)
theorem dps_of (s : SR K F ci S H) : ∀ (n : Nat) (ds : List PV) (vs : List V), chks n ds = true → Rps K F ci ds vs → DpAll K H vs (toDs ds)
  | _, [], _, _, r => by cases r; simp only [toDs]; exact .nil
  | n, d :: ds, _, h, r => by
    simp only [chks, Bool.and_eq_true] at h
    cases r with
    | cons r1 r2 => simp only [toDs]; exact .cons (dp_of s n d _ h.1 r1) (dps_of s n ds _ h.2 r2)
end
end
mutual
theorem chk_lay : ∀ (n : Nat) (d : PV), chk n d = true → (toD d).canLay0 = true ∧ (toD d).depth ≤ n
  | n, .non, _ => by simp [toD, PyData.canLay0, PyData.depth]
  | n, .bl b, _ => by simp [toD, PyData.canLay0, PyData.depth]
  | n, .int i, _ => by simp [toD, PyData.canLay0, PyData.depth]
  | n, .str x, h => by
    simp only [toD, PyData.canLay0, PyData.depth]
    simp only [chk] at h
    exact ⟨h, Nat.zero_le _⟩
  | n, .ty x, h => by simp [chk] at h
  | n, .cell x, h => by simp [chk] at h
  | 0, .tup xs, h => by simp [chk] at h
  | 0, .lst xs, h => by simp [chk] at h
  | 0, .ro xs, h => by simp [chk] at h
  | n + 1, .tup xs, h => by
    simp only [chk] at h
    obtain ⟨h1, h2⟩ := chks_lay n xs h
    simp only [toD, PyData.canLay0, PyData.depth]
    exact ⟨h1, by omega⟩
  | n + 1, .lst xs, h => by
    simp only [chk] at h
    obtain ⟨h1, h2⟩ := chks_lay n xs h
    simp only [toD, PyData.canLay0, PyData.depth]
    exact ⟨h1, by omega⟩
  | n + 1, .ro xs, h => by
    simp only [chk] at h
    obtain ⟨h1, h2⟩ := chks_lay n xs h
    simp only [toD, PyData.canLay0, PyData.depth]
    exact ⟨h1, by omega⟩
theorem chks_lay : ∀ (n : Nat) (ds : List PV), chks n ds = true → PyData.canLayAll0 (toDs ds) = true ∧ PyData.depthAll (toDs ds) ≤ n
  | n, [], _ => by simp [toDs, PyData.canLayAll0, PyData.depthAll]
  | n, d :: ds, h => by
    simp only [chks, Bool.and_eq_true] at h
    obtain ⟨h1, h2⟩ := chk_lay n d h.1
    obtain ⟨h3, h4⟩ := chks_lay n ds h.2
    simp only [toDs, PyData.canLayAll0, PyData.depthAll, h1, h3]
    exact ⟨rfl, Nat.max_le.mpr ⟨h2, h4⟩⟩
end
theorem shaped_of {d : PV} (h : chk 60 d = true) : SeqAt.shaped (toD d) = true := by
  obtain ⟨h1, h2⟩ := chk_lay 60 d h
  unfold SeqAt.shaped
  rw [h1, decide_eq_true (Nat.le_trans h2 (by decide))]
  rfl
mutual
theorem eqv_peq : ∀ (n : Nat) (x y : PV), chk n x = true → chk n y = true → PyData.eqv (toD x) (toD y) = peq x y
  | n, .tup xs, y, h, h' => by
    cases n with
    | zero => simp [chk] at h
    | succ n => cases y <;> simp only [chk] at h h' <;> first | (simp only [toD, PyData.eqv, peq]; exact eqvs_peqs n _ _ h h') | (simp [toD, PyData.eqv, peq, feq]; done) | cases h'
  | n, .lst xs, y, h, h' => by
    cases n with
    | zero => simp [chk] at h
    | succ n => cases y <;> simp only [chk] at h h' <;> first | (simp only [toD, PyData.eqv, peq]; exact eqvs_peqs n _ _ h h') | (simp [toD, PyData.eqv, peq, feq]; done) | cases h'
  | n, .ro xs, y, h, h' => by
    cases n with
    | zero => simp [chk] at h
    | succ n => cases y <;> simp only [chk] at h h' <;> first | (simp only [toD, PyData.eqv, peq]; exact eqvs_peqs n _ _ h h') | (simp [toD, PyData.eqv, peq, feq]; done) | cases h'
  | n, .non, y, h, h' => by cases y <;> simp_all [toD, PyData.eqv, peq, feq, chk]
  | n, .bl b, y, h, h' => by cases y <;> simp_all [toD, PyData.eqv, peq, feq, chk]
  | n, .int i, y, h, h' => by cases y <;> simp_all [toD, PyData.eqv, peq, feq, chk]
  | n, .str x, y, h, h' => by cases y <;> simp_all [toD, PyData.eqv, peq, feq, chk]
  | n, .ty x, y, h, h' => by simp [chk] at h
  | n, .cell x, y, h, h' => by simp [chk] at h
theorem eqvs_peqs : ∀ (n : Nat) (xs ys : List PV), chks n xs = true → chks n ys = true → PyData.eqvAll (toDs xs) (toDs ys) = peqs xs ys
  | n, [], [], _, _ => by simp [toDs, PyData.eqvAll, peqs]
  | n, [], y :: ys, _, _ => by simp [toDs, PyData.eqvAll, peqs]
  | n, x :: xs, [], _, _ => by simp [toDs, PyData.eqvAll, peqs]
  | n, x :: xs, y :: ys, h, h' => by
    simp only [chks, Bool.and_eq_true] at h h'
    simp only [toDs, PyData.eqvAll, peqs]
    rw [eqv_peq n x y h.1 h'.1, eqvs_peqs n xs ys h.2 h'.2]
end
/-- a mutable list as it stands -/
def topV (S : Sto) : PV → PV
  | .cell n => match S[n]? with
    | some (.lst xs) => .lst xs
    | _ => .cell n
  | d => d
def eqV : PV → PV → Sto → Res PV := fun x y S => if chk 60 (topV S x) = true ∧ chk 60 (topV S y) = true then .ok (.bl (peq (topV S x) (topV S y))) S else .stuck
def neV : PV → PV → Sto → Res PV := fun x y S => if chk 60 (topV S x) = true ∧ chk 60 (topV S y) = true then .ok (.bl (!peq (topV S x) (topV S y))) S else .stuck
theorem dp_top {K : PySem.W.Frag} {F : Hp} {ci : List Addr} {S : Sto} {H : Hp} (s : SR K F ci S H) {d : PV} {v : V} (h : chk 60 (topV S d) = true) (r : Rp K F ci d v) : Dp K H v (toD (topV S d)) := by
  cases d with
  | cell n =>
    cases r with
    | @cell a _ e =>
      have e0 : topV S (.cell n) = (match S[n]? with | some (.lst xs) => .lst xs | _ => .cell n) := rfl
      rw [e0] at h ⊢
      split at h
      · rename_i xs q
        obtain ⟨b, vs, e1, _, e3, z, rs⟩ := s.cel n _ q
        rw [e] at e1; cases e1
        simp only [chk] at h
        simp only [toD]
        exact .lst (.inl (.inl e3)) (dps_of s 59 xs _ h rs)
      · simp [chk] at h
  | _ => exact dp_of s 60 _ _ h r
section
variable {X : Cx} {E : XK}
theorem od_cmp {f : Value → Value → Sem Value} {g : Int → Int → Bool} (h : OpR X f (rI0 fun i j => .bl (g i j))) : OpR X f (rD X.K X.mg E (cmpF g)) := by
  intro pins s σ H x y v u Q I rx ry q
  obtain ⟨F, ci, S, dx, dy, sr, r1, r2, q⟩ := q
  unfold cmpF at q
  split at q
  · cases r1; cases r2
    exact h pins s σ H _ _ v u Q I rx ry ⟨_, _, rfl, rfl, q.here sr _ (.bl _)⟩
  · exact q.elim
theorem od_le : OpR X (compareOp .LtE) (rD X.K X.mg E leV) := od_cmp op_le
theorem od_gt : OpR X (compareOp .Gt) (rD X.K X.mg E gtV) := od_cmp op_gt
theorem od_ge : OpR X (compareOp .GtE) (rD X.K X.mg E geV) := od_cmp op_ge
theorem od_eq (hu : X.A.units + 64 < cLine) : OpR X (compareOp .Eq) (rD X.K X.mg E eqV) := by
  intro pins s σ H x y v u Q I rx ry q
  obtain ⟨F, ci, S, dx, dy, sr, r1, r2, q⟩ := q
  unfold eqV at q
  split at q
  · rename_i h
    refine op_eqD hu pins s σ H x y v u Q I rx ry ⟨_, _, dp_top sr h.1 r1, dp_top sr h.2 r2, shaped_of h.1, shaped_of h.2, ?_⟩
    rw [eqv_peq 60 _ _ h.1 h.2]
    exact q.here sr _ (.bl _)
  · exact q.elim
theorem od_ne (hu : X.A.units + 64 < cLine) : OpR X (compareOp .NotEq) (rD X.K X.mg E neV) := by
  intro pins s σ H x y v u Q I rx ry q
  obtain ⟨F, ci, S, dx, dy, sr, r1, r2, q⟩ := q
  unfold neV at q
  split at q
  · rename_i h
    refine op_neD hu pins s σ H x y v u Q I rx ry ⟨_, _, dp_top sr h.1 r1, dp_top sr h.2 r2, shaped_of h.1, shaped_of h.2, ?_⟩
    rw [eqv_peq 60 _ _ h.1 h.2]
    exact q.here sr _ (.bl _)
  · exact q.elim
end
/-! in, not in: flat things in a list or a tuple of flat things -/
def inB (x : PV) (xs : List PV) : Bool := xs.any fun y => feq y x
def inV : PV → PV → Sto → Res PV := fun x y S => match seqOf S y with
  | some ys => if flat x = true ∧ ys.all flat = true then .ok (.bl (inB x ys)) S else .stuck
  | none => .stuck
def notInV : PV → PV → Sto → Res PV := fun x y S => match seqOf S y with
  | some ys => if flat x = true ∧ ys.all flat = true then .ok (.bl (!inB x ys)) S else .stuck
  | none => .stuck
section
variable {K : PySem.W.Frag} {F : Hp} {ci : List Addr}
theorem flat_v {d : PV} {v : V} (r : Rp K F ci d v) (h : flat d = true) : flatV v = true := by cases r <;> first | rfl | cases h
theorem flats_v : ∀ {ds : List PV} {vs : List V}, Rps K F ci ds vs → ds.all flat = true → vs.all flatV = true
  | _, _, .nil, _ => rfl
  | _, _, .cons r rs, h => by
    simp only [List.all_cons, Bool.and_eq_true] at h ⊢
    exact ⟨flat_v r h.1, flats_v rs h.2⟩
theorem feq_v {d e : PV} {v u : V} (r : Rp K F ci d v) (q : Rp K F ci e u) (h : flat d = true) (h' : flat e = true) : L2.eqV v u = feq d e := by
  cases r <;> first | (cases h; done) | (cases q <;> first | rfl | (cases h'; done))
theorem inB_v {d : PV} {v : V} (r : Rp K F ci d v) (h : flat d = true) : ∀ {ds : List PV} {vs : List V}, Rps K F ci ds vs → ds.all flat = true → L2.inV v vs = inB d ds
  | _, _, .nil, _ => rfl
  | _, _, .cons q qs, h' => by
    simp only [List.all_cons, Bool.and_eq_true] at h'
    have ih := inB_v r h qs h'.2
    unfold L2.inV inB at ih ⊢
    rw [List.any_cons, List.any_cons, ih, feq_v q r h'.1 h]
end
section
variable {X : Cx} {E : XK}
theorem od_in : OpR X (compareOp .In) (rD X.K X.mg E inV) := by
  intro pins s σ H x y v u Q I rx ry q
  obtain ⟨F, ci, S, dx, dy, sr, r1, r2, q⟩ := q
  unfold inV at q
  split at q
  · rename_i ys hy
    split at q
    · rename_i h
      obtain ⟨a, vs, rfl, hs, rs, _⟩ := seq_sq sr r2 hy
      refine op_in_seq pins s σ H _ _ v u Q I rx ry ⟨a, vs, rfl, hs, flat_v r1 h.1, flats_v rs h.2, ?_⟩
      rw [if_neg (by decide), inB_v r1 h.1 rs h.2]
      exact q.here sr _ (.bl _)
    · exact q.elim
  · exact q.elim
end
end LH

/-! LE: what is walked; for; list comprehensions. -/
namespace LH
open PySem PySem.Spec PyProof.Rows L2

/-- what is walked: a mutable list's place (it is to stand while it is walked), the items -/
abbrev IterD := PEnv → Sto → Res (Option Nat × List PV)
def wok (o : Option Nat) (ds : List PV) (S : Sto) : Prop := match o with
  | none => True
  | some n => S[n]? = some (.lst ds)
open Classical in
noncomputable def guardW {α : Type} (o : Option Nat) (ds : List PV) (S : Sto) (r : Res α) : Res α := match o with
  | none => r
  | some n => if S[n]? = some (.lst ds) then r else .stuck
theorem guardW_none {α : Type} {ds : List PV} {S : Sto} {r : Res α} : guardW none ds S r = r := rfl
theorem guardW_some {α : Type} {n : Nat} {ds : List PV} {S : Sto} {r : Res α} (h : S[n]? = some (.lst ds)) : guardW (some n) ds S r = r := by unfold guardW; simp [h]
theorem Out.guard {α : Type} {K : PySem.W.Frag} {Z : Exc → Hp → List Addr → Sto → Hp → Prop} {F : Hp} {ci : List Addr} {H : Hp} {o : Option Nat} {ds : List PV} {S : Sto} {r : Res α} {P : α → Hp → List Addr → Sto → Hp → Prop}
    (h : Out K Z F ci H (guardW o ds S r) P) : wok o ds S ∧ Out K Z F ci H r P := by
  cases o with
  | none => exact ⟨True.intro, h⟩
  | some n =>
    by_cases e : S[n]? = some (.lst ds)
    · rw [guardW_some e] at h; exact ⟨e, h⟩
    · unfold guardW at h
      simp only [e, if_false] at h
      exact h.elim
/-- J walks ds -/
def Wk (K : PySem.W.Frag) (F : Hp) (ci : List Addr) (o : Option Nat) (ds : List PV) (J : It) : Prop := ∀ (i : Nat) (F1 : Hp) (c1 : List Addr) (S1 : Sto) (H1 : Hp), Ext F F1 → ci <+: c1 → SR K F1 c1 S1 H1 → wok o ds S1 →
  (i < ds.length → J.go i H1 ∧ ∀ x H2, J.yld i H1 x H2 → ∃ F2, Later F1 c1 H1 F2 c1 H2 ∧ SR K F2 c1 S1 H2 ∧ ∃ d, ds[i]? = some d ∧ Rp K F2 c1 d x) ∧ (i = ds.length → J.stop i H1)
def tI (K : PySem.W.Frag) (mg : Str → Option Value) (W : WX) (f : IterD) : TI := fun σ H R => ∃ env F ci S, SR K F ci S H ∧ ER K F ci env σ ∧ Out K (Zf K mg (WE W σ)) F ci H (f env S) fun p F' ci' S' H' => ∀ J, Wk K F' ci' p.1 p.2 J → p.2.length ≤ sizeLine → R J H'

section
variable {K : PySem.W.Frag} {F : Hp} {ci : List Addr}
/-- a list that stands frozen, or a mutable one while it stands -/
structure LAt (K : PySem.W.Frag) (F : Hp) (ci : List Addr) (o : Option Nat) (ds : List PV) (a : Addr) : Prop where
  at_ : ∀ (F1 : Hp) (c1 : List Addr) (S1 : Sto) (H1 : Hp), Ext F F1 → ci <+: c1 → SR K F1 c1 S1 H1 → wok o ds S1 → ∃ vs, SqL K H1 a vs ∧ Rps K F1 c1 ds vs
structure TAt (K : PySem.W.Frag) (F : Hp) (ci : List Addr) (ds : List PV) (a : Addr) : Prop where
  at_ : ∀ (F1 : Hp) (c1 : List Addr) (S1 : Sto) (H1 : Hp), Ext F F1 → ci <+: c1 → SR K F1 c1 S1 H1 → ∃ vs, SqT K H1 a vs ∧ Rps K F1 c1 ds vs
theorem wk_list {o : Option Nat} {ds : List PV} {a : Addr} (l : LAt K F ci o ds a) : Wk K F ci o ds (Itl K a) := fun i F1 c1 S1 H1 e p s w => by
  obtain ⟨vs, h, rs⟩ := l.at_ F1 c1 S1 H1 e p s w
  refine ⟨fun hi => ?_, fun hi0 => have hi := Nat.le_of_eq hi0.symm; ⟨vs, h, by rw [← rs.length]; exact hi⟩⟩
  obtain ⟨v, hv, rv⟩ := rs.get (List.getElem?_eq_getElem hi)
  refine ⟨⟨vs, v, h, hv⟩, fun x H2 ⟨e2, hx⟩ => ?_⟩
  subst e2
  have hxv := hx vs h
  rw [hv] at hxv; cases hxv
  exact ⟨F1, .refl, s, _, List.getElem?_eq_getElem hi, rv⟩
theorem wk_tup {ds : List PV} {a : Addr} (l : TAt K F ci ds a) : Wk K F ci none ds (Itt K a) := fun i F1 c1 S1 H1 e p s w => by
  obtain ⟨vs, h, rs⟩ := l.at_ F1 c1 S1 H1 e p s
  refine ⟨fun hi => ?_, fun hi0 => have hi := Nat.le_of_eq hi0.symm; ⟨vs, h, by rw [← rs.length]; exact hi⟩⟩
  obtain ⟨v, hv, rv⟩ := rs.get (List.getElem?_eq_getElem hi)
  refine ⟨⟨vs, v, h, hv⟩, fun x H2 ⟨e2, hx⟩ => ?_⟩
  subst e2
  have hxv := hx vs h
  rw [hv] at hxv; cases hxv
  exact ⟨F1, .refl, s, _, List.getElem?_eq_getElem hi, rv⟩
def zipP : List PV → List PV → List PV
  | x :: xs, y :: ys => .tup [x, y] :: zipP xs ys
  | _, _ => []
theorem zipP_len : ∀ xs ys : List PV, (zipP xs ys).length = min xs.length ys.length
  | [], ys => by simp [zipP]
  | _ :: _, [] => by simp [zipP]
  | x :: xs, y :: ys => by simp only [zipP, List.length_cons, zipP_len xs ys]; omega
theorem zipP_get : ∀ (xs ys : List PV) (i : Nat) (x y : PV), xs[i]? = some x → ys[i]? = some y → (zipP xs ys)[i]? = some (.tup [x, y])
  | [], _, _, _, _, h, _ => by simp at h
  | _ :: _, [], _, _, _, _, h => by simp at h
  | a :: xs, b :: ys, 0, x, y, h, h' => by simp at h h'; subst h; subst h'; simp [zipP]
  | a :: xs, b :: ys, i + 1, x, y, h, h' => by simp only [zipP, List.getElem?_cons_succ] at h h' ⊢; exact zipP_get xs ys i x y h h'
theorem pair_new {S1 : Sto} {F1 : Hp} {c1 : List Addr} {H1 : Hp} {T : Addr} {x y : V} {dx dy : PV} (s : SR K F1 c1 S1 H1) (n : H1 T = none) (rx : Rp K F1 c1 dx x) (ry : Rp K F1 c1 dy y) :
    ∃ F2, Later F1 c1 H1 F2 c1 (upd H1 T (.tup [x, y])) ∧ SR K F2 c1 S1 (upd H1 T (.tup [x, y])) ∧ Rp K F2 c1 (.tup [dx, dy]) (.ref T) := by
  obtain ⟨s2, l2⟩ := s.laid (o := .tup [x, y]) n
  exact ⟨_, l2, s2, .tup (.inl rd_new) (by show 2 ≤ sizeLine; decide) (l2.rps (.cons rx (.cons ry .nil)))⟩
def enumP : Nat → List PV → List PV
  | _, [] => []
  | n, x :: xs => .tup [.int n, x] :: enumP (n + 1) xs
def rangeP (lo : Int) : Nat → List PV
  | 0 => []
  | n + 1 => .int lo :: rangeP (lo + 1) n
theorem rangeP_len : ∀ (n : Nat) (lo : Int), (rangeP lo n).length = n
  | 0, _ => rfl
  | n + 1, lo => by simp [rangeP, rangeP_len n]
theorem rangeP_get : ∀ (n : Nat) (lo : Int) (i : Nat), i < n → (rangeP lo n)[i]? = some (.int (lo + i))
  | 0, _, _, h => by omega
  | n + 1, lo, 0, _ => by simp [rangeP]
  | n + 1, lo, i + 1, h => by
    simp only [rangeP, List.getElem?_cons_succ]
    rw [rangeP_get n (lo + 1) i (by omega)]
    congr 2
    omega
theorem wk_range {lo : Int} {n : Nat} : Wk K F ci none (rangeP lo n) (Itr lo n) := fun i F1 c1 S1 H1 e p s w => by
  rw [rangeP_len]
  refine ⟨fun hi => ⟨hi, fun x H2 ⟨e2, hx⟩ => ?_⟩, fun hi => Nat.le_of_eq hi.symm⟩
  subst e2 hx
  exact ⟨F1, .refl, s, _, rangeP_get n lo i hi, .int _⟩
end

/-! ### the iterators -/
/-- the items of a list or a tuple -/
def itemsOf (d : PV) (S : Sto) : Res (Option Nat × List PV) := match d with
  | .tup xs => .ok (none, xs) S
  | .lst xs => .ok (none, xs) S
  | .ro xs => .ok (none, xs) S
  | .cell n => match S[n]? with
    | some (.lst xs) => .ok (some n, xs) S
    | _ => .stuck
  | _ => .stuck
def seqI (f : ExprD) : IterD := fun env S => (f env S).bind itemsOf
/-- a list or a tuple that is not a mutable one: is it a tuple, its items -/
def frozen : PV → Option (Bool × List PV)
  | .tup xs => some (true, xs)
  | .lst xs => some (false, xs)
  | .ro xs => some (false, xs)
  | _ => none
def zipI (a b : ExprD) : IterD := fun env S => (a env S).bind fun x S1 => (b env S1).bind fun y S2 => match frozen x, frozen y with
  | some (t, xs), some (u, ys) => if t = u then .ok (none, zipP xs ys) S2 else .stuck
  | _, _ => .stuck
def enumI (a : ExprD) : IterD := fun env S => (a env S).bind fun x S1 => match frozen x with
  | some (false, xs) => .ok (none, enumP 0 xs) S1
  | _ => .stuck
def revI (a : ExprD) : IterD := fun env S => (a env S).bind fun x S1 => match frozen x with
  | some (_, xs) => .ok (none, xs.reverse) S1
  | _ => .stuck
def smallI (i : Int) : Prop := -8000000 ≤ i ∧ i ≤ 8000000
instance (i : Int) : Decidable (smallI i) := by unfold smallI; infer_instance
def range1I (a : ExprD) : IterD := fun env S => (a env S).bind fun x S1 => match x with
  | .int j => if smallI j then .ok (none, rangeP 0 j.toNat) S1 else .stuck
  | _ => .stuck
def range2I (a b : ExprD) : IterD := fun env S => (a env S).bind fun x S1 => (b env S1).bind fun y S2 => match x, y with
  | .int i, .int j => if smallI i ∧ smallI j then .ok (none, rangeP i (j - i).toNat) S2 else .stuck
  | _, _ => .stuck
section
variable {K : PySem.W.Frag} {F : Hp} {ci : List Addr} {S : Sto} {H : Hp}
theorem lat_lst {a : Addr} {ds : List PV} {vs : List V} (e : F a = some (.lst vs)) (rs : Rps K F ci ds vs) : LAt K F ci none ds a := ⟨fun F1 c1 S1 H1 x p s _ => ⟨vs, .inl (.inl (s.le _ _ (x _ _ e))), rs.mono x p⟩⟩
theorem lat_ro {a : Addr} {ds : List PV} {vs : List V} (e : SqL K F a vs) (rs : Rps K F ci ds vs) : LAt K F ci none ds a := ⟨fun F1 c1 S1 H1 x p s _ => ⟨vs, s.sqL (x.sqL e), rs.mono x p⟩⟩
theorem tat_tup {a : Addr} {ds : List PV} {vs : List V} (e : SqT K F a vs) (rs : Rps K F ci ds vs) : TAt K F ci ds a := ⟨fun F1 c1 S1 H1 x p s => ⟨vs, s.sqT (x.sqT e), rs.mono x p⟩⟩
theorem lat_cell {a : Addr} {n : Nat} {ds : List PV} (e : ci[n]? = some a) : LAt K F ci (some n) ds a := ⟨fun F1 c1 S1 H1 x p s w => by
  obtain ⟨b, vs, e1, _, e3, _, rs⟩ := s.cel n ds w
  rw [pre_get p e] at e1; cases e1
  exact ⟨vs, .inl (.inl e3), rs⟩⟩
/-- a list or a tuple at an address, to be walked -/
theorem at_frozen {d : PV} {v : V} {t : Bool} {xs : List PV} (s : SR K F ci S H) (r : Rp K F ci d v) (h : frozen d = some (t, xs)) : xs.length ≤ sizeLine ∧ ∃ a, v = .ref a ∧ ((t = true ∧ TAt K F ci xs a ∧ ∃ vs, SqT K H a vs ∧ Rps K F ci xs vs) ∨ (t = false ∧ LAt K F ci none xs a ∧ ∃ vs, SqL K H a vs ∧ Rps K F ci xs vs)) := by
  cases r with
  | tup e z rs => cases h; exact ⟨z, _, rfl, .inl ⟨rfl, tat_tup e rs, _, s.sqT e, rs⟩⟩
  | lst e z rs => cases h; exact ⟨z, _, rfl, .inr ⟨rfl, lat_lst e rs, _, .inl (.inl (s.le _ _ e)), rs⟩⟩
  | ro e z rs => cases h; exact ⟨z, _, rfl, .inr ⟨rfl, lat_ro e rs, _, s.sqL e, rs⟩⟩
  | _ => cases h
end
section
variable {X : Cx} {W : WX} {tg e e2 : Expr} {p pos : Pos} {f fa fb : ExprD}
theorem pi_seq {te : TE} (he : PE X e te) : PI X tg e (fun σ H R => te σ H fun x H1 => ∃ a, x = .ref a ∧ ((∃ xs, SqL X.K H1 a xs ∧ R (Itl X.K a) H1) ∨ (∃ xs, SqT X.K H1 a xs ∧ R (Itt X.K a) H1))) := by
  refine ⟨fun pins s σ H R I h => ?_⟩
  refine thn (he.run pins s σ H _ I h) fun v s1 ⟨x, H1, I1, r1, q1⟩ => ?_
  obtain ⟨a, e, q⟩ := q1
  subst e
  cases r1
  rcases q with ⟨xs, hq, q⟩ | ⟨xs, hq, q⟩
  · obtain ⟨its, rv, p, hz⟩ := I1.list hq
    refine wpAny_pyIter_list p.isList ?_
    refine ⟨s1.heap.objs.size, [s1.heap.objs.size], _, _, H1, rfl, I1.kept (t' := s1.toks) fun b o e => Heap.get?_push_of_some _ e, turn_list a _, ⟨_, Heap.get?_push_size _ rfl, rfl, rfl⟩, fun b hb => ?_, q⟩
    have e : b = s1.heap.objs.size := by simpa using hb
    subst e
    exact I1.fpOk (Nat.le_refl _) (I1.hok.fresh (Nat.le_refl _))
  · obtain ⟨its, rv, p, hz⟩ := I1.tuple hq
    refine wpAny_pyIter_tuple (show s1.heap.IsTuple a its.toArray from p) ?_
    refine ⟨s1.heap.objs.size, [s1.heap.objs.size], _, _, H1, rfl, I1.kept (t' := s1.toks) fun b o e => Heap.get?_push_of_some _ e, turn_tuple a _, ⟨_, Heap.get?_push_size _ rfl, rfl, rfl⟩, fun b hb => ?_, q⟩
    have e : b = s1.heap.objs.size := by simpa using hb
    subst e
    exact I1.fpOk (Nat.le_refl _) (I1.hok.fresh (Nat.le_refl _))
theorem di_seq (he : PE X e (tE X.K X.mg W f)) : PI X tg e (tI X.K X.mg W (seqI f)) := (pi_seq he).imp fun σ H R h => by
  obtain ⟨env, F, ci, S, sr, er, h⟩ := h
  refine ⟨env, F, ci, S, sr, er, (Out.bind h).imp fun d F1 c1 S1 H1 l1 s1 h1 v r => ?_⟩
  cases r with
  | tup e z rs => exact ⟨_, rfl, .inr ⟨_, s1.sqT e, (Out.here (d := ((none : Option Nat), _)) h1 s1) _ (wk_tup (tat_tup e rs)) z⟩⟩
  | lst e z rs => exact ⟨_, rfl, .inl ⟨_, .inl (.inl (s1.le _ _ e)), (Out.here (d := ((none : Option Nat), _)) h1 s1) _ (wk_list (lat_lst e rs)) z⟩⟩
  | ro e z rs => exact ⟨_, rfl, .inl ⟨_, s1.sqL e, (Out.here (d := ((none : Option Nat), _)) h1 s1) _ (wk_list (lat_ro e rs)) z⟩⟩
  | @cell a n e =>
    have h1' : Out X.K (Zf X.K X.mg (WE W σ)) F1 c1 H1 (match S1[n]? with | some (.lst xs) => .ok (some n, xs) S1 | _ => .stuck) fun p F' ci' S' H' => ∀ J, Wk X.K F' ci' p.1 p.2 J → p.2.length ≤ sizeLine → R J H' := h1
    split at h1'
    · rename_i xs q
      obtain ⟨b, vs, e1, _, e3, z, rs⟩ := s1.cel n xs q
      rw [e] at e1; cases e1
      exact ⟨_, rfl, .inl ⟨_, .inl (.inl e3), (Out.here (d := (some n, xs)) h1' s1) _ (wk_list (lat_cell e)) z.1⟩⟩
    · exact h1'.elim
  | _ => exact h1.elim
theorem args2 {K : PySem.W.Frag} {mg : Str → Option Value} {σ : St} {H : Hp} {env : PEnv} {F : Hp} {ci : List Addr} {S : Sto} {α : Type} {g : PV → PV → Sto → Res α} {P : α → Hp → List Addr → Sto → Hp → Prop} {Q : List V → Hp → Prop} (sr : SR K F ci S H) (er : ER K F ci env σ)
    (h : Out K (Zf K mg (WE W σ)) F ci H ((fa env S).bind fun x S1 => (fb env S1).bind fun y S2 => g x y S2) P)
    (hq : ∀ F2 c2 S2 H2 x y dx dy, Later F ci H F2 c2 H2 → SR K F2 c2 S2 H2 → Rp K F2 c2 dx x → Rp K F2 c2 dy y → Out K (Zf K mg (WE W σ)) F2 c2 H2 (g dx dy S2) P → Q [x, y] H2) :
    tCons (tE K mg W fa) (tCons (tE K mg W fb) tNil) σ H Q := by
  refine ⟨env, F, ci, S, sr, er, (Out.bind h).imp fun dx F1 c1 S1 H1 l1 s1 h1 v1 r1 => ⟨env, F1, c1, S1, s1, er.later l1, (Out.bind h1).imp fun dy F2 c2 S2 H2 l2 s2 h2 v2 r2 => ?_⟩⟩
  exact hq F2 c2 S2 H2 v1 v2 dx dy (l1.trans l2) s2 (l2.rp r1) r2 h2
theorem args1 {K : PySem.W.Frag} {mg : Str → Option Value} {σ : St} {H : Hp} {env : PEnv} {F : Hp} {ci : List Addr} {S : Sto} {α : Type} {g : PV → Sto → Res α} {P : α → Hp → List Addr → Sto → Hp → Prop} {Q : List V → Hp → Prop} (sr : SR K F ci S H) (er : ER K F ci env σ)
    (h : Out K (Zf K mg (WE W σ)) F ci H ((fa env S).bind fun x S1 => g x S1) P)
    (hq : ∀ F2 c2 S2 H2 x dx, Later F ci H F2 c2 H2 → SR K F2 c2 S2 H2 → Rp K F2 c2 dx x → Out K (Zf K mg (WE W σ)) F2 c2 H2 (g dx S2) P → Q [x] H2) :
    tCons (tE K mg W fa) tNil σ H Q := by
  refine ⟨env, F, ci, S, sr, er, (Out.bind h).imp fun dx F1 c1 S1 H1 l1 s1 h1 v1 r1 => ?_⟩
  exact hq F1 c1 S1 H1 v1 dx l1 s1 r1 h1
theorem di_range1 (ha : PE X e (tE X.K X.mg W fa)) (hm : X.mg "range" = none) (hg : Gl X "range" := by rfl) (hs : starEach [e] X.env = [(false, eval e X.env)] := by rfl) (hs' : starEach [e] X.env = (false, eval e X.env) :: starEach [] X.env := by rfl) :
    PI X tg (.Call (.Name "range" p) [e] [] pos) (tI X.K X.mg W (range1I fa)) := (pi_range1 hg hm (pa_cons ha pa_nil hs') hs).imp fun σ H R h => by
  obtain ⟨env, F, ci, S, sr, er, h⟩ := h
  refine args1 (g := fun x S1 => match x with | .int j => if smallI j then .ok (none, rangeP 0 j.toNat) S1 else .stuck | _ => .stuck) sr er h fun F2 c2 S2 H2 x dx l2 s2 rx h2 => ?_
  split at h2
  · rename_i j
    split at h2
    · rename_i hj
      cases rx
      have h1 := hj.1
      have h3 := hj.2
      exact ⟨j, rfl, by omega, by omega, (Out.here (d := ((none : Option Nat), _)) h2 s2) _ wk_range (by rw [rangeP_len, sizeLine_eq]; omega)⟩
    · exact h2.elim
  · exact h2.elim
end

/-! ### for -/
noncomputable def forL (o : Option Nat) (ds : List PV) (t : Tg) (b : StmtD) : List PV → StmtD
  | [], env, S => guardW o ds S (.ok (.nx env) S)
  | d :: r, env, S => guardW o ds S (match t.bind S d env with
    | none => .stuck
    | some env1 => match b env1 S with
      | .ok (.nx env2) S2 => forL o ds t b r env2 S2
      | .ok (.ct env2) S2 => forL o ds t b r env2 S2
      | .ok (.bk env2) S2 => .ok (.nx env2) S2
      | q => q)
def runI (r : Res (Option Nat × List PV)) (env : PEnv) (g : Option Nat × List PV → Sto → Res Flow) : Res Flow := match r with
  | .ok d S => g d S
  | .exc x S => .ok (.ex x env) S
  | .stuck => .stuck
noncomputable def forS (it : IterD) (t : Tg) (b : StmtD) : StmtD := fun env S => runI (it env S) env fun p S1 => forL p.1 p.2 t b p.2 env S1
section
variable {X : Cx} {W : WX} {tg iter : Expr} {body : List Stmt} {pos : Pos} {it : IterD} {t : Tg} {b : StmtD}
theorem runI_out {K : PySem.W.Frag} {mg : Str → Option Value} {F : Hp} {ci : List Addr} {H : Hp} {D : Ends} {r : Res (Option Nat × List PV)} {env : PEnv} {g : Option Nat × List PV → Sto → Res Flow} {σ : St} (er : ER K F ci env σ)
    (h : Out K (fun _ _ _ _ _ => False) F ci H (runI r env g) (SW K mg W D)) : Out K (Zf K mg (WE W σ)) F ci H r fun d F1 c1 S1 H1 => Out K (fun _ _ _ _ _ => False) F1 c1 H1 (g d S1) (SW K mg W D) := by
  cases r with
  | ok d S' => exact fun F1 c1 H1 l1 s1 => Out.later h l1
  | exc x S' => exact fun F1 c1 H1 l1 s1 cls d xr => h F1 c1 H1 l1 s1 σ (er.later l1) cls d xr
  | stuck => exact h
theorem ds_for (hp : PassesOwn (model X.prog X.w) X.A X.env X.xe) (hi : PI X tg iter (tI X.K X.mg W it)) (hg : PG X tg (gD X.K t)) (hb : PSs X body (tSX X W b)) (hc : X.calm = true := by rfl)
    (hs : ∀ x, foldedSetIterable iter X.env x = pure x := by intro _; rfl) : PS X (.For tg iter body [] pos) (tSX X W (forS it t b)) := (ps_for hp hc hi hg hb hs).imp fun D σ H h => by
  obtain ⟨env, F, ci, S, sr, er, h⟩ := h
  refine ⟨env, F, ci, S, sr, er, (runI_out er h).imp fun p F1 c1 S1 H1 l1 s1 h1 J wk _ => ?_⟩
  obtain ⟨o, ds⟩ := p
  refine ⟨fun i m σ H => m = ds.length - i ∧ i ≤ ds.length ∧ ∃ env F2 c2 S2, Ext F1 F2 ∧ c1 <+: c2 ∧ SR X.K F2 c2 S2 H ∧ ER X.K F2 c2 env σ ∧ Out X.K (fun _ _ _ _ _ => False) F2 c2 H (forL o ds t b (ds.drop i) env S2) (SW X.K X.mg W D),
    ⟨ds.length, by simp, Nat.zero_le _, env, F1, c1, S1, .refl _, List.prefix_refl _, s1, er.later l1, h1⟩, ?_⟩
  rintro i m σ H ⟨rfl, hi, env, F2, c2, S2, x2, p2, s2, er2, h2⟩
  by_cases hlt : i < ds.length
  · rw [List.drop_eq_getElem_cons hlt] at h2
    unfold forL at h2
    obtain ⟨wo, h2⟩ := h2.guard
    obtain ⟨q1, q2⟩ := (wk i F2 c2 S2 H x2 p2 s2 wo).1 hlt
    refine .inr ⟨q1, fun σ' H' => i + 1 ≤ ds.length ∧ ∃ env F2 c2 S2, Ext F1 F2 ∧ c1 <+: c2 ∧ SR X.K F2 c2 S2 H' ∧ ER X.K F2 c2 env σ' ∧ Out X.K (fun _ _ _ _ _ => False) F2 c2 H' (forL o ds t b (ds.drop (i + 1)) env S2) (SW X.K X.mg W D),
      fun σ' H' z => ⟨ds.length - (i + 1), by omega, rfl, z.1, z.2⟩, fun x H' y => ?_⟩
    obtain ⟨F3, l3, s3, d, hd, rd⟩ := q2 x H' y
    have e : d = ds[i] := by rw [List.getElem?_eq_getElem hlt] at hd; exact (Option.some.inj hd).symm
    subst e
    split at h2
    · exact h2.elim
    · rename_i env1 eb
      refine ⟨env, F3, c2, S2, _, s3, er2.later l3, rd, env1, eb, fun σ4 er4 _ => ?_⟩
      refine ⟨env1, F3, c2, S2, s3, er4, ?_⟩
      have h3 := Out.later h2 l3
      cases hq : b env1 S2 with
      | ok fl S4 =>
        rw [hq] at h3
        cases fl with
        | nx e' => exact fun F5 c5 H5 l5 s5 σ5 er5 => ⟨hlt, e', F5, c5, S4, (x2.trans l3.ext).trans l5.ext, p2.trans (l3.pre.trans l5.pre), s5, er5, Out.later h3 l5⟩
        | ct e' => exact fun F5 c5 H5 l5 s5 σ5 er5 => ⟨hlt, e', F5, c5, S4, (x2.trans l3.ext).trans l5.ext, p2.trans (l3.pre.trans l5.pre), s5, er5, Out.later h3 l5⟩
        | bk e' => exact h3
        | rt d => exact h3
        | ex y e' => exact h3
      | exc y S4 => rw [hq] at h3; exact h3
      | stuck => rw [hq] at h3; exact h3
  · have e : i = ds.length := by omega
    subst e
    rw [List.drop_length] at h2
    unfold forL at h2
    obtain ⟨wo, h2⟩ := h2.guard
    exact .inl ⟨(wk ds.length F2 c2 S2 H x2 p2 s2 wo).2 rfl, h2.here s2 σ er2⟩
end

/-! ### list comprehensions -/
def nox {α : Type} : Res α → Res α
  | .ok d S => .ok d S
  | _ => .stuck
def wipeE (env : PEnv) : List Nat → PEnv
  | [] => env
  | v :: vs => (wipeE env vs).set v none
noncomputable def compL (o : Option Nat) (ds : List PV) (t : Tg) (tst : TestD) (el : ExprD) (env0 : PEnv) : List PV → List PV → Sto → Res PV
  | [], acc, S => guardW o ds S (.ok (.lst acc) S)
  | d :: r, acc, S => guardW o ds S (match t.bind S d env0 with
    | none => .stuck
    | some env1 => (nox (tst env1 S)).bind fun b S1 => if b = true then (nox (el env1 S1)).bind fun y S2 => compL o ds t tst el env0 r (acc ++ [y]) S2 else compL o ds t tst el env0 r acc S1)
noncomputable def compE (it : IterD) (t : Tg) (ws : List Nat) (tst : TestD) (el : ExprD) : ExprD := fun env S => (it env S).bind fun p S1 => compL p.1 p.2 t tst el (wipeE env ws) p.2 [] S1
def yesT : TestD := fun _ S => .ok true S
theorem er_wipe {K : PySem.W.Frag} {F : Hp} {ci : List Addr} {env : PEnv} {σ : St} (er : ER K F ci env σ) : ∀ ws : List Nat, ER K F ci (wipeE env ws) (wipe σ ws)
  | [] => er
  | v :: vs => by unfold wipe wipeE; exact (er_wipe er vs).unset v
theorem Out.nox {α : Type} {K : PySem.W.Frag} {Z Z' : Exc → Hp → List Addr → Sto → Hp → Prop} {F : Hp} {ci : List Addr} {H : Hp} {r : Res α} {P : α → Hp → List Addr → Sto → Hp → Prop} (h : Out K Z F ci H (LH.nox r) P) : Out K Z' F ci H r P := by
  cases r with
  | ok d S => exact h
  | exc x S => exact h.elim
  | stuck => exact h
theorem wipe_sub (σ : St) (ws : List Nat) : ∀ us : List Nat, (∀ i ∈ us, i ∈ ws) → wipe (wipe σ us) ws = wipe σ ws
  | [], _ => rfl
  | v :: vs, h => by
    show wipe ((wipe σ vs).set v none) ws = _
    rw [wipe_set_in ws _ v none (h v List.mem_cons_self), wipe_sub σ ws vs fun i hi => h i (List.mem_cons_of_mem _ hi)]
abbrev W0 : WX := fun _ _ _ _ => False
section
variable {X : Cx} {W : WX} {elt tg iter : Expr} {ifs : List Expr} {scope : Scope} {own : List (Str × Nat)} {pos : Pos} {it : IterD} {t : Tg} {tst : TestD} {el : ExprD}
theorem PTs.imp {ifs : List Expr} {t t' : TT} (h : PTs X ifs t) (i : ∀ σ H Q, t' σ H Q → t σ H Q) : PTs X ifs t' := ⟨fun pins s σ H Q I q => h.run pins s σ H Q I (i σ H Q q)⟩
theorem dts_nil : PTs X [] (tT X.K X.mg W0 yesT) := PTs.imp pts_nil fun σ H Q h => by
  obtain ⟨env, F, ci, S, sr, er, h⟩ := h
  exact h.here sr
theorem dts_one {c : Expr} (h : PT X c (tT X.K X.mg W0 tst)) : PTs X [c] (tT X.K X.mg W0 tst) := pts_one h
theorem lc_readG {K : PySem.W.Frag} {mg : Str → Option Value} {ws : List Nat} (hsl : ∀ i ∈ t.slots, i ∈ ws) (σ : St) (H : Hp) (Q : VK) (P : PV → Hp → List Addr → Sto → Hp → Prop)
    (h : ∃ env F ci S, SR K F ci S H ∧ ER K F ci env σ ∧ Out K (Zf K mg (WE W σ)) F ci H (compE it t ws tst el env S) P)
    (fin : ∀ F1 c1 H1 F2 c2 S2 H acc vs D, H1 D = none → Later F1 c1 H1 F2 c2 H → SR K F2 c2 S2 H → F2 D = none → D ∉ c2 → H D = some (.lst vs) → Rps K F2 c2 acc vs → acc.length ≤ sizeLine → Out K (Zf K mg (WE W σ)) F1 c1 H1 (.ok (.lst acc) S2) P → Q (.ref D) H) :
    tLc (tI K mg W it) (gD K t) (tT K mg W0 tst) (tE K mg W0 el) ws σ H Q := by
  obtain ⟨env, F, ci, S, sr, er, h⟩ := h
  refine ⟨env, F, ci, S, sr, er, (Out.bind h).imp fun p F1 c1 S1 H1 l1 s1 h1 J wk hz D hD => ?_⟩
  obtain ⟨o, ds⟩ := p
  have hDF : F1 D = none := s1.free hD
  have hDc : D ∉ c1 := s1.notIn hD
  -- D is no part of what is frozen or mutable
  have er1 : ER K F1 c1 (wipeE env ws) (wipe σ ws) := er_wipe (er.later l1) ws
  have step : ∀ {F2 : Hp} {c2 : List Addr} {S2 : Sto} {H2 : Hp} {o : HO}, SR K F2 c2 S2 H2 → F2 D = none → D ∉ c2 → (∀ b, H2 D ≠ some (.own b)) → SR K F2 c2 S2 (upd H2 D o) := fun {F2 c2 S2 H2 o} s f c hw => by
    refine ⟨fun a u q => ?_, s.len, s.nd, fun a ha => ?_, fun n xs e => ?_, fun n u e => by
      obtain ⟨a, e1, e2, e3⟩ := s.kel n u e
      have : a ≠ D := fun z => c (z ▸ List.mem_of_getElem? e1)
      exact ⟨a, e1, e2, by rw [upd_ne this]; exact e3⟩, fun n two g xs e => by
      obtain ⟨a, e1, hg⟩ := s.gel n two g xs e
      have : a ≠ D := fun z => c (z ▸ List.mem_of_getElem? e1)
      exact ⟨a, e1, hg.upd this hw⟩⟩
    · rw [upd_ne (fun z => by subst z; rw [f] at q; cases q)]; exact s.le a u q
    · have : a ≠ D := fun z => c (z ▸ ha)
      rw [upd_ne this]; exact s.there a ha
    · obtain ⟨a, vs, e1, e2, e3, z, e4⟩ := s.cel n xs e
      have : a ≠ D := fun z => c (z ▸ List.mem_of_getElem? e1)
      exact ⟨a, vs, e1, e2, by rw [upd_ne this]; exact e3, z, e4⟩
  have lstep : ∀ {F2 : Hp} {c2 : List Addr} {H2 : Hp} {u : HO}, Later F1 c1 H1 F2 c2 H2 → Later F1 c1 H1 F2 c2 (upd H2 D u) := fun {F2 c2 H2 u} l => ⟨l.ext, l.pre, fun a q h1 h2 => by rw [upd_ne (ne_of_none h1 hD)]; exact l.keep a q h1 h2, l.new, l.fz⟩
  refine ⟨fun i m H => m = ds.length - i ∧ i ≤ ds.length ∧ ∃ F2 c2 S2 acc vs, Later F1 c1 H1 F2 c2 H ∧ SR K F2 c2 S2 H ∧ F2 D = none ∧ D ∉ c2 ∧ H D = some (.lst vs) ∧ Rps K F2 c2 acc vs ∧ acc.length ≤ i ∧
      Out K (Zf K mg (WE W σ)) F1 c1 H1 (compL o ds t tst el (wipeE env ws) (ds.drop i) acc S2) P,
      ⟨ds.length, by simp, Nat.zero_le _, F1, c1, S1, [], [], lstep .refl, step s1 hDF hDc (fun b q => by rw [hD] at q; cases q), hDF, hDc, upd_same, .nil, Nat.le_refl _, h1⟩, ?_⟩
  rintro i m H ⟨rfl, hi, F2, c2, S2, acc, vs, l2, s2, f2, n2, e2, rs2, hacc, h2⟩
  by_cases hlt : i < ds.length
  · rw [List.drop_eq_getElem_cons hlt] at h2
    unfold compL at h2
    obtain ⟨wo, h2⟩ := h2.guard
    obtain ⟨q1, q2⟩ := (wk i F2 c2 S2 H l2.ext l2.pre s2 wo).1 hlt
    refine .inr ⟨q1, fun H' => i + 1 ≤ ds.length ∧ ∃ F2 c2 S2 acc vs, Later F1 c1 H1 F2 c2 H' ∧ SR K F2 c2 S2 H' ∧ F2 D = none ∧ D ∉ c2 ∧ H' D = some (.lst vs) ∧ Rps K F2 c2 acc vs ∧ acc.length ≤ i + 1 ∧
      Out K (Zf K mg (WE W σ)) F1 c1 H1 (compL o ds t tst el (wipeE env ws) (ds.drop (i + 1)) acc S2) P,
      fun H' z => ⟨ds.length - (i + 1), by omega, rfl, z.1, z.2⟩, fun x H' y => ?_⟩
    obtain ⟨F3, l3, s3, d, hd, rd⟩ := q2 x H' y
    have e : d = ds[i] := by rw [List.getElem?_eq_getElem hlt] at hd; exact (Option.some.inj hd).symm
    subst e
    -- D stays as it is
    have stay : ∀ {F4 : Hp} {c4 : List Addr} {H4 : Hp}, Later F2 c2 H F4 c4 H4 → F4 D = none ∧ D ∉ c4 ∧ H4 D = some (.lst vs) := fun {F4 c4 H4} l => by
      refine ⟨?_, fun hm => ?_, l.keep D _ e2 n2⟩
      · cases q : F4 D with
        | none => rfl
        | some u =>
          rcases l.fz D u q with z | z | z
          · rw [f2] at z; cases z
          · exact absurd z n2
          · rw [e2] at z; cases z
      · have z := l.new D hm n2
        rw [e2] at z; cases z
    split at h2
    · exact h2.elim
    · rename_i env1 eb
      refine ⟨wipeE env ws, F3, c2, S2, _, s3, (er1.later l2).later l3, rd, env1, eb, fun σ4 er4 ho => ⟨(ho ws hsl).trans (wipe_sub σ ws ws fun _ h => h), ?_⟩⟩
      refine ⟨env1, F3, c2, S2, s3, er4, ?_⟩
      cases ht : tst env1 S2 with
      | exc y S4 => rw [ht] at h2; exact h2.elim
      | stuck => rw [ht] at h2; exact h2
      | ok b S4 =>
        rw [ht] at h2
        have h2 : Out K (Zf K mg (WE W σ)) F1 c1 H1 (if b = true then (LH.nox (el env1 S4)).bind fun y S2 => compL o ds t tst el (wipeE env ws) (ds.drop (i + 1)) (acc ++ [y]) S2 else compL o ds t tst el (wipeE env ws) (ds.drop (i + 1)) acc S4) P := h2
        intro F4 c4 H4 l4 s4
        have l24 := l3.trans l4
        cases b with
        | false =>
          obtain ⟨z1, z2, z3⟩ := stay l24
          refine L2.iteF ?_
          exact ⟨hlt, F4, c4, S4, acc, vs, l2.trans l24, s4, z1, z2, z3, l24.rps rs2, Nat.le_succ_of_le hacc, h2⟩
        | true =>
          rw [if_pos rfl] at h2
          refine L2.iteT ?_
          refine ⟨env1, F4, c4, S4, s4, er4.later l4, ?_⟩
          cases he : el env1 S4 with
          | exc y S5 => rw [he] at h2; exact h2.elim
          | stuck => rw [he] at h2; exact h2
          | ok y S5 =>
            rw [he] at h2
            have h2 : Out K (Zf K mg (WE W σ)) F1 c1 H1 (compL o ds t tst el (wipeE env ws) (ds.drop (i + 1)) (acc ++ [y]) S5) P := h2
            intro F5 c5 H5 l5 s5 v5 r5
            have l25 := l24.trans l5
            obtain ⟨z1, z2, z3⟩ := stay l25
            have hle : ds.length ≤ sizeLine := hz
            refine ⟨vs, z3, ?_, ?_⟩
            · have := rs2.length; omega
            · exact ⟨hlt, F5, c5, S5, acc ++ [y], vs ++ [v5], lstep (l2.trans l25), step s5 z1 z2 (fun b q => by rw [z3] at q; cases q), z1, z2, upd_same, (l25.rps rs2).append (.cons r5 .nil), by rw [List.length_append]; exact Nat.succ_le_succ hacc, h2⟩
  · have e : i = ds.length := by omega
    subst e
    rw [List.drop_length] at h2
    unfold compL at h2
    obtain ⟨wo, h2⟩ := h2.guard
    refine .inl ⟨(wk ds.length F2 c2 S2 H l2.ext l2.pre s2 wo).2 rfl, ?_⟩
    exact fin _ _ _ _ _ _ _ _ _ _ hD l2 s2 f2 n2 e2 rs2 (Nat.le_trans hacc hz) h2
theorem lc_read {K : PySem.W.Frag} {mg : Str → Option Value} {ws : List Nat} (hsl : ∀ i ∈ t.slots, i ∈ ws) (σ : St) (H : Hp) (Q : VK) (h : tE K mg W (compE it t ws tst el) σ H Q) : tLc (tI K mg W it) (gD K t) (tT K mg W0 tst) (tE K mg W0 el) ws σ H Q := by
  refine lc_readG hsl σ H Q _ h fun F1 c1 H1 F2 c2 S2 H acc vs D hD l2 s2 f2 n2 e2 rs2 hz h2 => ?_
  have sF : SR K (upd F2 D (.lst vs)) c2 S2 H := ⟨fun a u q => by
    by_cases ha : a = D
    · subst ha; rw [upd_same] at q; cases q; exact e2
    · rw [upd_ne ha] at q; exact s2.le a u q, s2.len, s2.nd, s2.there, fun n xs q => by
    obtain ⟨a, ws', e1, e3, e4, z, e5⟩ := s2.cel n xs q
    have ha : a ≠ D := fun z => n2 (z ▸ List.mem_of_getElem? e1)
    exact ⟨a, ws', e1, by rw [upd_ne ha]; exact e3, e4, z, e5.mono (ext_new f2) (List.prefix_refl _)⟩, fun n u q => by
    obtain ⟨a, e1, e3, e4⟩ := s2.kel n u q
    have ha : a ≠ D := fun z => n2 (z ▸ List.mem_of_getElem? e1)
    exact ⟨a, e1, by rw [upd_ne ha]; exact e3, e4⟩, fun n two g xs q => by
    obtain ⟨a, e1, hg⟩ := s2.gel n two g xs q
    have ha : a ≠ D := fun z => n2 (z ▸ List.mem_of_getElem? e1)
    exact ⟨a, e1, hg.frz ha f2 (fun b q => by rw [e2] at q; cases q)⟩⟩
  have lF : Later F1 c1 H1 (upd F2 D (.lst vs)) c2 H := ⟨l2.ext.trans (ext_new f2), l2.pre, l2.keep, l2.new, fun a u q => by
    by_cases ha : a = D
    · subst ha; exact .inr (.inr hD)
    · rw [upd_ne ha] at q; exact l2.fz a u q⟩
  exact h2 _ _ _ lF sF _ (.lst upd_same hz (rs2.mono (ext_new f2) (List.prefix_refl _)))
/-- a fresh list made a mutable one -/
def cellOf (d : PV) (S : Sto) : Res PV := match d with
  | .lst xs => if bels 0 xs = true then .ok (.cell S.length) (S ++ [.lst xs]) else .stuck
  | _ => .stuck
noncomputable def compCE (it : IterD) (t : Tg) (ws : List Nat) (tst : TestD) (el : ExprD) : ExprD := fun env S => (compE it t ws tst el env S).bind cellOf
theorem de_lc (hN : X.N.Nodup) (hi : PI X tg iter (tI X.K X.mg W it)) (ok : blkC X.N X.env.scope scope own = true) (hsl : (t.slots.all fun i => (own.map (·.2)).contains i) = true)
    (hg : ∀ (s : Shared) (H : Hp) (C : Addr) (cl : List (Str × Addr)) (fp : List Addr), PG (X.blk s H scope (compEnvC scope cl C X.env) fp) tg (gD X.K t)) (ht : ∀ (s : Shared) (H : Hp) (C : Addr) (cl : List (Str × Addr)) (fp : List Addr), PTs (X.blk s H scope (compEnvC scope cl C X.env) fp) ifs (tT X.K X.mg W0 tst))
    (he : ∀ (s : Shared) (H : Hp) (C : Addr) (cl : List (Str × Addr)) (fp : List Addr), PE (X.blk s H scope (compEnvC scope cl C X.env) fp) elt (tE X.K X.mg W0 el)) (hc : X.calm = true := by rfl) (hs : ∀ x, foldedSetIterable iter X.env x = pure x := by intro _; rfl) :
    PE X (.ListComp elt [⟨tg, iter, ifs, 0⟩] scope pos) (tE X.K X.mg W (compE it t (own.map (·.2)) tst el)) := (pe_lc hc hN hi (blkOk_by ok) hg ht he hs).imp fun σ H Q h => lc_read (fun i hi => by simpa using List.all_eq_true.mp hsl i hi) σ H Q h
end
end LH

/-! LF: built-in functions, subscripts, slices, append. -/
namespace LH
open PySem PySem.Spec PyProof.Rows L2

/-! ### calls of built-ins -/
def bE (g : List PV → Sto → Res PV) (a : ArgsD) : ExprD := fun env S => (a env S).bind fun xs S1 => g xs S1
section
variable {X : Cx} {W : WX} {e : Expr} {es : List Expr} {x : Str} {id T : String} {p pos : Pos} {r : ArgsD} {g : List PV → Sto → Res PV}
theorem de_b (hc : ∀ σ, CallR X (.builtin id) (rL X.K X.mg (WE W σ) g)) (hm : X.mg x = none) (hv : bootBuiltins x = some (.builtin id)) (ha : PA X (e :: es) (tA X.K X.mg W r)) (hg : Gl X x := by rfl) (hn : x ≠ "__name__" := by decide) (hdb : (x == ("__debug__" : Str)) = false := by decide)
    (he : starEach (e :: es) X.env = (false, eval e X.env) :: starEach es X.env := by rfl) (hpl : (backTo pos (starEach es X.env)).any (·.1) = false := by rfl) : PE X (.Call (.Name x p) (e :: es) [] pos) (tE X.K X.mg W (bE g r)) := by
  refine ⟨fun pins s σ H Q I h => ?_⟩
  obtain ⟨env, F, ci, S, sr, er, h⟩ := h
  exact (pe_callB (hc σ) hg hm hv ha hn hdb he hpl).run pins s σ H Q I ⟨env, F, ci, S, sr, er, (Out.bind h).imp fun ds F1 c1 S1 H1 l1 s1 h1 vs rs => ⟨F1, c1, S1, ds, s1, rs, h1⟩⟩
theorem de_ty (hc : ∀ σ, CallR X (.type T) (rL X.K X.mg (WE W σ) g)) (hm : X.mg x = none) (hv : bootBuiltins x = some (.type T)) (ha : PA X (e :: es) (tA X.K X.mg W r)) (hg : Gl X x := by rfl) (hn : x ≠ "__name__" := by decide) (hdb : (x == ("__debug__" : Str)) = false := by decide)
    (he : starEach (e :: es) X.env = (false, eval e X.env) :: starEach es X.env := by rfl) (hpl : (backTo pos (starEach es X.env)).any (·.1) = false := by rfl) : PE X (.Call (.Name x p) (e :: es) [] pos) (tE X.K X.mg W (bE g r)) := by
  refine ⟨fun pins s σ H Q I h => ?_⟩
  obtain ⟨env, F, ci, S, sr, er, h⟩ := h
  exact (pe_callTy (hc σ) hg hm hv ha hn hdb he hpl).run pins s σ H Q I ⟨env, F, ci, S, sr, er, (Out.bind h).imp fun ds F1 c1 S1 H1 l1 s1 h1 vs rs => ⟨F1, c1, S1, ds, s1, rs, h1⟩⟩
/-- a built-in type as a value -/
theorem de_tyv {n : String} {x : Str} (hm : X.mg x = none) (hv : bootBuiltins x = some (.type n)) (hg : Gl X x := by rfl) (hn : x ≠ "__name__" := by decide) (hdb : (x == ("__debug__" : Str)) = false := by decide) : PE X (.Name x pos) (tE X.K X.mg W (cE (.ty n))) :=
  de_c (pe_bltn (v := .ty n) hg hm hv rfl hn hdb) fun _ _ => .ty n
/-- a module's constant that holds a text or an int -/
theorem de_gstr {x : Str} {z : Str} {u : Value} (hm : X.mg x = some u) (r : RelV (.str z) u) (hg : Gl X x := by rfl) (hdb : (x == ("__debug__" : Str)) = false := by decide) : PE X (.Name x pos) (tE X.K X.mg W (cE (.str z))) :=
  de_c (pe_glob (v := .str z) hg hm r hdb) fun _ _ => .str z
end
section
variable {K : PySem.W.Frag} {F : Hp} {ci : List Addr}
theorem rps1 {d : PV} {vs : List V} (r : Rps K F ci [d] vs) : ∃ v, vs = [v] ∧ Rp K F ci d v := by
  obtain ⟨v, ws, rfl, r1, r2⟩ := r.cons_inv
  rw [r2.nil_inv]
  exact ⟨v, rfl, r1⟩
theorem rps2 {d e : PV} {vs : List V} (r : Rps K F ci [d, e] vs) : ∃ v u, vs = [v, u] ∧ Rp K F ci d v ∧ Rp K F ci e u := by
  obtain ⟨v, ws, rfl, r1, r2⟩ := r.cons_inv
  obtain ⟨u, rfl, r3⟩ := rps1 r2
  exact ⟨v, u, rfl, r1, r3⟩
end
def lenB : List PV → Sto → Res PV := fun xs S => match xs with
  | [.str z] => if z.length ≤ sizeLine then .ok (.int z.length) S else .stuck
  | [d] => match seqOf S d with
    | some ys => .ok (.int ys.length) S
    | none => .stuck
  | _ => .stuck
def intB : List PV → Sto → Res PV := fun xs S => match xs with
  | [.int i] => .ok (.int i) S
  | [.bl b] => .ok (.int (if b then 1 else 0)) S
  | _ => .stuck
def absB : List PV → Sto → Res PV := fun xs S => match xs with
  | [.int i] => .ok (.int (if i < 0 then -i else i)) S
  | _ => .stuck
def boolB : List PV → Sto → Res PV := fun xs S => match xs with
  | [.int i] => .ok (.bl (i != 0)) S
  | [.bl b] => .ok (.bl b) S
  | _ => .stuck
/-- a list's ints -/
def asInts : List PV → Option (List Int)
  | [] => some []
  | .int i :: r => (asInts r).map (i :: ·)
  | _ :: _ => none
def asBools : List PV → Option (List Bool)
  | [] => some []
  | .bl i :: r => (asBools r).map (i :: ·)
  | _ :: _ => none
def maxL : List Int → Int
  | [] => 0
  | x :: xs => xs.foldl max x
def minL : List Int → Int
  | [] => 0
  | x :: xs => xs.foldl min x
theorem minL_is : ∀ (xs : List Int) (x m : Int), m ∈ x :: xs → (∀ y ∈ x :: xs, m ≤ y) → xs.foldl min x = m
  | [], x, m, h, _ => by simp at h; simp [h]
  | y :: ys, x, m, h, hle => by
    rw [List.foldl_cons]
    refine minL_is ys (min x y) m ?_ fun z hz => ?_
    · have hx := hle x (by simp)
      have hy := hle y (by simp)
      rcases List.mem_cons.mp h with e | h
      · have : min x y = m := by omega
        rw [this]; simp
      · rcases List.mem_cons.mp h with e | h
        · have : min x y = m := by omega
          rw [this]; simp
        · exact List.mem_cons_of_mem _ h
    · rcases List.mem_cons.mp hz with e | hz
      · have hx := hle x (by simp)
        have hy := hle y (by simp)
        omega
      · exact hle z (by simp [hz])
def maxB : List PV → Sto → Res PV := fun xs S => match xs with
  | [.int i, .int j] => .ok (.int (if j > i then j else i)) S
  | [d] => match (lstOf S d).bind asInts with
    | some ns => if ns.isEmpty = true then .stuck else .ok (.int (maxL ns)) S
    | none => .stuck
  | _ => .stuck
def minB : List PV → Sto → Res PV := fun xs S => match xs with
  | [.int i, .int j] => .ok (.int (if j < i then j else i)) S
  | [d] => match (lstOf S d).bind asInts with
    | some ns => if ns.isEmpty = true then .stuck else .ok (.int (minL ns)) S
    | none => .stuck
  | _ => .stuck
def sumB : List PV → Sto → Res PV := fun xs S => match xs with
  | [d] => match (lstOf S d).bind asInts with
    | some ns => .ok (.int ns.sum) S
    | none => .stuck
  | _ => .stuck
def allB : List PV → Sto → Res PV := fun xs S => match xs with
  | [d] => match (lstOf S d).bind asBools with
    | some bs => .ok (.bl (bs.all id)) S
    | none => .stuck
  | _ => .stuck
def anyB : List PV → Sto → Res PV := fun xs S => match xs with
  | [d] => match (lstOf S d).bind asBools with
    | some bs => .ok (.bl (bs.any id)) S
    | none => .stuck
  | _ => .stuck
def listB : List PV → Sto → Res PV := fun xs S => match xs with
  | [d] => match seqOf S d with
    | some ys => .ok (.lst ys) S
    | none => .stuck
  | _ => .stuck
def tupleB : List PV → Sto → Res PV := fun xs S => match xs with
  | [d] => match seqOf S d with
    | some ys => .ok (.tup ys) S
    | none => .stuck
  | _ => .stuck
/-- is a value of a built-in type -/
def isaB (d : PV) (T : String) : Option Bool := match d with
  | .adr _ => none
  | .xo _ _ _ _ => none
  | d =>
  if T = "int" then some (match d with | .int _ => true | .bl _ => true | _ => false)
  else if T = "bool" then some (match d with | .bl _ => true | _ => false)
  else if T = "str" then some (match d with | .str _ => true | _ => false)
  else if T = "tuple" then some (match d with | .tup _ => true | _ => false)
  else if T = "list" then some (match d with | .lst _ => true | .ro _ => true | .cell _ => true | _ => false)
  else none
def isinB : List PV → Sto → Res PV := fun xs S => match xs with
  | [d, .ty T] => match d with
    | .ty _ => .stuck
    | .adr _ => .stuck
    | .xo _ _ _ _ => .stuck
    | .opq _ => if T = "int" ∨ T = "bool" ∨ T = "str" ∨ T = "tuple" ∨ T = "list" then .ok (.bl false) S else .stuck
    | .cell n => match S[n]? with
      | some (.lst _) => match isaB (.cell n) T with
        | some b => .ok (.bl b) S
        | none => .stuck
      | _ => .stuck
    | d => match isaB d T with
      | some b => .ok (.bl b) S
      | none => .stuck
  | _ => .stuck
section
variable {X : Cx} {E : XK}
theorem vals_ints {K : PySem.W.Frag} {F : Hp} {ci : List Addr} : ∀ {ds : List PV} {ns : List Int} {vs : List V}, asInts ds = some ns → Rps K F ci ds vs → vs = ns.map V.int
  | [], _, _, h, r => by simp [asInts] at h; subst h; rw [r.nil_inv]; rfl
  | d :: ds, ns, _, h, r => by
    obtain ⟨v, ws, rfl, r1, r2⟩ := r.cons_inv
    cases d with
    | int i =>
      simp only [asInts, Option.map_eq_some_iff] at h
      obtain ⟨ms, h1, rfl⟩ := h
      cases r1
      rw [vals_ints h1 r2]; rfl
    | _ => simp [asInts] at h
theorem vals_bools {K : PySem.W.Frag} {F : Hp} {ci : List Addr} : ∀ {ds : List PV} {ns : List Bool} {vs : List V}, asBools ds = some ns → Rps K F ci ds vs → vs = ns.map V.bl
  | [], _, _, h, r => by simp [asBools] at h; subst h; rw [r.nil_inv]; rfl
  | d :: ds, ns, _, h, r => by
    obtain ⟨v, ws, rfl, r1, r2⟩ := r.cons_inv
    cases d with
    | bl i =>
      simp only [asBools, Option.map_eq_some_iff] at h
      obtain ⟨ms, h1, rfl⟩ := h
      cases r1
      rw [vals_bools h1 r2]; rfl
    | _ => simp [asBools] at h
theorem ints_at {K : PySem.W.Frag} {F : Hp} {ci : List Addr} {S : Sto} {H : Hp} {d : PV} {v : V} {ns : List Int} (s : SR K F ci S H) (r : Rp K F ci d v) (h : (lstOf S d).bind asInts = some ns) : ∃ a, v = .ref a ∧ SqL K H a (ns.map V.int) := by
  simp only [Option.bind_eq_some_iff] at h
  obtain ⟨ds, h1, h2⟩ := h
  obtain ⟨a, vs, rfl, q, rs, _⟩ := lst_rd s r h1
  rw [vals_ints h2 rs] at q
  exact ⟨a, rfl, q⟩
theorem bools_at {K : PySem.W.Frag} {F : Hp} {ci : List Addr} {S : Sto} {H : Hp} {d : PV} {v : V} {ns : List Bool} (s : SR K F ci S H) (r : Rp K F ci d v) (h : (lstOf S d).bind asBools = some ns) : ∃ a, v = .ref a ∧ SqL K H a (ns.map V.bl) := by
  simp only [Option.bind_eq_some_iff] at h
  obtain ⟨ds, h1, h2⟩ := h
  obtain ⟨a, vs, rfl, q, rs, _⟩ := lst_rd s r h1
  rw [vals_bools h2 rs] at q
  exact ⟨a, rfl, q⟩
theorem cd_len : CallR X (.builtin "len") (rL X.K X.mg E lenB) := by
  intro pins s σ H xs us Q I r q
  obtain ⟨F, ci, S, ds, sr, rs, q⟩ := q
  unfold lenB at q
  split at q
  · rename_i z
    obtain ⟨v, rfl, r1⟩ := rps1 rs
    cases r1
    split at q
    · rename_i hz
      exact call_len_str pins s σ H _ us Q I r ⟨z, rfl, hz, q.here sr _ (.int _)⟩
    · exact q.elim
  · rename_i d _
    obtain ⟨v, rfl, r1⟩ := rps1 rs
    split at q
    · rename_i ys hy
      obtain ⟨a, vs, rfl, hs, rs', _⟩ := seq_sq sr r1 hy
      refine call_len_seq pins s σ H _ us Q I r ⟨a, vs, rfl, hs, ?_⟩
      rw [← rs'.length]
      exact q.here sr _ (.int _)
    · exact q.elim
  · exact q.elim
theorem cd_int : CallR X (.type "int") (rL X.K X.mg E intB) := by
  intro pins s σ H xs us Q I r q
  obtain ⟨F, ci, S, ds, sr, rs, q⟩ := q
  unfold intB at q
  split at q
  · obtain ⟨v, rfl, r1⟩ := rps1 rs
    cases r1
    exact call_int1 pins s σ H _ us Q I r (.inl ⟨_, rfl, q.here sr _ (.int _)⟩)
  · obtain ⟨v, rfl, r1⟩ := rps1 rs
    cases r1
    exact call_int1 pins s σ H _ us Q I r (.inr ⟨_, rfl, q.here sr _ (.int _)⟩)
  · exact q.elim
theorem cd_min (hc : X.calm = true) : CallR X (.builtin "min") (rL X.K X.mg E minB) := by
  intro pins s σ H xs us Q I r q
  obtain ⟨F, ci, S, ds, sr, rs, q⟩ := q
  unfold minB at q
  split at q
  · obtain ⟨v, u, rfl, r1, r2⟩ := rps2 rs
    cases r1; cases r2
    exact call_min2 hc pins s σ H _ us Q I r ⟨_, _, rfl, q.here sr _ (.int _)⟩
  · obtain ⟨v, rfl, r1⟩ := rps1 rs
    split at q
    · rename_i ns hn
      split at q
      · exact q.elim
      · rename_i hne
        obtain ⟨a, rfl, hs⟩ := ints_at sr r1 hn
        refine cr_min hc pins s σ H _ us Q I r ⟨a, ns, rfl, hs, ?_, fun m hm hle => ?_⟩
        · cases ns with
          | nil => exact absurd rfl hne
          | cons => simp
        · cases ns with
          | nil => cases hm
          | cons x ns =>
            rw [← minL_is ns x m hm hle]
            exact q.here sr _ (.int _)
    · exact q.elim
  · exact q.elim
theorem cd_sum (hc : X.calm = true) : CallR X (.builtin "sum") (rL X.K X.mg E sumB) := by
  intro pins s σ H xs us Q I r q
  obtain ⟨F, ci, S, ds, sr, rs, q⟩ := q
  unfold sumB at q
  split at q
  · obtain ⟨v, rfl, r1⟩ := rps1 rs
    split at q
    · rename_i ns hn
      obtain ⟨a, rfl, hs⟩ := ints_at sr r1 hn
      exact cr_sum hc pins s σ H _ us Q I r ⟨a, ns, rfl, hs, q.here sr _ (.int _)⟩
    · exact q.elim
  · exact q.elim
theorem cd_all (hc : X.calm = true) : CallR X (.builtin "all") (rL X.K X.mg E allB) := by
  intro pins s σ H xs us Q I r q
  obtain ⟨F, ci, S, ds, sr, rs, q⟩ := q
  unfold allB at q
  split at q
  · obtain ⟨v, rfl, r1⟩ := rps1 rs
    split at q
    · rename_i ns hn
      obtain ⟨a, rfl, hs⟩ := bools_at sr r1 hn
      exact cr_all hc pins s σ H _ us Q I r ⟨a, ns, rfl, hs, q.here sr _ (.bl _)⟩
    · exact q.elim
  · exact q.elim
end
/-- a value's type's name -/
def tyName : PV → Option String
  | .non => some "NoneType"
  | .bl _ => some "bool"
  | .int _ => some "int"
  | .str _ => some "str"
  | .tup _ => some "tuple"
  | .lst _ => some "list"
  | .ro _ => some "list"
  | .cell _ => some "list"
  | .ty _ => none
  | .adr _ => none
  | .opq _ => none
  | .xo _ _ _ _ => none
theorem tyx {K : PySem.W.Frag} {F : Hp} {ci : List Addr} {S : Sto} {H : Hp} (s : SR K F ci S H) {d : PV} {v : V} {n : String} (r : Rp K F ci d v) (h : tyName d = some n) (hc : ∀ k, d = .cell k → ∃ xs, S[k]? = some (.lst xs)) : TyX K H v (.type n) := by
  cases r with
  | non => cases h; exact .base .non
  | bl b => cases h; exact .base (.bl b)
  | int i => cases h; exact .base (.int i)
  | str x => cases h; exact .base (.str x)
  | tup e z rs =>
    cases h
    rcases s.sqT e with (q | ⟨o, q⟩) | ⟨o, its, n, hk, hc, _⟩
    · exact .base (.tup q)
    · exact .fTuple q
    · exact .kTuple hk hc
  | lst e z rs => cases h; exact .base (.lst (s.le _ _ e))
  | ro e z rs =>
    cases h
    rcases Ext.sqL s.le e with (q | ⟨o, q⟩) | ⟨o, its, n, hk, hc, _⟩
    · exact .base (.lst q)
    · exact .base (.frz q)
    · exact .kList hk hc
  | @cell a k e =>
    cases h
    obtain ⟨xs, q⟩ := hc k rfl
    obtain ⟨b, vs, e1, _, e3, _⟩ := s.cel k xs q
    rw [e] at e1; cases e1
    exact .base (.lst e3)
  | ty n => cases h
  | adr => cases h
  | opq _ => cases h
  | xo _ _ => cases h
theorem isa_ok {d : PV} {T n : String} {b : Bool} (h : isaB d T = some b) (hn : tyName d = some n) : kitB n T = some b := by
  unfold isaB at h
  split at h
  · cases h
  · cases h
  split at h
  · subst T; cases d <;> simp [tyName] at hn <;> subst hn <;> simp at h <;> subst h <;> decide +kernel
  · split at h
    · subst T; cases d <;> simp [tyName] at hn <;> subst hn <;> simp at h <;> subst h <;> decide +kernel
    · split at h
      · subst T; cases d <;> simp [tyName] at hn <;> subst hn <;> simp at h <;> subst h <;> decide +kernel
      · split at h
        · subst T; cases d <;> simp [tyName] at hn <;> subst hn <;> simp at h <;> subst h <;> decide +kernel
        · split at h
          · subst T; cases d <;> simp [tyName] at hn <;> subst hn <;> simp at h <;> subst h <;> decide +kernel
          · cases h
section
variable {X : Cx} {E : XK}
theorem cd_isin : CallR X (.builtin "isinstance") (rL X.K X.mg E isinB) := by
  intro pins s σ H xs us Q I r q
  obtain ⟨F, ci, S, ds, sr, rs, q⟩ := q
  have go : ∀ {d : PV} {T n : String} {b : Bool} {v u : V}, Rp X.K F ci d v → Rp X.K F ci (.ty T) u → tyName d = some n → isaB d T = some b → (∀ k, d = .cell k → ∃ xs, S[k]? = some (.lst xs)) → Vals [v, u] us →
      (Out X.K (Zf X.K X.mg E) F ci H (.ok (.bl b) S) fun d F' ci' S' H' => ∀ v, Rp X.K F' ci' d v → Q v H') → wpAny (model X.prog X.w) X.A (call (.builtin "isinstance") us) (EP X pins σ Q) X.xe s := fun {d T n b v u} r1 r2 hn hb hc rv q => by
    cases r2
    exact call_isi pins s σ H _ us Q I rv ⟨v, .ty T, .type n, .type T, b, rfl, .ty T, tyx sr r1 hn hc, kit_ty (isa_ok hb hn), q.here sr _ (.bl _)⟩
  unfold isinB at q
  split at q
  · rename_i d T
    obtain ⟨v, u, rfl, r1, r2⟩ := rps2 rs
    split at q
    · exact q.elim
    · exact q.elim
    · exact q.elim
    · rename_i t
      split at q
      · rename_i hT
        cases r2
        cases r1 with
        | opq o => exact call_isi pins s σ H _ us Q I r ⟨_, .ty T, t, .type T, false, rfl, .ty T, o.ty H sr.le, o.no T (by rcases hT with rfl | rfl | rfl | rfl | rfl <;> simp), q.here sr _ (.bl _)⟩
      · exact q.elim
    · split at q
      · rename_i hk
        split at q
        · rename_i hb
          exact go r1 r2 rfl hb (fun k e => by cases e; exact ⟨_, hk⟩) r q
        · exact q.elim
      · exact q.elim
    · rename_i d' h1 h3 h5 h4 h2
      split at q
      · rename_i hb
        have hn : ∃ n, tyName d = some n := by cases d <;> first | exact ⟨_, rfl⟩ | exact absurd rfl (h1 _) | exact absurd rfl (h3 _) | exact absurd rfl (h4 _) | exact absurd rfl (h5 _ _ _ _)
        obtain ⟨n, hn⟩ := hn
        exact go r1 r2 hn hb (fun k e => absurd e (h2 k)) r q
      · exact q.elim
  · exact q.elim
end

/-! ### subscripts -/
/-- where an index lies -/
def ixP (n : Nat) (i : Int) : Option Nat := if 0 ≤ i then (if i < n then some i.toNat else none) else if -(n : Int) ≤ i then some (i + n).toNat else none
def itemV : PV → PV → Sto → Res PV := fun x y S => match y with
  | .int i => match seqOf S x with
    | some xs => match (ixP xs.length i).bind fun j => xs[j]? with
      | some d => .ok d S
      | none => .stuck
    | none => match x with
      | .str z => if z.length ≤ sizeLine then (match (ixP z.cps.size i).bind fun j => z.cps.toList[j]? with
        | some c => .ok (.str ⟨#[c]⟩) S
        | none => .stuck) else .stuck
      | _ => .stuck
  | _ => .stuck
section
variable {X : Cx} {W : WX} {a b : Expr} {pos : Pos} {fa fb : ExprD}
theorem ixd {E : XK} : IxR X (rD X.K X.mg E itemV) := by
  intro value slice pins s σ H x y v u Q I rx ry q hs
  obtain ⟨F, ci, S, dx, dy, sr, r1, r2, q⟩ := q
  unfold itemV at q
  split at q
  · rename_i i
    cases r2
    split at q
    · rename_i xs hx
      split at q
      · rename_i d hd
        obtain ⟨a, vs, rfl, hq, rs, _⟩ := seq_sq sr r1 hx
        obtain ⟨j, hj1, hj2⟩ := Option.bind_eq_some_iff.mp hd
        obtain ⟨w, hw, rw'⟩ := rs.get hj2
        have hat : atI vs i = some w := by
          show (ixN vs.length i).bind _ = _
          rw [← rs.length]
          exact Option.bind_eq_some_iff.mpr ⟨j, hj1, hw⟩
        rcases hq with hq | hq
        · exact ix_list value slice pins s σ H _ _ v u Q I rx ry ⟨a, vs, i, w, rfl, rfl, hq, hat, q.here sr _ rw'⟩ hs
        · exact ix_tup value slice pins s σ H _ _ v u Q I rx ry ⟨a, vs, i, w, rfl, rfl, hq, hat, q.here sr _ rw'⟩ hs
      · exact q.elim
    · split at q
      · rename_i z _
        split at q
        · rename_i hz
          split at q
          · rename_i c hc
            cases r1
            refine ix_str value slice pins s σ H _ _ v u Q I rx ry ⟨z, i, c, rfl, rfl, hz, ?_, q.here sr _ (.str _)⟩ hs
            show (ixN z.cps.toList.length i).bind _ = _
            rw [Array.length_toList]
            exact hc
          · exact q.elim
        · exact q.elim
      · exact q.elim
  · exact q.elim
theorem de_ix (ha : PE X a (tE X.K X.mg W fa)) (hb : PE X b (tE X.K X.mg W fb)) (hs : PlainIx b := by intro _ _; rfl) : PE X (.Subscript a b pos) (tE X.K X.mg W (binE itemV fa fb)) := by
  refine ⟨fun pins s σ H Q I h => ?_⟩
  obtain ⟨env, F, ci, S, sr, er, h⟩ := h
  exact (pe_ix (ixd (E := WE W σ)) ha hb hs).run pins s σ H Q I (out2 sr er h fun _ _ _ z => z)
end
/-! slices -/
def sIxP (n d : Nat) : Option Int → Nat
  | none => d
  | some i => if i < 0 then (i + n).toNat else min i.toNat n
def cutP (xs : List PV) (lo hi : Option Int) : List PV := (xs.drop (sIxP xs.length 0 lo)).take (sIxP xs.length xs.length hi - sIxP xs.length 0 lo)
abbrev PartD := PEnv → Sto → Res (Option Int)
def noP : PartD := fun _ S => .ok none S
def someP (f : ExprD) : PartD := fun env S => (f env S).bind fun d S1 => match d with
  | .int i => .ok (some i) S1
  | _ => .stuck
def sliceV (x : PV) (lo hi : Option Int) (S : Sto) : Res PV := match x with
  | .tup xs => .ok (.tup (cutP xs lo hi)) S
  | .str z => if z.length ≤ sizeLine then .ok (.str (cutS z lo hi)) S else .stuck
  | d => match lstOf S d with
    | some xs => .ok (.lst (cutP xs lo hi)) S
    | none => .stuck
def sliceE (a : ExprD) (l h : PartD) : ExprD := fun env S => (a env S).bind fun x S1 => (l env S1).bind fun lo S2 => (h env S2).bind fun hi S3 => sliceV x lo hi S3
theorem sIx_eq (n d : Nat) (hd : d ≤ n) (o : Option Int) : HT.sIx n d o = sIxP n d o := by
  cases o with
  | none => rfl
  | some i =>
    have h1 := HT.clip_eq i n d
    have h2 := HT.sIx_le n d hd (some i)
    unfold sIxP
    split at h1 <;> (simp only [*, if_true, if_false]; omega)
section
variable {X : Cx} {W : WX} {e : Expr} {lo hi : Option Expr} {p2 pos : Pos} {f : ExprD} {l h : PartD}
def tP (K : PySem.W.Frag) (mg : Str → Option Value) (W : WX) (f : PartD) : TO := fun σ H Q => ∃ env F ci S, SR K F ci S H ∧ ER K F ci env σ ∧ Out K (Zf K mg (WE W σ)) F ci H (f env S) fun o F' ci' S' H' => Q o H'
theorem PO.imp' {e : Option Expr} {t t' : TO} (h : PO X e t) (i : ∀ σ H Q, t' σ H Q → t σ H Q) : PO X e t' := ⟨fun pins s σ H Q I q => h.run pins s σ H Q I (i σ H Q q)⟩
theorem dp_none : PO X none (tP X.K X.mg W noP) := PO.imp' po_none fun σ H Q h => by
  obtain ⟨env, F, ci, S, sr, er, h⟩ := h
  exact h.here sr
theorem dp_some {e : Expr} (he : PE X e (tE X.K X.mg W f)) : PO X (some e) (tP X.K X.mg W (someP f)) := PO.imp' (po_some he) fun σ H Q h => by
  obtain ⟨env, F, ci, S, sr, er, h⟩ := h
  refine ⟨env, F, ci, S, sr, er, (Out.bind h).imp fun d F1 c1 S1 H1 l1 s1 h1 v1 r1 => ?_⟩
  cases r1 with
  | int i => exact ⟨i, rfl, h1.here s1⟩
  | _ => exact h1.elim
theorem cut_rps {K : PySem.W.Frag} {F : Hp} {ci : List Addr} {ds : List PV} {vs : List V} (rs : Rps K F ci ds vs) (lo hi : Option Int) : Rps K F ci (cutP ds lo hi) (cutV vs lo hi) := by
  unfold cutP cutV
  rw [← rs.length, sIx_eq _ _ (Nat.zero_le _), sIx_eq _ _ (Nat.le_refl _)]
  exact (rs.drop _).take _
theorem cut_len (ds : List PV) (lo hi : Option Int) : (cutP ds lo hi).length ≤ ds.length := by
  unfold cutP
  rw [List.length_take, List.length_drop]; omega
def rSlD (K : PySem.W.Frag) (mg : Str → Option Value) (E : XK) : V → Option Int → Option Int → Hp → VK → Prop := fun x lo hi H Q => ∃ F ci S d, SR K F ci S H ∧ Rp K F ci d x ∧ Out K (Zf K mg E) F ci H (sliceV d lo hi S) fun d F' ci' S' H' => ∀ v, Rp K F' ci' d v → Q v H'
theorem sld {E : XK} : SlR X (rSlD X.K X.mg E) := by
  intro pins s σ H x v vl vu lo hi sl Q I rx hs pl pu h
  obtain ⟨F, ci, S, d, sr, r, q⟩ := h
  unfold sliceV at q
  split at q
  · rename_i xs
    cases r with
    | tup e z rs =>
      rename_i a vs
      refine sl_tupA pins s σ H _ v vl vu lo hi sl Q I rx hs pl pu ⟨a, vs, rfl, sr.sqT e, fun hw => ?_, fun hw p hp => ?_⟩
      · have hc : cutP xs lo hi = xs := by
          unfold cutP
          rw [← rs.length, sIx_eq _ _ (Nat.zero_le _), sIx_eq _ _ (Nat.le_refl _)] at hw
          rw [hw.1, hw.2]
          simp
        rw [hc] at q
        exact q.here sr _ (.tup e z rs)
      · obtain ⟨s2, l2⟩ := sr.laid (o := .tup (cutV vs lo hi)) hp
        exact q _ _ _ l2 s2 _ (.tup (.inl rd_new) (Nat.le_trans (cut_len _ _ _) z) (l2.rps (cut_rps rs lo hi)))
  · rename_i z
    split at q
    · rename_i hz
      cases r
      exact sl_str pins s σ H _ v vl vu lo hi sl Q I rx hs pl pu ⟨z, rfl, hz, q.here sr _ (.str _)⟩
    · exact q.elim
  · split at q
    · rename_i xs hx
      obtain ⟨a, vs, rfl, hq, rs, z⟩ := lst_rd sr r hx
      refine sl_list pins s σ H _ v vl vu lo hi sl Q I rx hs pl pu ⟨a, vs, rfl, hq, fun p hp => ?_⟩
      obtain ⟨s2, l2⟩ := sr.laid (o := .lst (cutV vs lo hi)) hp
      exact q _ _ _ l2 s2 _ (.lst upd_same (Nat.le_trans (cut_len _ _ _) z) (l2.rps (cut_rps rs lo hi)))
    · exact q.elim
theorem de_slice (he : PE X e (tE X.K X.mg W f)) (hl : PO X lo (tP X.K X.mg W l)) (hh : PO X hi (tP X.K X.mg W h)) : PE X (.Subscript e (.Slice lo hi none p2) pos) (tE X.K X.mg W (sliceE f l h)) := by
  refine ⟨fun pins s σ H Q I q => ?_⟩
  obtain ⟨env, F, ci, S, sr, er, q⟩ := q
  refine (pe_slice (sld (E := WE W σ)) he hl hh).run pins s σ H Q I ⟨env, F, ci, S, sr, er, (Out.bind q).imp fun d F1 c1 S1 H1 l1 s1 h1 v1 r1 => ?_⟩
  refine ⟨env, F1, c1, S1, s1, er.later l1, (Out.bind h1).imp fun a F2 c2 S2 H2 l2 s2 h2 => ?_⟩
  refine ⟨env, F2, c2, S2, s2, (er.later l1).later l2, (Out.bind h2).imp fun b F3 c3 S3 H3 l3 s3 h3 => ?_⟩
  exact ⟨F3, c3, S3, d, s3, l3.rp (l2.rp r1), h3⟩
end
end LH

/-! LG: append, a store by place, sorted. -/
namespace LH
open PySem PySem.Spec PyProof.Rows L2

section
variable {K : PySem.W.Frag} {F : Hp} {ci : List Addr} {S : Sto} {H : Hp}
/-- a mutable list is written -/
theorem SR.write (s : SR K F ci S H) {n : Nat} {a : Addr} {xs : List PV} {ws : List V} {old : List PV} (hc : ci[n]? = some a) (ho : S[n]? = some (.lst old)) (z : xs.length ≤ sizeLine ∧ bels 0 xs = true) (r : Rps K F ci xs ws) :
    SR K F ci (S.set n (.lst xs)) (upd H a (.lst ws)) ∧ Later F ci H F ci (upd H a (.lst ws)) := by
  have hm : a ∈ ci := List.mem_of_getElem? hc
  obtain ⟨b, us, e1, e2, e3, _, _⟩ := s.cel n old ho
  rw [hc] at e1; cases e1
  refine ⟨⟨fun c u q => ?_, by simp [s.len], s.nd, fun c hm' => ?_, fun m ys e => ?_, fun m u e => by
    have hmn : n ≠ m := fun z => by
      subst z
      have hl : n < S.length := (List.getElem?_eq_some_iff.mp ho).1
      rw [List.getElem?_set_self hl] at e
      simp at e
    rw [List.getElem?_set_ne hmn] at e
    obtain ⟨b, f1, f2, f3⟩ := s.kel m u e
    have hab : b ≠ a := fun z => by
      subst z
      obtain ⟨h1, h2⟩ := List.getElem?_eq_some_iff.mp hc
      obtain ⟨h3, h4⟩ := List.getElem?_eq_some_iff.mp f1
      exact hmn ((List.getElem_inj s.nd).mp (h2.trans h4.symm))
    exact ⟨b, f1, f2, by rw [upd_ne hab]; exact f3⟩, fun m two g ys e => by
    have hmn : n ≠ m := fun z => by
      subst z
      have hl : n < S.length := (List.getElem?_eq_some_iff.mp ho).1
      rw [List.getElem?_set_self hl] at e
      simp at e
    rw [List.getElem?_set_ne hmn] at e
    obtain ⟨b, f1, hg⟩ := s.gel m two g ys e
    have hab : b ≠ a := fun z => by
      subst z
      obtain ⟨h1, h2⟩ := List.getElem?_eq_some_iff.mp hc
      obtain ⟨h3, h4⟩ := List.getElem?_eq_some_iff.mp f1
      exact hmn ((List.getElem_inj s.nd).mp (h2.trans h4.symm))
    exact ⟨b, f1, hg.upd hab fun c q => by rw [e3] at q; cases q⟩⟩, ⟨.refl _, List.prefix_refl _, fun c u q hn => ?_, fun c h1 h2 => absurd h1 h2, fun _ _ q => .inl q⟩⟩
  · have : c ≠ a := fun z => by subst z; rw [e2] at q; cases q
    rw [upd_ne this]; exact s.le c u q
  · by_cases hca : c = a
    · subst hca; exact ⟨_, upd_same⟩
    · rw [upd_ne hca]; exact s.there c hm'
  · by_cases hmn : n = m
    · subst hmn
      have hl : n < S.length := (List.getElem?_eq_some_iff.mp ho).1
      rw [List.getElem?_set_self hl] at e
      have e' : xs = ys := by simpa using e
      subst e'
      exact ⟨a, ws, hc, e2, upd_same, z, r⟩
    · rw [List.getElem?_set_ne hmn] at e
      obtain ⟨b, us', f1, f2, f3, f4, f5⟩ := s.cel m ys e
      have hab : b ≠ a := fun z => by
        subst z
        obtain ⟨h1, h2⟩ := List.getElem?_eq_some_iff.mp hc
        obtain ⟨h3, h4⟩ := List.getElem?_eq_some_iff.mp f1
        exact hmn ((List.getElem_inj s.nd).mp (h2.trans h4.symm))
      exact ⟨b, us', f1, f2, by rw [upd_ne hab]; exact f3, f4, f5⟩
  · have : c ≠ a := fun z => hn (z ▸ hm)
    rw [upd_ne this]; exact q
end
def pushC (n : Nat) (y : PV) (S : Sto) : Res PV := match S[n]? with
  | some (.lst xs) => if xs.length < sizeLine ∧ bel 0 y = true then .ok .non (S.set n (.lst (xs ++ [y]))) else .stuck
  | _ => .stuck
/-- o.append(e) -/
def appE (fo f : ExprD) : ExprD := fun env S => (fo env S).bind fun d S1 => match d with
  | .cell n => match S1[n]? with
    | some (.lst _) => (f env S1).bind fun y S2 => pushC n y S2
    | _ => .stuck
  | _ => .stuck
/-- a[i] = e: the value, the list, the place -/
def setC (n : Nat) (i : Int) (y : PV) (env : PEnv) (S : Sto) : Res Flow := match S[n]? with
  | some (.lst xs) => match ixP xs.length i with
    | some j => if bel 0 y = true then .ok (.nx env) (S.set n (.lst (xs.set j y))) else .stuck
    | none => .stuck
  | _ => .stuck
def setS (fo fi f : ExprD) : StmtD := fun env S => runE (f env S) env fun y S1 => runE (fo env S1) env fun d S2 => runE (fi env S2) env fun i S3 => match d, i with
  | .cell n, .int i => setC n i y env S3
  | _, _ => .stuck
section
variable {X : Cx} {W : WX} {o e i : Expr} {f fo fi : ExprD} {apos pos pos' p2 : Pos}
theorem de_app (ho : PE X o (tE X.K X.mg W fo)) (he : PE X e (tE X.K X.mg W f)) (hbase : attributeBase o "append" X.env (eval o X.env) = eval o X.env := by rfl)
    (hfew : ((backTo pos (starEach (e :: []) X.env)).all (fun x => !x.1) && (backToKw pos (keywordEach [] X.env)).all (fun x => x.1.isSome)
      && decide ((e :: []).length + ([] : List Keyword).length + (if ([] : List Keyword).isEmpty then 0 else 1) < 30)) = true := by rfl)
    (hline : (apos.endLine == pos.line) = true := by rfl) (hs : starEach (e :: []) X.env = (false, eval e X.env) :: starEach [] X.env := by rfl) (hplain : (backTo pos (starEach [] X.env)).any (·.1) = false := by rfl) :
    PE X (.Call (.Attribute o "append" apos) [e] [] pos) (tE X.K X.mg W (appE fo f)) := (pe_bm PySem.F.plainAttrs_list PySem.F.slot_list_append PySem.F.type_list_append mt_append ho (pa_cons he pa_nil hs) hbase hfew hline hs hplain).imp fun σ H Q h => by
  obtain ⟨env, F, ci, S, sr, er, h⟩ := h
  refine ⟨env, F, ci, S, sr, er, (Out.bind h).imp fun d F1 c1 S1 H1 l1 s1 h1 v1 r1 => ?_⟩
  split at h1
  · rename_i n
    split at h1
    · rename_i xs hx
      cases r1 with
      | @cell a _ ec =>
        obtain ⟨b, vs, e1, _, e3, _⟩ := s1.cel n xs hx
        rw [ec] at e1; cases e1
        refine ⟨.inl ⟨rfl, vs, .inl (.inl e3)⟩, env, F1, c1, S1, s1, er.later l1, (Out.bind h1).imp fun y F2 c2 S2 H2 l2 s2 h2 v2 r2 => ?_⟩
        unfold pushC at h2
        split at h2
        · rename_i ys hy
          split at h2
          · rename_i hz
            have ec2 := pre_get l2.pre ec
            obtain ⟨b, ws, f1, _, f3, z, rs⟩ := s2.cel n ys hy
            rw [ec2] at f1; cases f1
            obtain ⟨s3, l3⟩ := s2.write (xs := ys ++ [y]) (ws := ws ++ [v2]) ec2 hy ⟨by rw [List.length_append]; exact hz.1, by rw [bels_append, z.2]; simp [bels, hz.2]⟩ (rs.append (.cons r2 .nil))
            exact ⟨a, ws, v2, rfl, rfl, f3, by rw [← rs.length]; exact hz.1, h2 _ _ _ l3 s3 _ .non⟩
          · exact h2.elim
        · exact h2.elim
    · exact h1.elim
  · exact h1.elim
end

/-! ### sorted -/
def pvLe (a b : PV) : Bool := PySem.W.dataLe false toD a b
def SortOk (xs : List PV) : Prop := (∀ x ∈ xs, chk 60 x = true) ∧ PySem.W.AllAlike (xs.map toD) ∧ PySem.W.Sortable (xs.map toD)
open Classical in
noncomputable def sortedB : List PV → Sto → Res PV := fun xs S => match xs with
  | [d] => match lstOf S d with
    | some ys => if SortOk ys then .ok (.lst (ys.mergeSort pvLe)) S else .stuck
    | none => .stuck
  | _ => .stuck
section
variable {X : Cx} {E : XK}
end
end LH

/-! LI: sorted. -/
namespace LH
open PySem PySem.Spec PyProof.Rows L2
section
variable {X : Cx} {E : XK}
end
end LH

/-! LJ: sorted(set(xs)), xs fewer than 64 tuples of ints. -/
namespace LH
open PySem PySem.Spec PyProof.Rows L2
def encT (ns : List Int) : PV := .tup (ns.map .int)
def keyT : PV → List Int
  | .tup ds => (asInts ds).getD []
  | _ => []
def isT (d : Nat) (y : PV) : Prop := ∃ ns : List Int, y = encT ns ∧ ns.length = d ∧ ∀ n ∈ ns, 0 ≤ n
/-- neighbours that are alike, once -/
def adjP : List PV → List PV
  | [] => []
  | [x] => [x]
  | x :: y :: r => if peq x y = true then adjP (y :: r) else x :: adjP (y :: r)
def adjL : List (List Int) → List (List Int)
  | [] => []
  | [x] => [x]
  | x :: y :: r => if x = y then adjL (y :: r) else x :: adjL (y :: r)
def SetOk (ys : List PV) : Prop := ys.length < 64 ∧ ∃ d, 1 ≤ d ∧ ∀ y ∈ ys, isT d y
open Classical in
noncomputable def setSortV : PV → Sto → Res PV := fun x S => match lstOf S x with
  | some ys => if SetOk ys then .ok (.lst (adjP (ys.mergeSort pvLe))) S else .stuck
  | none => .stuck
section
variable {X : Cx} {W : WX} {e : Expr} {f : ExprD} {p p2 pos pos2 : Pos}
end
end LH

/-! LK: stars in displays, parallel assignment, while. -/
namespace LH
open PySem PySem.Spec PyProof.Rows L2

def starA (f : ExprD) (r : ArgsD) : ArgsD := fun env S => (f env S).bind fun d S1 => match seqOf S1 d with
  | some xs => (r env S1).bind fun ys S2 => .ok (xs ++ ys) S2
  | none => .stuck
section
variable {X : Cx} {W : WX} {e : Expr} {es : List Expr} {f : ExprD} {r : ArgsD} {p : Pos}
end

/-! ### a, b = x, y -/
def runA (r : Res (List PV)) (env : PEnv) (g : List PV → Sto → Res Flow) : Res Flow := match r with
  | .ok d S => g d S
  | .exc x S => .ok (.ex x env) S
  | .stuck => .stuck
def par2S (i j : Nat) (r : ArgsD) : StmtD := fun env S => runA (r env S) env fun ds S1 => match ds with
  | [a, b] => .ok (.nx ((env.set i (some a)).set j (some b))) S1
  | _ => .stuck
def par3S (i j l : Nat) (r : ArgsD) : StmtD := fun env S => runA (r env S) env fun ds S1 => match ds with
  | [a, b, c] => .ok (.nx (((env.set i (some a)).set j (some b)).set l (some c))) S1
  | _ => .stuck
section
variable {X : Cx} {W : WX} {r : ArgsD}
theorem runA_out {K : PySem.W.Frag} {mg : Str → Option Value} {F : Hp} {ci : List Addr} {H : Hp} {D : Ends} {r : Res (List PV)} {env : PEnv} {g : List PV → Sto → Res Flow} {σ : St} (er : ER K F ci env σ)
    (h : Out K (fun _ _ _ _ _ => False) F ci H (runA r env g) (SW K mg W D)) : Out K (Zf K mg (WE W σ)) F ci H r fun d F1 c1 S1 H1 => Out K (fun _ _ _ _ _ => False) F1 c1 H1 (g d S1) (SW K mg W D) := by
  cases r with
  | ok d S' => exact fun F1 c1 H1 l1 s1 => Out.later h l1
  | exc x S' => exact fun F1 c1 H1 l1 s1 cls d xr => h F1 c1 H1 l1 s1 σ (er.later l1) cls d xr
  | stuck => exact h
theorem ds_par2 (i j : Nat) {x y : Str} {a b : Expr} {px py pt pos : Pos} {kt k2 pt2} (hN : X.N.Nodup) (ha : PA X [a, b] (tA X.K X.mg W r)) (hc : X.calm = true := by rfl) (hi : X.N[i]? = some x := by rfl) (hj : X.N[j]? = some y := by rfl) (hij : i ≠ j := by decide)
    (hx : X.env.scope.names.lookup x = some .local := by rfl) (hy : X.env.scope.names.lookup y = some .local := by rfl)
    (hw : swappedStores [.Tuple [.Name x px, .Name y py] kt pt] (.Tuple [a, b] k2 pt2) X.env = pure (some [x, y]) := by rfl)
    (hs : swapsWithSole [.Tuple [.Name x px, .Name y py] kt pt] (.Tuple [a, b] k2 pt2) pos.line X.env = pure false := by rfl) :
    PS X (.Assign [.Tuple [.Name x px, .Name y py] kt pt] (.Tuple [a, b] k2 pt2) pos) (tSX X W (par2S i j r)) := (ps_par hc hN hi hj hij hx hy ha hw hs).imp fun D σ H h => by
  obtain ⟨env, F, ci, S, sr, er, h⟩ := h
  refine ⟨env, F, ci, S, sr, er, (runA_out er h).imp fun ds F1 c1 S1 H1 l1 s1 h1 vs rs => ?_⟩
  split at h1
  · obtain ⟨v, u, rfl, r1, r2⟩ := rps2 rs
    exact ⟨v, u, rfl, h1.here s1 _ (((er.later l1).set i r1).set j r2)⟩
  · exact h1.elim
theorem ds_par3 (i j l : Nat) {x y z : Str} {a b c : Expr} {px py pz pt pos : Pos} {kt k2 pt2} (hN : X.N.Nodup) (ha : PA X [a, b, c] (tA X.K X.mg W r)) (hc : X.calm = true := by rfl) (hi : X.N[i]? = some x := by rfl) (hj : X.N[j]? = some y := by rfl) (hl : X.N[l]? = some z := by rfl) (hij : i ≠ j := by decide) (hil : i ≠ l := by decide) (hjl : j ≠ l := by decide)
    (hx : X.env.scope.names.lookup x = some .local := by rfl) (hy : X.env.scope.names.lookup y = some .local := by rfl) (hz : X.env.scope.names.lookup z = some .local := by rfl)
    (hw : swappedStores [.Tuple [.Name x px, .Name y py, .Name z pz] kt pt] (.Tuple [a, b, c] k2 pt2) X.env = pure (some [x, y, z]) := by rfl)
    (hs : swapsWithSole [.Tuple [.Name x px, .Name y py, .Name z pz] kt pt] (.Tuple [a, b, c] k2 pt2) pos.line X.env = pure false := by rfl) :
    PS X (.Assign [.Tuple [.Name x px, .Name y py, .Name z pz] kt pt] (.Tuple [a, b, c] k2 pt2) pos) (tSX X W (par3S i j l r)) := (ps_par3 hc hN hi hj hl hij hil hjl hx hy hz ha hw hs).imp fun D σ H h => by
  obtain ⟨env, F, ci, S, sr, er, h⟩ := h
  refine ⟨env, F, ci, S, sr, er, (runA_out er h).imp fun ds F1 c1 S1 H1 l1 s1 h1 vs rs => ?_⟩
  split at h1
  · obtain ⟨v, ws, rfl, r1, r2⟩ := rs.cons_inv
    obtain ⟨u, t, rfl, r3, r4⟩ := rps2 r2
    exact ⟨v, u, t, rfl, h1.here s1 _ ((((er.later l1).set i r1).set j r3).set l r4)⟩
  · exact h1.elim
end

/-! ### while -/
open Classical in
noncomputable def whileFuel (t : TestD) (b : StmtD) (env : PEnv) (S : Sto) : Nat := if h : ∃ n, whileN t b n env S ≠ .stuck then h.choose else 0
noncomputable def whileS (t : TestD) (b : StmtD) : StmtD := fun env S => whileN t b (whileFuel t b env S) env S
theorem ds_whileS {X : Cx} {W : WX} {c : Expr} {body : List Stmt} {pos : Pos} {t : TestD} {p : StmtD} (hp : PassesOwn (model X.prog X.w) X.A X.env X.xe) (hc : PT X c (tT X.K X.mg W t)) (hb : PSs X body (tSX X W p)) : PS X (.While c body [] pos) (tSX X W (whileS t p)) := ds_while (whileFuel t p) hp hc hb
end LH

/-! LL: a def's own mutable lists are forgotten at its end. -/
namespace LH
open PySem PySem.Spec PyProof.Rows L2

/-- the own mutable lists forgotten; one that is handed back is frozen -/
def exitT (f : FnDen) : FnDen := fun ds S => match f ds S with
  | .ok d S' => match d with
    | .cell n => if n < S.length then .ok (.cell n) (S'.take S.length) else (match S'[n]? with
      | some (.lst xs) => .ok (.lst xs) (S'.take S.length)
      | _ => .stuck)
    | d => if bel S.length d = true then .ok d (S'.take S.length) else .stuck
  | .exc x S' => if (x.fields.isEmpty || bels S.length (x.fields.map (·.2))) = true then .exc x (S'.take S.length) else .stuck
  | .stuck => .stuck
/-- .. one that is handed back stays a mutable one -/
def exitN (f : FnDen) : FnDen := fun ds S => match f ds S with
  | .ok (.cell n) S' => if n < S.length then .ok (.cell n) (S'.take S.length) else (match S'[n]? with
      | some (.lst xs) => .ok (.cell S.length) (S'.take S.length ++ [.lst xs])
      | _ => .stuck)
  | .exc x S' => if (x.fields.isEmpty || bels S.length (x.fields.map (·.2))) = true then .exc x (S'.take S.length) else .stuck
  | _ => .stuck
section
variable {K : PySem.W.Frag} {F F' : Hp} {ci ci' : List Addr} {S S' : Sto} {H H' : Hp}
theorem pre_down {l l' : List Addr} (p : l <+: l') : ∀ n, n < l.length → ∀ a, l'[n]? = some a → l[n]? = some a := fun n hn a h => by
  obtain ⟨t, rfl⟩ := p
  rw [List.getElem?_append_left hn] at h; exact h
theorem GelAt.cut {a : Addr} {two : Bool} {g : Addr → List V → HO} {xs : List PV} (h : GelAt K F ci' H a two g xs) (p : ci <+: ci') : GelAt K F ci H a two g xs := by
  obtain ⟨dx, vs, h1, h2, h3, h4, h5⟩ := h
  refine ⟨dx, vs, h1, h2, h3, h4.down (m := 0) (fun k hk => absurd hk (Nat.not_lt_zero k)) h3.2, fun t => ?_⟩
  obtain ⟨k1, k2, k3⟩ := h5 t
  refine ⟨k1, fun hm => k2 ?_, k3⟩
  obtain ⟨t, rfl⟩ := p
  exact List.mem_append_left _ hm
theorem GelAt.push {a p : Addr} {two : Bool} {g : Addr → List V → HO} {xs : List PV} (h : GelAt K F ci H a two g xs) (hp : ∀ b, H p ≠ some (.own b)) : GelAt K F (ci ++ [p]) H a two g xs := by
  obtain ⟨dx, vs, h1, h2, h3, h4, h5⟩ := h
  refine ⟨dx, vs, h1, h2, h3, h4.mono (.refl _) (List.prefix_append _ _), fun t => ?_⟩
  obtain ⟨k1, k2, k3⟩ := h5 t
  refine ⟨k1, fun hm => ?_, k3⟩
  rcases List.mem_append.mp hm with hm | hm
  · exact k2 hm
  · have : dx = p := by simpa using hm
    subst this
    exact hp _ k3
/-- the younger mutable things forgotten -/
theorem SR.cut (s : SR K F ci S H) (s' : SR K F' ci' S' H') (l : Later F ci H F' ci' H') : SR K F' ci (S'.take S.length) H' ∧ Later F ci H F' ci H' := by
  have hl : ci.length ≤ ci'.length := by obtain ⟨t, rfl⟩ := l.pre; simp
  have sub : ∀ a, a ∈ ci → a ∈ ci' := fun a h => by obtain ⟨t, rfl⟩ := l.pre; exact List.mem_append_left _ h
  refine ⟨⟨s'.le, by rw [List.length_take, ← s.len, ← s'.len]; omega, s.nd, fun a h => s'.there a (sub a h), fun n xs e => ?_, fun n u e => by
    have hn : n < S.length := by
      have := (List.getElem?_eq_some_iff.mp e).1
      rw [List.length_take] at this; omega
    rw [List.getElem?_take_of_lt hn] at e
    obtain ⟨a, e1, e2, e3⟩ := s'.kel n u e
    exact ⟨a, pre_down l.pre n (by rw [s.len]; exact hn) a e1, e2, e3⟩, fun n two g xs e => by
    have hn : n < S.length := by
      have := (List.getElem?_eq_some_iff.mp e).1
      rw [List.length_take] at this; omega
    rw [List.getElem?_take_of_lt hn] at e
    obtain ⟨a, e1, hg⟩ := s'.gel n two g xs e
    exact ⟨a, pre_down l.pre n (by rw [s.len]; exact hn) a e1, hg.cut l.pre⟩⟩, ⟨l.ext, List.prefix_refl _, l.keep, fun a h n => absurd h n, l.fz⟩⟩
  have hn : n < S.length := by
    have := (List.getElem?_eq_some_iff.mp e).1
    rw [List.length_take] at this; omega
  rw [List.getElem?_take_of_lt hn] at e
  obtain ⟨a, vs, e1, e2, e3, z, rs⟩ := s'.cel n xs e
  have hn' : n < ci.length := by rw [s.len]; exact hn
  exact ⟨a, vs, pre_down l.pre n hn' a e1, e2, e3, z, rs.down (m := 0) (fun k hk => absurd hk (Nat.not_lt_zero k)) z.2⟩
/-- .. one of them frozen -/
theorem SR.froze (s : SR K F ci S H) (s' : SR K F' ci' S' H') (l : Later F ci H F' ci' H') {n : Nat} {xs : List PV} (hn : ¬ n < S.length) (e : S'[n]? = some (.lst xs)) :
    ∃ F'' a, ci'[n]? = some a ∧ SR K F'' ci (S'.take S.length) H' ∧ Later F ci H F'' ci H' ∧ Rp K F'' ci (.lst xs) (.ref a) := by
  obtain ⟨a, vs, e1, e2, e3, z, rs⟩ := s'.cel n xs e
  obtain ⟨s2, l2⟩ := s.cut s' l
  have hx : Ext F' (upd F' a (.lst vs)) := ext_new e2
  have hac : a ∉ ci := fun hm => by
    obtain ⟨m, hm'⟩ := List.getElem?_of_mem hm
    have hm2 := pre_get l.pre hm'
    obtain ⟨h1, h2⟩ := List.getElem?_eq_some_iff.mp e1
    obtain ⟨h3, h4⟩ := List.getElem?_eq_some_iff.mp hm2
    have : n = m := (List.getElem_inj s'.nd).mp (h2.trans h4.symm)
    subst this
    have := (List.getElem?_eq_some_iff.mp hm').1
    rw [s.len] at this
    exact hn this
  have hnew : H a = none := l.new a (List.mem_of_getElem? e1) hac
  refine ⟨upd F' a (.lst vs), a, e1, ⟨fun b u q => ?_, s2.len, s2.nd, s2.there, fun k ys q => ?_, fun k u q => by
    obtain ⟨b, f1, f2, f3⟩ := s2.kel k u q
    have hb : b ≠ a := fun z => hac (z ▸ List.mem_of_getElem? f1)
    exact ⟨b, f1, by rw [upd_ne hb]; exact f2, f3⟩, fun k two g ys q => by
    obtain ⟨b, f1, hg⟩ := s2.gel k two g ys q
    have hb : b ≠ a := fun z => hac (z ▸ List.mem_of_getElem? f1)
    exact ⟨b, f1, hg.frz hb e2 fun c q => by rw [e3] at q; cases q⟩⟩, ⟨l2.ext.trans hx, l2.pre, l2.keep, l2.new, fun b u q => ?_⟩, .lst upd_same z.1 ((rs.down (m := 0) (fun k hk => absurd hk (Nat.not_lt_zero k)) z.2).mono hx (List.prefix_refl _))⟩
  · by_cases hb : b = a
    · subst hb; rw [upd_same] at q; cases q; exact e3
    · rw [upd_ne hb] at q; exact s2.le b u q
  · obtain ⟨b, ws, f1, f2, f3, f4, f5⟩ := s2.cel k ys q
    have hb : b ≠ a := fun z => hac (z ▸ List.mem_of_getElem? f1)
    exact ⟨b, ws, f1, by rw [upd_ne hb]; exact f2, f3, f4, f5.mono hx (List.prefix_refl _)⟩
  · by_cases hb : b = a
    · subst hb; exact .inr (.inr hnew)
    · rw [upd_ne hb] at q; exact l2.fz b u q
theorem pair_down {m : Nat} (h : ∀ n, n < m → ∀ a, ci'[n]? = some a → ci[n]? = some a) : ∀ {xs : List (Str × PV)} {fs : List (Str × V)}, bels m (xs.map (·.2)) = true → Paired (fun (p : Str × PV) (q : Str × V) => p.1 = q.1 ∧ Rp K F ci' p.2 q.2) xs fs → Paired (fun (p : Str × PV) (q : Str × V) => p.1 = q.1 ∧ Rp K F ci p.2 q.2) xs fs
  | _, _, _, .nil => .nil
  | _, _, b, .cons r rs => by
    simp only [List.map_cons, bels, Bool.and_eq_true] at b
    exact .cons ⟨r.1, Rp.down h b.1 r.2⟩ (pair_down h b.2 rs)
theorem xrep_down {mg : Str → Option Value} {x : Exc} {cls : Value} {d : Option Addr} {m : Nat} (hp : ∀ n, n < m → ∀ a, ci'[n]? = some a → ci[n]? = some a) (h : (x.fields.isEmpty || bels m (x.fields.map (·.2))) = true) (r : XRep K mg F ci' x cls d) : XRep K mg F ci x cls d := by
  obtain ⟨C, h1, h2, h3⟩ := r
  refine ⟨C, h1, h2, ?_⟩
  rcases h3 with h3 | ⟨h4, dd, fs, h5, h6, h7⟩
  · exact .inl h3
  · refine .inr ⟨h4, dd, fs, h5, h6, pair_down hp ?_ h7⟩
    cases hx : x.fields with
    | nil => exact absurd hx h4
    | cons a b => rw [hx] at h; simpa using h
end
theorem out_exitT {K : PySem.W.Frag} {mg : Str → Option Value} {E : XK} {F : Hp} {ci : List Addr} {S : Sto} {H : Hp} {f : FnDen} {ds : List PV} {Q : VK} (s : SR K F ci S H)
    (h : Out K (Zf K mg E) F ci H (exitT f ds S) fun d F' ci' S' H' => ∀ v, Rp K F' ci' d v → Q v H') : Out K (Zf K mg E) F ci H (f ds S) fun d F' ci' S' H' => ∀ v, Rp K F' ci' d v → Q v H' := by
  unfold exitT at h
  cases hf : f ds S with
  | stuck => rw [hf] at h; exact h
  | exc x S' =>
    rw [hf] at h
    dsimp only at h
    split at h
    · rename_i hx
      intro F' ci' H' l s' cls d xr
      obtain ⟨s2, l2⟩ := s.cut s' l
      exact h F' ci H' l2 s2 cls d (xrep_down (fun n hn a e => pre_down l.pre n (by rw [s.len]; exact hn) a e) hx xr)
    · exact h.elim
  | ok d S' =>
    rw [hf] at h
    intro F' ci' H' l s' v r
    obtain ⟨s2, l2⟩ := s.cut s' l
    dsimp only at h
    split at h
    · rename_i n
      split at h
      · rename_i hn
        refine h F' ci H' l2 s2 v ?_
        cases r with
        | cell e => exact .cell (pre_down l.pre n (by rw [s.len]; exact hn) _ e)
      · rename_i hn
        split at h
        · rename_i xs e
          obtain ⟨F'', a, e1, s3, l3, r3⟩ := s.froze s' l hn e
          cases r with
          | cell e' => rw [e1] at e'; cases e'; exact h F'' ci H' l3 s3 _ r3
        · exact h.elim
    · split at h
      · rename_i hb
        exact h F' ci H' l2 s2 v (r.down (fun n hn a e => pre_down l.pre n (by rw [s.len]; exact hn) a e) hb)
      · exact h.elim
section
variable {P : Program} {w : World} {K : PySem.W.Frag} {mg : Str → Option Value} {base : Heap} {CX : CXT} {k : Nat} {fa : Addr} {fd : FuncData} {ps : List Str} {n : Nat} {f : FnDen}
theorem fn_exitT (h : FnOk P w K mg base CX k fa fd ps (spF K mg n f)) : FnOk P w K mg base CX k fa fd ps (spF K mg n (exitT f)) := h.imp fun vs H Q E q => by
  obtain ⟨hl, F, ci, S, ds, sr, rs, q⟩ := q
  exact ⟨hl, F, ci, S, ds, sr, rs, out_exitT sr q⟩
end
end LH

/-! LM: calls with keywords, range downwards, a module's tuple, a hook with one more Bool. -/
namespace L2
open PySem PySem.Spec PyProof.Rows
theorem PK.imp {X : Cx} {e : List Keyword} {t t' : TA} (h : PK X e t) (i : ∀ σ H Q, t' σ H Q → t σ H Q) : PK X e t' := ⟨fun pos pins s σ H Q I q => h.run pos pins s σ H Q I (i σ H Q q)⟩
end L2
namespace LH
open PySem PySem.Spec PyProof.Rows L2

/-! ### keywords -/
def permG {α : Type} (pm : List Nat) (us ws : List α) : List α := pm.filterMap fun i => (us ++ ws)[i]?
theorem permG_vals {vs zs : List V} {us ws : List Value} (r : Vals vs us) (q : Vals zs ws) : ∀ pm : List Nat, Vals (permG pm vs zs) (permG pm us ws)
  | [] => .nil
  | i :: pm => by
    have ih := permG_vals r q pm
    have ra := r.append q
    unfold permG at ih ⊢
    rw [List.filterMap_cons, List.filterMap_cons]
    cases e : (vs ++ zs)[i]? with
    | none => rw [ra.none_of e]; exact ih
    | some x =>
      obtain ⟨u, eu, ru⟩ := ra.get e
      rw [eu]
      exact .cons ru ih
theorem permG_rps {K : PySem.W.Frag} {F : Hp} {ci : List Addr} {ds es : List PV} {vs zs : List V} (r : Rps K F ci ds vs) (q : Rps K F ci es zs) : ∀ pm : List Nat, Rps K F ci (permG pm ds es) (permG pm vs zs)
  | [] => .nil
  | i :: pm => by
    have ih := permG_rps r q pm
    have ra := r.append q
    unfold permG at ih ⊢
    rw [List.filterMap_cons, List.filterMap_cons]
    cases e : (ds ++ es)[i]? with
    | none =>
      have : (vs ++ zs)[i]? = none := by
        rw [List.getElem?_eq_none_iff] at e ⊢
        rw [← ra.length]; exact e
      rw [this]; exact ih
    | some x =>
      obtain ⟨u, eu, ru⟩ := ra.get e
      rw [eu]
      exact .cons ru ih
structure KwB (K : PySem.W.Frag) (fd : FuncData) (ps ks : List Str) (n : Nat) (pm : List Nat) : Prop where
  to : ∀ (s : Shared) (us ws : List Value), K.In s.heap → us.length = n → ws.length = ks.length → BindsTo s fd ⟨us, ks.zip ws⟩ (ps.zip (permG pm us ws))
theorem kw_of {K : PySem.W.Frag} {x qual : Str} {params : Arguments} {body : List Stmt} {scope : Scope} {f : Addr} {fd : FuncData} {ps ks : List Str} {n : Nat} {pm : List Nat} (F : FunD K x qual params body scope [] [] f fd)
    (h : ∀ (kV doc pm' : Value) (an : Option Addr) (cdv ct : Value) (us ws : List Value), us.length = n → ws.length = ks.length → bindArgs (PySem.W.fnOf x qual params body scope .none kV doc pm' an cdv ct) ⟨us, ks.zip ws⟩ = pure (ps.zip (permG pm us ws))) : KwB K fd ps ks n pm := by
  obtain ⟨oc, od, dV, kV, doc, pm', an, cdv, ct, osl, rfl, lk, hcd, hD, hK⟩ := F.ex
  rcases hD with ⟨_, rfl⟩ | ⟨e, _⟩
  · exact ⟨fun s us ws _ l1 l2 => .of_eq (h kV doc pm' an cdv ct us ws l1 l2)⟩
  · exact absurd rfl e
structure CalleeK (P : Program) (w : World) (K : PySem.W.Frag) (mg : Str → Option Value) (base : Heap) (k : Nat) (x : Str) (ps ks : List Str) (n : Nat) (pm : List Nat) (f : FnDen) : Prop where
  ex : ∃ fa fd, FnOk P w K mg base (L2.CX P w) k fa fd ps (spF K mg ps.length f) ∧ mg x = some (.ref fa) ∧ PySem.W.keepIn K (.ref fa) = true ∧ KwB K fd ps ks n pm
section
variable {X : Cx} {W : WX} {k j n : Nat} {x : Str} {ps ks : List Str} {pm : List Nat} {f : FnDen} {fe : ExprD} {e : Expr} {es : List Expr} {kws : List Keyword} {r rk : ArgsD} {p pos kpos : Pos} {nm : Option Str}
theorem dk_nil : PK X [] (tA X.K X.mg W nilA) := PK.imp pk_nil fun σ H Q h => by
  obtain ⟨env, F, ci, S, sr, er, h⟩ := h
  exact h.here sr [] .nil
theorem dk_cons (ha : PE X e (tE X.K X.mg W fe)) (hr : PK X kws (tA X.K X.mg W r)) : PK X (⟨nm, e, kpos⟩ :: kws) (tA X.K X.mg W (consA fe r)) := PK.imp (pk_cons ha hr) fun σ H Q h => by
  obtain ⟨env, F, ci, S, sr, er, h⟩ := h
  exact ⟨env, F, ci, S, sr, er, (Out.bind h).imp fun dx F1 c1 S1 H1 l1 s1 h1 v1 r1 => ⟨env, F1, c1, S1, s1, er.later l1, (Out.bind h1).imp fun ds F2 c2 S2 H2 l2 s2 h2 vs rs => h2.here s2 (v1 :: vs) (.cons (l2.rp r1) rs)⟩⟩
def callKE (f : FnDen) (pm : List Nat) (a ka : ArgsD) : ExprD := fun env S => (a env S).bind fun xs S1 => (ka env S1).bind fun zs S2 => f (permG pm xs zs) S2
end

/-! ### range downwards -/
def downP (i : Int) : Nat → List PV
  | 0 => []
  | n + 1 => .int i :: downP (i - 1) n
def range3I (a b c : ExprD) : IterD := fun env S => (a env S).bind fun x S1 => (b env S1).bind fun y S2 => (c env S2).bind fun z S3 => match x, y, z with
  | .int i, .int j, .int k => if k = -1 ∧ smallI i ∧ smallI j then .ok (none, downP i (i - j).toNat) S3 else .stuck
  | _, _, _ => .stuck
section
variable {K : PySem.W.Frag} {F : Hp} {ci : List Addr}
end
section
variable {X : Cx} {W : WX} {tg e e2 e3 : Expr} {p pos : Pos} {fa fb fc : ExprD}
end

/-! ### a module's tuple of texts -/
section
variable {X : Cx} {W : WX} {pos : Pos}
theorem de_gtup {x : Str} {zs : List Str} {u : Addr} (hm : X.mg x = some (.ref u)) (hs : ∀ H, SqT X.K H u (zs.map V.str)) (hz : zs.length ≤ sizeLine := by decide) (hg : Gl X x := by rfl) (hdb : (x == ("__debug__" : Str)) = false := by decide) : PE X (.Name x pos) (tE X.K X.mg W (cE (.tup (zs.map .str)))) :=
  de_c (pe_glob (v := .ref u) hg hm rfl hdb) fun F ci => .tup (hs F) (by simpa using hz) (by
    clear hs hz
    induction zs with
    | nil => exact .nil
    | cons z zs ih => exact .cons (.str z) ih)
end

/-! ### the hook, with one more Bool -/
def obsB (n : Nat) (fa : List He.Fa) (fn : List He.DefD) (ex : PySem.W.Frag → Bool) (g : Addr → Option Obj) : He.AlD × Bool := (He.obsDG n fa fn g, ex (He.frG g (He.asD g n)))
def hookB (n : Nat) (fa : List He.Fa) (fn : List He.DefD) (ex : PySem.W.Frag → Bool) : PySem.W.Hook where
  α := He.AlD × Bool
  obs := fun s => obsB n fa fn ex s.heap.get?
  val := fun _ => (He.valD fn, true)
  says := fun _ h => ∃ K : PySem.W.Frag, K.In h ∧ He.SaysD fa fn K ∧ ex K = true
  of := fun _ _ e => ⟨_, He.frG_in, congrArg Prod.fst e, congrArg Prod.snd e⟩
  keeps := fun _ _ _ ⟨K, hK, c⟩ k => ⟨K, PySem.W.Frag.In.keeps hK k, c⟩
end LH

/-! LN: isinstance by several types. -/
namespace LH
open PySem PySem.Spec PyProof.Rows L2
def isaAny (d : PV) : List String → Option Bool
  | [] => some false
  | T :: r => match isaB d T with
    | some true => some true
    | some false => isaAny d r
    | none => none
def isinsV (Ts : List String) (d : PV) (S : Sto) : Res PV := match d with
  | .ty _ => .stuck
  | .adr _ => .stuck
  | .opq _ => .stuck
  | .xo _ _ _ _ => .stuck
  | .cell n => match S[n]? with
    | some (.lst _) => match isaAny (.cell n) Ts with
      | some b => .ok (.bl b) S
      | none => .stuck
    | _ => .stuck
  | d => match isaAny d Ts with
    | some b => .ok (.bl b) S
    | none => .stuck
section
variable {X : Cx} {W : WX} {e : Expr} {es : List Expr} {Ts : List String} {f : ExprD} {p pos tpos : Pos} {kk : Nat}
end
end LH

/-! LO: a module's constants, the end of a law. -/
namespace LH
open PySem PySem.Spec PyProof.Rows L2
theorem bt_len : bootBuiltins "len" = some (.builtin "len") := by decide +kernel
theorem bt_min : bootBuiltins "min" = some (.builtin "min") := by decide +kernel
theorem bt_sum : bootBuiltins "sum" = some (.builtin "sum") := by decide +kernel
theorem bt_all : bootBuiltins "all" = some (.builtin "all") := by decide +kernel
theorem bt_isinstance : bootBuiltins "isinstance" = some (.builtin "isinstance") := by decide +kernel
theorem bt_int : bootBuiltins "int" = some (.type "int") := by decide +kernel
theorem bt_bool : bootBuiltins "bool" = some (.type "bool") := by decide +kernel
theorem bt_str : bootBuiltins "str" = some (.type "str") := by decide +kernel
theorem bt_tuple : bootBuiltins "tuple" = some (.type "tuple") := by decide +kernel
section
variable {X : Cx} {W : WX} {pos : Pos}
theorem de_gstrE {x z : Str} (h : ∃ t, X.mg x = some (.str z t)) (hg : Gl X x := by rfl) (hdb : (x == ("__debug__" : Str)) = false := by decide) : PE X (.Name x pos) (tE X.K X.mg W (cE (.str z))) := by
  obtain ⟨t, h⟩ := h
  exact de_gstr h ⟨t, rfl⟩ hg hdb
theorem de_gtupE {x : Str} {zs : List Str} (h : ∃ u, X.mg x = some (.ref u) ∧ ∀ H, SqT X.K H u (zs.map V.str)) (hz : zs.length ≤ sizeLine := by decide) (hg : Gl X x := by rfl) (hdb : (x == ("__debug__" : Str)) = false := by decide) : PE X (.Name x pos) (tE X.K X.mg W (cE (.tup (zs.map .str)))) := by
  obtain ⟨u, h1, h2⟩ := h
  exact de_gtup h1 h2 hz hg hdb
end
theorem callee_of {P : Program} {w : World} {K : PySem.W.Frag} {mg : Str → Option Value} {base : Heap} {k : Nat} {x qual : Str} {ps : List Str} {f : FnDen} {params : Arguments} {body : List Stmt} {scope : Scope} {fa : Addr} {fd : FuncData} (F : FunD K x qual params body scope [] [] fa fd)
    (o : FnOk P w K mg base (L2.CX P w) k fa fd ps (spF K mg ps.length f)) (hm : mg x = some (.ref fa)) (hb : ∀ (kV doc pm : Value) (an : Option Addr) (cdv ct : Value) (us : List Value), us.length = ps.length → bindArgs (PySem.W.fnOf x qual params body scope .none kV doc pm an cdv ct) ⟨us, []⟩ = pure (ps.zip us)) :
    Callee P w K mg base k x ps f := ⟨fa, fd, o, hm, F.kp, F.bindsN hb⟩
/-! a comprehension's scope within a comprehension -/
def relSc (scope sc : Scope) : Scope := { scope with names := scope.names.map fun (n, k) => if (k == .free && sc.kind == .function && sc.names.lookup n == some .cell) then (n, .cell) else (n, k) }
/-! a sum of lists that becomes a mutable list; what is never reached -/
def addCV : PV → PV → Sto → Res PV := fun x y S => match catOf S x, catOf S y with
  | some a, some b => if a.length + b.length ≤ sizeLine ∧ bels 0 (a ++ b) = true then .ok (.cell S.length) (S ++ [.lst (a ++ b)]) else .stuck
  | _, _ => .stuck
theorem od_addC {X : Cx} {E : XK} : OpR X (binaryOp .Add) (rD X.K X.mg E addCV) := by
  intro pins s σ H x y v u Q I rx ry q
  obtain ⟨F, ci, S, dx, dy, sr, r1, r2, q⟩ := q
  unfold addCV at q
  split at q
  · rename_i a b h1 h2
    split at q
    · rename_i z
      obtain ⟨l, vs, rfl, e1, rs1, _⟩ := cat_lst sr r1 h1
      obtain ⟨m, ws, rfl, e2, rs2, _⟩ := cat_lst sr r2 h2
      refine op_cat pins s σ H _ _ v u Q I rx ry ⟨l, m, vs, ws, rfl, rfl, e1, e2, by rw [← rs1.length, ← rs2.length]; exact z.1, fun p hp => ?_⟩
      obtain ⟨s2, l2, g⟩ := sr.celled (xs := a ++ b) hp ⟨by rw [List.length_append]; exact z.1, z.2⟩ (rs1.append rs2)
      exact q _ _ _ l2 s2 _ (.cell g)
    · exact q.elim
  · exact q.elim
def neverE : ExprD := fun _ _ => .stuck
/-! ### the end -/
theorem walk_own {l : PySem.W.OpenLaw} {n k : Nat} {q : Program} {loose : List Str} {XP : (Str → Option Value) → Heap → Prop} {YP : World → Heap → Prop} {d : DefRec} {x : Str} {f : FnDen}
    (hn : l.most = some n) (hn2 : n ≤ sizeLine) (hdf : d.params.defaults = []) (hr : Room k callerA)
    (F : ∀ (w : World) (mg : Str → Option Value) (fa : Addr) (h : Heap), YP w h → h.Ns mainGlobals mg → mg d.name = some (.ref fa) →
      ∃ (K : PySem.W.Frag) (fd : FuncData), K.In h ∧ (∀ (s : Shared) (u : Value), BindsTo s fd ⟨[u], []⟩ [(x, u)]) ∧ ∀ base : Heap, K.In base → base.Ns mainGlobals mg → FnOk l.prog w K mg base (L2.CX l.prog w) k fa fd [x] (spF K mg 1 f))
    (law : ∀ ns : List Int, ns.length ≤ n → ∃ S, f [.ro (ns.map .int)] [] = .ok (.bl true) S) :
    PySem.W.WalkO q loose XP YP l.row.toRowW d [] (fun f vs => PySem.call f vs) := by
  refine Att.attach_call hn hdf fun w s₀ s₁ mg mb fa o pm cd doc a vs ns G Y ho hd hcd hmg hobj hints hlen hg => ?_
  obtain ⟨K, fd, KX, hb, hF⟩ := F w mg fa _ Y G.T.g hmg
  refine law_call KX G.T.g G.T.b G.T.builtins G.T.nolimit hg hobj hints (Nat.le_trans hlen hn2) hr hF hb (fun H hO hS => ?_) fun H e s' z => ?_
  · obtain ⟨S, hS2⟩ := law ns hlen
    refine ⟨rfl, H, [], [], [.ro (ns.map .int)], ⟨fun _ _ h => h, rfl, List.nodup_nil, fun _ h => absurd h (by simp), fun _ _ h => by simp at h, fun _ _ h => by simp at h, fun _ _ _ _ h => by simp at h⟩, .cons (.ro hS (by rw [List.length_map]; exact Nat.le_trans hlen hn2) ?_) .nil, ?_⟩
    · clear hS hints hlen hS2
      induction ns with
      | nil => exact .nil
      | cons n ns ih => exact .cons (.int n) ih
    · rw [hS2]
      intro F' ci' H' _ _ v r
      exact r.bl_inv
  · obtain ⟨_, _, _, _, _, _, _, _, _, _, _, _, z⟩ := z
    exact z
end LH

/-! LP: more operators: is with a bool. -/
namespace LH
open PySem PySem.Spec PyProof.Rows L2
section
variable {X : Cx} {E : XK}
def isBV : PV → PV → Sto → Res PV := fun x y S => match x, y with
  | .bl a, .bl b => .ok (.bl (decide (a = b))) S
  | _, _ => .stuck
def isNotBV : PV → PV → Sto → Res PV := fun x y S => match x, y with
  | .bl a, .bl b => .ok (.bl (!decide (a = b))) S
  | _, _ => .stuck
@[simp] theorem isBV_b (a b : Bool) (S : Sto) : isBV (.bl a) (.bl b) S = .ok (.bl (decide (a = b))) S := (rfl)
@[simp] theorem isNotBV_b (a b : Bool) (S : Sto) : isNotBV (.bl a) (.bl b) S = .ok (.bl (!decide (a = b))) S := (rfl)
end
end LH

/-! LQ: zip of a list and a tuple, in any mix. -/
namespace LH
open PySem PySem.Spec PyProof.Rows L2
/-- t: a tuple, else a list -/
def SqB (t : Bool) (K : PySem.W.Frag) (H : Hp) (a : Addr) (xs : List V) : Prop := match t with
  | true => SqT K H a xs
  | false => SqL K H a xs
def AtB (t : Bool) (h : Heap) (it a : Addr) (i : Nat) : Prop := match t with
  | true => h.IsTupleIter it a i
  | false => h.IsListIter it a i
def IsB (t : Bool) (h : Heap) (a : Addr) (xs : Array Value) : Prop := match t with
  | true => h.IsTuple a xs
  | false => h.IsList a xs
theorem AtB.keep {t : Bool} {h h' : Heap} {it a : Addr} {i : Nat} (q : AtB t h it a i) (k : ∀ o, h.get? it = some o → h'.get? it = some o) : AtB t h' it a i := by
  cases t with
  | true => exact Heap.IsTupleIter.at q k
  | false => exact Heap.IsListIter.at q k
theorem AtB.obj {t : Bool} {h : Heap} {it a : Addr} {i : Nat} (q : AtB t h it a i) : ∃ o, h.get? it = some o ∧ ∀ v, o.data ≠ .cell v := by
  cases t with
  | true => obtain ⟨o, e, _, d⟩ := q; exact ⟨o, e, fun v q => by rw [d] at q; cases q⟩
  | false => obtain ⟨o, e, _, d⟩ := q; exact ⟨o, e, fun v q => by rw [d] at q; cases q⟩
theorem draws_B {P : Program} {w : World} {A : Around} (hh : A.handled = none) (t : Bool) {it a : Addr} (hne : a ≠ it) (its : Array Value) :
    Draws P w A it [it, a] its.size (fun i v => its[i]? = some v) (fun i h => AtB t h it a i ∧ IsB t h a its) := by
  cases t with
  | true => exact Draws.tuple hh it a hne its
  | false => exact Draws.list hh it a hne its
theorem sqB_at {X : Cx} {pins : List (Addr × Obj)} {σ : L2.St} {H : Hp} {s : Shared} {t : Bool} {a : Addr} {xs : List V} (I : Inv X pins σ H s) (h : SqB t X.K H a xs) : ∃ its : List Value, Vals xs its ∧ IsB t s.heap a its.toArray := by
  cases t with
  | true => obtain ⟨its, rv, p, _⟩ := I.tuple h; exact ⟨its, rv, p⟩
  | false => obtain ⟨its, rv, p, _⟩ := I.list h; exact ⟨its, rv, p.isList⟩
theorem sqB_inj {X : Cx} {pins : List (Addr × Obj)} {σ : L2.St} {H : Hp} {s : Shared} {t : Bool} {a : Addr} {xs ys : List V} (I : Inv X pins σ H s) (h : SqB t X.K H a xs) (h' : SqB t X.K H a ys) : xs = ys := by
  cases t with
  | true => exact I.tuple_inj h h'
  | false => exact I.list_inj h h'
theorem isB_lt {t : Bool} {h : Heap} {a : Addr} {xs : Array Value} (p : IsB t h a xs) : a < h.objs.size := by
  cases t with
  | true => obtain ⟨o, e, _⟩ := p; exact Heap.lt_size e
  | false => obtain ⟨o, e, _⟩ := p; exact Heap.lt_size e
def ItzM (K : PySem.W.Frag) (t u : Bool) (a b : Addr) : It where
  go i H := ∃ (xs ys : List V) (x y : V), SqB t K H a xs ∧ SqB u K H b ys ∧ xs[i]? = some x ∧ ys[i]? = some y
  yld i H v H' := ∃ T x y, v = .ref T ∧ H T = none ∧ H' = upd H T (.tup [x, y]) ∧ (∀ xs, SqB t K H a xs → xs[i]? = some x) ∧ ∀ ys, SqB u K H b ys → ys[i]? = some y
  stop i H := ∃ xs ys : List V, SqB t K H a xs ∧ SqB u K H b ys ∧ i ≤ xs.length ∧ i ≤ ys.length ∧ (i = xs.length ∨ i = ys.length)
section
variable {P : Program} {w : World} {K : PySem.W.Frag} {elts : List Expr} {kk : Nat} {tpos : Pos} {t u : Bool} {a b z TI TO i1 i2 : Addr}
def ZSt (t u : Bool) (a b z TI TO i1 i2 : Addr) (i : Nat) (h : Heap) : Prop := IsZip h z TI TO .none ∧ IsTupOf2 h TI (.ref i1) (.ref i2) ∧ (∃ x y, IsTupOf2 h TO x y) ∧ AtB t h i1 a i ∧ AtB u h i2 b i
theorem turn_mix (S : ZipSep2 z TI TO i1 i2 [i1, a] [i2, b]) (na : a ≠ i1) (nb : b ≠ i2) : Turn P w K (.Tuple elts kk tpos) (ItzM K t u a b) [z, TI, TO, i1, i2] z (ZSt t u a b z TI TO i1 i2) := by
  have d12 : i1 ≠ i2 := fun e => S.sep1_2 (by rw [e]; exact List.mem_cons_self ..)
  constructor
  case mem => exact List.mem_cons_self ..
  case obj =>
    rintro i h ⟨q1, q2, ⟨x, y, q3⟩, q4, q5⟩ c hc
    simp only [List.mem_cons, List.not_mem_nil, or_false] at hc
    rcases hc with rfl | rfl | rfl | rfl | rfl
    · exact ⟨_, q1, fun v => nofun⟩
    · exact ⟨_, q2, fun v => nofun⟩
    · exact ⟨_, q3, fun v => nofun⟩
    · exact q4.obj
    · exact q5.obj
  case keep =>
    rintro i h h' ⟨q1, q2, ⟨x, y, q3⟩, q4, q5⟩ k
    exact ⟨k _ (by simp) _ q1, k _ (by simp) _ q2, ⟨x, y, k _ (by simp) _ q3⟩, q4.keep (k _ (by simp)), q5.keep (k _ (by simp))⟩
  case item =>
    intro X hP hw hK hc i pins s σ H E I hf st hg
    subst hP hw hK
    obtain ⟨q1, q2, ⟨x0, y0, q3⟩, q4, q5⟩ := st
    obtain ⟨xs, ys, x, y, hqx, hqy, hx, hy⟩ := hg
    obtain ⟨its, rv, p⟩ := sqB_at I hqx
    obtain ⟨jts, rv2, p2⟩ := sqB_at I hqy
    have hh : X.A.in1.handled = none := I.ok.hd hc
    obtain ⟨v1, hv1, r1⟩ := rv.get hx
    obtain ⟨v2, hv2, r2⟩ := rv2.get hy
    have hzl : z < s.heap.objs.size := Heap.lt_size q1
    refine wpAny_pyNext_zipD2_item (i := i) S (draws_B hh t na its.toArray) (draws_B hh u nb jts.toArray) q1 q2 q3 ⟨q4, p⟩ ⟨q5, p2⟩ (by simpa using (List.getElem?_eq_some_iff.mp hv1).1) (by simpa using (List.getElem?_eq_some_iff.mp hv2).1)
      fun w1 w2 h' tk f1 f2 z' TO' e1 e2 hT hsz hk => ?_
    have g1 : w1 = v1 := by
      have : its[i]? = some w1 := by simpa using f1
      rw [hv1] at this; exact (Option.some.inj this).symm
    have g2 : w2 = v2 := by
      have : jts[i]? = some w2 := by simpa using f2
      rw [hv2] at this; exact (Option.some.inj this).symm
    subst g1 g2
    refine ⟨_, rfl, wpAny_letOwnedTupleGo_zip (s := { s with heap := h', toks := tk }) z' fun h'' z'' sb => ?_⟩
    have out : ∀ {c : Addr} {o : Obj}, c ≠ z → c ≠ TO → c ≠ i1 → c ≠ i2 → s.heap.get? c = some o → h''.get? c = some o := fun n1 n2 n3 n4 e => (sb.2 _ n1).trans (hk _ _ n1 n2 n3 n4 e)
    have hT2 : h''.get? s.heap.objs.size = some { cls := .type "tuple", data := .seq #[w1, w2] } := (sb.2 _ (Nat.ne_of_gt hzl)).trans hT
    have new : ObjOk X.prog X.w (upd H s.heap.objs.size (.tup [x, y])) h'' s.heap.objs.size (.tup [x, y]) := ⟨(by decide : 2 ≤ sizeLine), [w1, w2], .cons r1 (.cons r2 .nil), ⟨_, hT2, rfl, _, rfl⟩⟩
    have I1 : Inv X pins σ (upd H s.heap.objs.size (.tup [x, y])) { s with heap := h'', toks := tk } :=
      I.turnedNew (t' := tk) (ch := [z, TI, TO, i1, i2]) (fun c o hb q => by
        simp only [List.mem_cons, List.not_mem_nil, or_false, not_or] at hb
        exact out hb.1 hb.2.2.1 hb.2.2.2.1 hb.2.2.2.2 q) hf (Nat.le_refl _) new
    refine ⟨.ref s.heap.objs.size, _, I1, rfl, ⟨_, x, y, rfl, I.hok.fresh (Nat.le_refl _), rfl, fun l hl => ?_, fun l hl => ?_⟩, ⟨z'', ?_, ⟨w1, w2, ?_⟩, ?_, ?_⟩, fun c hcm => ?_⟩
    · rw [sqB_inj I hl hqx]; exact hx
    · rw [sqB_inj I hl hqy]; exact hy
    · exact out S.TIz S.TITO S.TIi1 S.TIi2 q2
    · exact (sb.2 _ S.TOz).trans TO'
    · exact e1.1.keep fun o q => (sb.2 _ S.zi1.symm).trans q
    · exact e2.1.keep fun o q => (sb.2 _ S.zi2.symm).trans q
    · have hlt : c < s.heap.objs.size := by
        have hcm' := hcm
        simp only [List.mem_cons, List.not_mem_nil, or_false] at hcm'
        rcases hcm' with rfl | rfl | rfl | rfl | rfl
        · exact hzl
        · exact Heap.lt_size q2
        · exact Heap.lt_size q3
        · obtain ⟨_, e, _⟩ := q4.obj; exact Heap.lt_size e
        · obtain ⟨_, e, _⟩ := q5.obj; exact Heap.lt_size e
      rw [upd_ne (Nat.ne_of_lt hlt)]
      exact (hf c hcm).1
  case done =>
    intro X hP hw hK hc i pins s σ H E I hf st hg
    subst hP hw hK
    obtain ⟨q1, q2, ⟨x0, y0, q3⟩, q4, q5⟩ := st
    obtain ⟨xs, ys, hqx, hqy, hend⟩ := hg
    obtain ⟨its, rv, p⟩ := sqB_at I hqx
    obtain ⟨jts, rv2, p2⟩ := sqB_at I hqy
    have hh : X.A.in1.handled = none := I.ok.hd hc
    have l1 : its.toArray.size = xs.length := by rw [List.size_toArray, ← rv.length]
    have l2 : jts.toArray.size = ys.length := by rw [List.size_toArray, ← rv2.length]
    obtain ⟨h1, h2, h3⟩ := hend
    refine wpAny_pyNext_zipD2_end (i := i) S (draws_B hh t na its.toArray) (draws_B hh u nb jts.toArray) q1 q2 q3 ⟨q4, p⟩ ⟨q5, p2⟩ (by omega) (by omega) (by omega) fun h' tk hk => ⟨rfl, ?_⟩
    refine I.turnedL (t' := tk) (ch := [z, TI, TO, i1, i2]) (fun c o hb q => ?_) hf
    simp only [List.mem_cons, List.not_mem_nil, or_false, not_or] at hb
    exact hk _ _ hb.1 hb.2.2.1 hb.2.2.2.1 hb.2.2.2.2 q
  case self => exact fun A i s Q E st h => wpAny_pyIter_zip st.1 h
def objB (t : Bool) (a : Addr) : Obj := match t with
  | true => { cls := .type "tuple_iterator", data := .fields #[.ref a, .int 0 0] }
  | false => { cls := .type "list_iterator", data := .fields #[.ref a, .int 0 0] }
theorem begins_B (t : Bool) (a : Addr) (xs : Array Value) : Begins (.ref a) (objB t a) fun h => IsB t h a xs := by
  cases t with
  | true => exact begins_tuple a xs
  | false => exact begins_list a xs
theorem atB_new {t : Bool} {h : Heap} {it a : Addr} (e : h.get? it = some (objB t a)) : AtB t h it a 0 := by
  cases t with
  | true => exact ⟨_, e, rfl, rfl⟩
  | false => exact ⟨_, e, rfl, rfl⟩
end
theorem pi_zipM {X : Cx} {e e2 : Expr} {ta : TA} {p pos tpos : Pos} {elts : List Expr} {kk : Nat} (hg : Gl X "zip") (hm : X.mg "zip" = none) (ha : PA X [e, e2] ta)
    (hs : starEach [e, e2] X.env = (false, eval e X.env) :: starEach [e2] X.env) (hpl : (backTo pos (starEach [e2] X.env)).any (·.1) = false) :
    PI X (.Tuple elts kk tpos) (.Call (.Name "zip" p) [e, e2] [] pos) (fun σ H R => ta σ H fun vs H1 => ∃ t u a b xs ys, vs = [.ref a, .ref b] ∧ SqB t X.K H1 a xs ∧ SqB u X.K H1 b ys ∧ R (ItzM X.K t u a b) H1) := by
  constructor
  intro pins s σ H R I h
  have boot := PyProof.Rows.boot_zip
  refine Call_ (ld_blt I hg hm boot ?_)
  refine PyProof.Rows.callWith_type1 (thn (ha.run pos pins s σ H _ I h) fun us s1 ⟨vs, H1, I1, r1, q1⟩ => ?_) hs hpl
  obtain ⟨t, u, a, b, xs, ys, ex, hqx, hqy, q⟩ := q1
  subst ex
  obtain ⟨va, us, rfl, ra, r1⟩ : ∃ va us', us = va :: us' ∧ RelV (.ref a) va ∧ Vals [.ref b] us' := by cases r1 with | cons r rr => exact ⟨_, _, rfl, r, rr⟩
  obtain ⟨vb, rfl, rb⟩ := vals1 r1
  cases ra
  cases rb
  obtain ⟨its, rv, p1⟩ := sqB_at I1 hqx
  obtain ⟨jts, rv2, p2⟩ := sqB_at I1 hqy
  have la := isB_lt p1
  have lb := isB_lt p2
  refine zip_begins2 (begins_B t a its.toArray) (begins_B u b jts.toArray) p1 p2 fun h' hz hTI hTO h1 h2 hsz hk => wpAny_pyIter_zip hz ?_
  have I2 : Inv X pins σ H1 { s1 with heap := h' } := I1.kept (t' := s1.toks) hk
  have S := zip_sep2 (N := s1.heap.objs.size) (fp1 := [a]) (fp2 := [b]) (by simpa using la) (by simpa using lb)
  have na : a ≠ s1.heap.objs.size := Nat.ne_of_lt la
  have nb : b ≠ (s1.heap.objs.size + 1 : Nat) := Nat.ne_of_lt (Nat.lt_succ_of_lt lb)
  refine ⟨s1.heap.objs.size + 4, [s1.heap.objs.size + 4, s1.heap.objs.size + 2, s1.heap.objs.size + 3, s1.heap.objs.size, s1.heap.objs.size + 1], _, _, H1, rfl, I2, turn_mix S na nb, ⟨hz, hTI, ⟨_, _, hTO⟩, atB_new h1, atB_new h2⟩, fun c hcm => ?_, q⟩
  have hle : s1.heap.objs.size ≤ c := by
    simp only [List.mem_cons, List.not_mem_nil, or_false] at hcm
    rcases hcm with z | z | z | z | z <;> rw [z] <;> first | exact Nat.le_refl _ | exact Nat.le_add_right _ _
  exact I1.fpOk hle (I1.hok.fresh hle)
/-- a sequence at an address -/
structure BAt (t : Bool) (K : PySem.W.Frag) (F : Hp) (ci : List Addr) (ds : List PV) (a : Addr) : Prop where
  at_ : ∀ (F1 : Hp) (c1 : List Addr) (S1 : Sto) (H1 : Hp), Ext F F1 → ci <+: c1 → SR K F1 c1 S1 H1 → ∃ vs, SqB t K H1 a vs ∧ Rps K F1 c1 ds vs
theorem wk_zipM {K : PySem.W.Frag} {F : Hp} {ci : List Addr} {t u : Bool} {xs ys : List PV} {a b : Addr} (l : BAt t K F ci xs a) (m : BAt u K F ci ys b) : Wk K F ci none (zipP xs ys) (ItzM K t u a b) := by
  intro i F1 c1 S1 H1 e p s w
  obtain ⟨vs, h, rs⟩ := l.at_ F1 c1 S1 H1 e p s
  obtain ⟨ws, h', rs'⟩ := m.at_ F1 c1 S1 H1 e p s
  rw [zipP_len]
  have n1 := rs.length
  have n2 := rs'.length
  constructor
  · intro hi
    obtain ⟨v, hv, rv⟩ := rs.get (List.getElem?_eq_getElem (show i < xs.length by omega))
    obtain ⟨u, hu, ru⟩ := rs'.get (List.getElem?_eq_getElem (show i < ys.length by omega))
    refine ⟨⟨vs, ws, v, u, h, h', hv, hu⟩, ?_⟩
    rintro z H2 ⟨T, x1, x2, e1, nT, e2, f1, f2⟩
    subst e1 e2
    have g1 := f1 vs h
    have g2 := f2 ws h'
    rw [hv] at g1
    rw [hu] at g2
    cases g1
    cases g2
    obtain ⟨F2, l2, s2, r2⟩ := pair_new s nT rv ru
    exact ⟨F2, l2, s2, _, zipP_get _ _ _ _ _ (List.getElem?_eq_getElem _) (List.getElem?_eq_getElem _), r2⟩
  · intro hi
    exact ⟨vs, ws, h, h', by omega, by omega, by omega⟩
def zipMI (a b : ExprD) : IterD := fun env S => (a env S).bind fun x S1 => (b env S1).bind fun y S2 => match frozen x, frozen y with
  | some (_, xs), some (_, ys) => .ok (none, zipP xs ys) S2
  | _, _ => .stuck
theorem bat_frozen {K : PySem.W.Frag} {F : Hp} {ci : List Addr} {S : Sto} {H : Hp} {d : PV} {v : V} {t : Bool} {xs : List PV} (s : SR K F ci S H) (r : Rp K F ci d v) (h : frozen d = some (t, xs)) : xs.length ≤ sizeLine ∧ ∃ a, v = .ref a ∧ BAt t K F ci xs a ∧ ∃ vs, SqB t K H a vs := by
  obtain ⟨z, a, rfl, q⟩ := at_frozen s r h
  rcases q with ⟨rfl, ta, vs, hv, _⟩ | ⟨rfl, la, vs, hv, _⟩
  · exact ⟨z, a, rfl, ⟨fun F1 c1 S1 H1 e p s => ta.at_ F1 c1 S1 H1 e p s⟩, vs, hv⟩
  · exact ⟨z, a, rfl, ⟨fun F1 c1 S1 H1 e p s => la.at_ F1 c1 S1 H1 e p s True.intro⟩, vs, hv⟩
theorem di_zipM {X : Cx} {W : WX} {e e2 : Expr} {p pos tpos : Pos} {fa fb : ExprD} {elts : List Expr} {kk : Nat} (ha : PE X e (tE X.K X.mg W fa)) (hb : PE X e2 (tE X.K X.mg W fb)) (hm : X.mg "zip" = none) (hg : Gl X "zip" := by rfl)
    (hs : starEach [e, e2] X.env = (false, eval e X.env) :: starEach [e2] X.env := by rfl) (hs2 : starEach [e2] X.env = (false, eval e2 X.env) :: starEach [] X.env := by rfl) (hpl : (backTo pos (starEach [e2] X.env)).any (·.1) = false := by rfl) :
    PI X (.Tuple elts kk tpos) (.Call (.Name "zip" p) [e, e2] [] pos) (tI X.K X.mg W (zipMI fa fb)) := by
  refine (pi_zipM hg hm (pa_cons ha (pa_cons hb pa_nil hs2) hs) hs hpl).imp fun σ H R h => ?_
  obtain ⟨env, F, ci, S, sr, er, h⟩ := h
  refine args2 (g := fun x y S2 => match frozen x, frozen y with | some (_, xs), some (_, ys) => .ok (none, zipP xs ys) S2 | _, _ => .stuck) sr er h fun F2 c2 S2 H2 x y dx dy l2 s2 rx ry h2 => ?_
  split at h2
  · rename_i t xs u ys hx hy
    obtain ⟨zx, a, rfl, qa, vs, hv⟩ := bat_frozen s2 rx hx
    obtain ⟨zy, b, rfl, qb, ws, hw⟩ := bat_frozen s2 ry hy
    exact ⟨t, u, a, b, vs, ws, rfl, hv, hw, (Out.here (d := ((none : Option Nat), _)) h2 s2) _ (wk_zipM qa qb) (by rw [zipP_len]; omega)⟩
  · exact h2.elim
def zmK2 (x y : PV) (S : Sto) : Res (Option Nat × List PV) := match frozen x, frozen y with
  | some (_, xs), some (_, ys) => .ok (none, zipP xs ys) S
  | _, _ => .stuck
def zmK (b : ExprD) (env : PEnv) (x : PV) (S : Sto) : Res (Option Nat × List PV) := (b env S).bind (zmK2 x)
@[simp] theorem zipMI_s {a b : ExprD} {env : PEnv} {S : Sto} : zipMI a b env S = (a env S).bind (zmK b env) := (rfl)
@[simp] theorem zmK_s {b : ExprD} {env : PEnv} {x : PV} {S : Sto} : zmK b env x S = (b env S).bind (zmK2 x) := (rfl)
@[simp] theorem zmK2_ll {xs ys : List PV} {S : Sto} : zmK2 (.lst xs) (.lst ys) S = .ok (none, zipP xs ys) S := (rfl)
@[simp] theorem zmK2_tt {xs ys : List PV} {S : Sto} : zmK2 (.tup xs) (.tup ys) S = .ok (none, zipP xs ys) S := (rfl)
@[simp] theorem zmK2_tl {xs ys : List PV} {S : Sto} : zmK2 (.tup xs) (.lst ys) S = .ok (none, zipP xs ys) S := (rfl)
@[simp] theorem zmK2_lt {xs ys : List PV} {S : Sto} : zmK2 (.lst xs) (.tup ys) S = .ok (none, zipP xs ys) S := (rfl)
end LH

/-! LR: sets and dicts of ints, sorted. -/
namespace LH
open PySem PySem.Spec PyProof.Rows L2
abbrev emptySet (w : World) : Obj := { cls := .type "set", dict := none, data := .set #[] 0 (.fresh 0 0 (!w.params.followText "set-order")) }
section
variable {P : Program} {w : World} {A : Around} {E : Value → Shared → Prop} {s : Shared} {L : Addr}
end
section
variable {X : Cx}
/-- set(xs), xs a list of ints -/
def rSetI (K : PySem.W.Frag) (w : World) : List V → Hp → VK → Prop := fun xs H Q => ∃ (l : Addr) (ns : List Int), xs = [V.ref l] ∧ SqL K H l (ns.map V.int) ∧ ns.length + 1 < scanBound ∧
  ∀ a n, H a = none → Q (.ref a) (upd H a (SetO w a (fun j => decide (j ∈ ns)) n))
/-- sorted of a set of ints -/
def rSortSetI (w : World) : List V → Hp → VK → Prop := fun vs H Q => ∃ (a : Addr) (S : Int → Bool) (n : Nat), vs = [V.ref a] ∧ H a = some (SetO w a S n) ∧
  ∀ (ns : List Int) (p : Addr), ns.Pairwise (· < ·) → (∀ k : Int, k ∈ ns ↔ S k = true) → ns.length ≤ sizeLine → H p = none → Q (.ref p) (upd H p (.lst (ns.map V.int)))
end
end LH

/-! LT: dicts of ints as mutable things, sorted; list(range(..)); two sources in one comprehension. -/
namespace LH
open PySem PySem.Spec PyProof.Rows L2
/-! ### mutable things that are no lists -/
section
variable {K : PySem.W.Frag} {F : Hp} {ci : List Addr} {S : Sto} {H : Hp}
end
/-! ### sorted of a dict of ints: any number of keys -/
section
variable {X : Cx}
def rSortDI (K : PySem.W.Frag) : List V → Hp → VK → Prop := fun xs H Q => ∃ (a : Addr) (kvs : List (Key × V)) (ks : List Int), xs = [.ref a] ∧ H a = some (.dK kvs) ∧ kvs.map (·.1) = ks.map Sum.inl ∧ kvs.length ≤ sizeLine ∧
  ∀ (ys : List Int) (p : Addr), ys.Perm ks → ys.Pairwise (· ≤ ·) → H p = none → Q (.ref p) (upd H p (.lst (ys.map V.int)))
/-! ### the combinators -/
/-- {n: b} -/
def dctE (n : Int) (b : Bool) : ExprD := fun _ S => .ok (.cell S.length) (S ++ [.raw (.dK [(Sum.inl n, V.bl b)])])
variable {W : WX}
def setDC (n : Nat) (k : Int) (b : Bool) (env : PEnv) (S : Sto) : Res Flow := match S[n]? with
  | some (.raw (.dK kvs)) => if kvs.length < sizeLine then .ok (.nx env) (S.set n (.raw (.dK (putK kvs (Sum.inl k) (V.bl b))))) else .stuck
  | _ => .stuck
/-- d[k] = v, d a dict of ints -/
def setDS (fo fi f : ExprD) : StmtD := fun env S => runE (f env S) env fun y S1 => runE (fo env S1) env fun d S2 => runE (fi env S2) env fun i S3 => match d, i, y with
  | .cell n, .int k, .bl b => setDC n k b env S3
  | _, _, _ => .stuck
/-! ascending ints -/
def onceI : List Int → List Int
  | [] => []
  | a :: r => if a ∈ onceI r then onceI r else a :: onceI r
theorem onceI_mem : ∀ (l : List Int) (k : Int), k ∈ onceI l ↔ k ∈ l
  | [], k => by simp [onceI]
  | a :: r, k => by
    have ih := onceI_mem r k
    unfold onceI
    split
    · rename_i h
      rw [ih, List.mem_cons]
      exact ⟨.inr, fun z => z.elim (fun e => by subst e; exact ih.mp h) id⟩
    · rw [List.mem_cons, List.mem_cons, ih]
theorem onceI_nodup : ∀ l : List Int, (onceI l).Nodup
  | [] => .nil
  | a :: r => by
    unfold onceI
    split
    · exact onceI_nodup r
    · rename_i h; exact List.nodup_cons.mpr ⟨h, onceI_nodup r⟩
def ascI (ns : List Int) : List Int := (onceI ns).mergeSort fun a b => decide (a ≤ b)
theorem lt_of_nodup : ∀ l : List Int, l.Pairwise (· ≤ ·) → l.Nodup → l.Pairwise (· < ·) := lt_of_le_nodup
theorem sort_le (ns : List Int) : (ns.mergeSort fun a b => decide (a ≤ b)).Pairwise (· ≤ ·) := by
  have := List.pairwise_mergeSort (le := fun a b : Int => decide (a ≤ b)) (fun a b c h1 h2 => by simp at *; omega) (fun a b => by simp; omega) ns
  exact this.imp fun h => by simpa using h
theorem asc_uniq : ∀ {l m : List Int}, l.Pairwise (· < ·) → m.Pairwise (· < ·) → (∀ k, k ∈ l ↔ k ∈ m) → l = m
  | [], [], _, _, _ => rfl
  | [], b :: m, _, _, h => by have := (h b).mpr List.mem_cons_self; cases this
  | a :: l, [], _, _, h => by have := (h a).mp List.mem_cons_self; cases this
  | a :: l, b :: m, hl, hm, h => by
    rw [List.pairwise_cons] at hl hm
    have e : a = b := by
      rcases List.mem_cons.mp ((h a).mp List.mem_cons_self) with z | z
      · exact z
      · rcases List.mem_cons.mp ((h b).mpr List.mem_cons_self) with w | w
        · exact w.symm
        · have := hm.1 a z; have := hl.1 b w; omega
    subst e
    congr 1
    refine asc_uniq hl.2 hm.2 fun k => ⟨fun hk => ?_, fun hk => ?_⟩
    · rcases List.mem_cons.mp ((h k).mp (List.mem_cons_of_mem _ hk)) with z | z
      · subst z; have := hl.1 k hk; omega
      · exact z
    · rcases List.mem_cons.mp ((h k).mpr (List.mem_cons_of_mem _ hk)) with z | z
      · subst z; have := hm.1 k hk; omega
      · exact z
theorem ascI_lt (ns : List Int) : (ascI ns).Pairwise (· < ·) := lt_of_nodup _ (sort_le _) ((List.mergeSort_perm _ _).nodup_iff.mpr (onceI_nodup ns))
theorem ascI_mem (ns : List Int) (k : Int) : k ∈ ascI ns ↔ k ∈ ns := by unfold ascI; rw [List.mem_mergeSort, onceI_mem]
def setSortIV (x : PV) (S : Sto) : Res PV := match lstOf S x with
  | some ys => (match asInts ys with
    | some ns => if ns.length ≤ 4000 then .ok (.lst ((ascI ns).map .int)) S else .stuck
    | none => .stuck)
  | none => .stuck
def keysI : List (Key × V) → Option (List Int)
  | [] => some []
  | (Sum.inl k, _) :: r => (keysI r).map (k :: ·)
  | _ => none
def sortDV (xs : List PV) (S : Sto) : Res PV := match xs with
  | [.cell n] => (match S[n]? with
    | some (.raw (.dK kvs)) => (match keysI kvs with
      | some ks => if ks.length ≤ 100000 then .ok (.lst ((ks.mergeSort fun a b => decide (a ≤ b)).map .int)) S else .stuck
      | none => .stuck)
    | _ => .stuck)
  | _ => .stuck
/-- list(range(a, b)) -/
def lrgV (x y : PV) (S : Sto) : Res PV := match x, y with
  | .int i, .int j => if smallI i ∧ smallI j ∧ (j - i).toNat ≤ 10000 then .ok (.lst (rangeP i (j - i).toNat)) S else .stuck
  | _, _ => .stuck
end
end LH

/-! LU: comprehensions over two sources. -/
namespace LH
open PySem PySem.Spec PyProof.Rows L2
theorem ER.mono {K : PySem.W.Frag} {F F' : Hp} {ci ci' : List Addr} {env : PEnv} {σ : St} (r : ER K F ci env σ) (e : Ext F F') (p : ci <+: ci') : ER K F' ci' env σ := ⟨r.len, fun i d h => by
  obtain ⟨v, q1, q2⟩ := r.get i d h
  exact ⟨v, q1, q2.mono e p⟩⟩
noncomputable def compL2 (o : Option Nat) (ds : List PV) (t : Tg) (it1 : IterD) (t1 : Tg) (ws1 : List Nat) (el : ExprD) (env0 : PEnv) : List PV → List PV → Sto → Res PV
  | [], acc, S => guardW o ds S (.ok (.lst acc) S)
  | d :: r, acc, S => guardW o ds S (match t.bind S d env0 with
    | none => .stuck
    | some env1 => (nox (it1 env1 S)).bind fun p S1 => if acc.length + p.2.length ≤ sizeLine then (compL p.1 p.2 t1 yesT el (wipeE env1 ws1) p.2 acc S1).bind fun x S2 => (match x with
      | .lst acc' => compL2 o ds t it1 t1 ws1 el env0 r acc' S2
      | _ => .stuck) else .stuck)
noncomputable def compE2 (it : IterD) (t : Tg) (it1 : IterD) (t1 : Tg) (ws ws1 : List Nat) (el : ExprD) : ExprD := fun env S => (it env S).bind fun p S1 => compL2 p.1 p.2 t it1 t1 ws1 el (wipeE env ws) p.2 [] S1
section
variable {it it1 : IterD} {t t1 : Tg} {el : ExprD}
variable {X : Cx} {W : WX} {elt tg iter tg1 iter1 : Expr} {scope : Scope} {own : List (Str × Nat)} {ws1 : List Nat} {pos : Pos}
end
end LH

/-! LV: a slice as a new mutable list. -/
namespace LH
open PySem PySem.Spec PyProof.Rows L2
def sliceCV (x : PV) (lo hi : Option Int) (S : Sto) : Res PV := match lstOf S x with
  | some xs => if bels 0 (cutP xs lo hi) = true then .ok (.cell S.length) (S ++ [.lst (cutP xs lo hi)]) else .stuck
  | none => .stuck
def sliceCE (a : ExprD) (l h : PartD) : ExprD := fun env S => (a env S).bind fun x S1 => (l env S1).bind fun lo S2 => (h env S2).bind fun hi S3 => sliceCV x lo hi S3
section
variable {X : Cx} {W : WX} {e : Expr} {lo hi : Option Expr} {p2 pos : Pos} {f : ExprD} {l h : PartD}
def rSlC (K : PySem.W.Frag) (mg : Str → Option Value) (E : XK) : V → Option Int → Option Int → Hp → VK → Prop := fun x lo hi H Q => ∃ F ci S d, SR K F ci S H ∧ Rp K F ci d x ∧ Out K (Zf K mg E) F ci H (sliceCV d lo hi S) fun d F' ci' S' H' => ∀ v, Rp K F' ci' d v → Q v H'
end
end LH

/-! LX: a module's tuple of ints. -/
namespace LH
open PySem PySem.Spec PyProof.Rows L2
section
variable {X : Cx} {W : WX} {pos : Pos}
end
end LH

/-! LY: a or b, a any value of which the truth is known. -/
namespace LH
open PySem PySem.Spec PyProof.Rows L2
section
variable {X : Cx} {W : WX} {a b : Expr} {pos : Pos} {fa fb : ExprD}
def tOrT (K : PySem.W.Frag) (ta tb : TE) : TE := fun σ H Q => ta σ H fun x H1 => ∃ k, TruV K x H1 k ∧ if k = true then Q x H1 else tb σ H1 Q
/-- the truth of None, a bool, a tuple -/
def truP : PV → Option Bool
  | .non => some false
  | .bl b => some b
  | .tup xs => some !xs.isEmpty
  | _ => none
def orNE (a b : ExprD) : ExprD := fun env S => (a env S).bind fun x S1 => match truP x with
  | some true => .ok x S1
  | some false => b env S1
  | none => .stuck
end
end LH

/-! LZ: the greatest of a tuple of ints. -/
namespace LH
open PySem PySem.Spec PyProof.Rows L2
def maxTB : List PV → Sto → Res PV := fun xs S => match xs with
  | [.tup ds] => match asInts ds with
    | some (n :: ns) => .ok (.int (ns.foldl max n)) S
    | _ => .stuck
  | _ => .stuck
section
variable {X : Cx} {E : XK}
end
end LH

/-! LZZ: list(zip(a, b)) of two lists. -/
namespace LH
open PySem PySem.Calls PySem.Spec PyProof.Rows L2
/-- the addresses as hold the pairs, in order, above lo -/
structure ZlG (xs ys : Array Value) (lo : Addr) (h : Heap) (as : List Addr) : Prop where
  rise : as.Pairwise (· < ·)
  above : ∀ a ∈ as, lo < a
  pairs : ∀ (j : Nat) (a : Addr), as[j]? = some a → ∃ x y, xs[j]? = some x ∧ ys[j]? = some y ∧ h.get? a = some { cls := .type "tuple", data := .seq #[x, y] }
theorem ZlG.there {xs ys : Array Value} {lo : Addr} {h : Heap} {as : List Addr} (g : ZlG xs ys lo h as) {a : Addr} (ha : a ∈ as) : a < h.objs.size := by
  obtain ⟨j, hj⟩ := List.mem_iff_getElem?.mp ha
  obtain ⟨_, _, _, _, e⟩ := g.pairs j a hj
  exact Heap.lt_size e
def ZlSt (z TI TO i1 i2 l1 l2 S : Addr) (xs ys : Array Value) (i : Nat) (h : Heap) : Prop := IsPair h TI (.ref i1) (.ref i2) ∧ h.IsListIter i1 l1 i ∧ h.IsListIter i2 l2 i ∧ h.IsList l1 xs ∧ h.IsList l2 ys ∧
  ((IsZip h z TI TO .none ∧ ∃ a b, IsPair h TO a b) ∨ ∃ T f oT, IsZipHeld h z TI TO T f ∧ h.get? T = some oT ∧ T ≠ z ∧ T ≠ i1 ∧ T ≠ i2 ∧ T ≠ S)
theorem ZlSt.keep {z TI TO i1 i2 l1 l2 S : Addr} {xs ys : Array Value} {i : Nat} {h h' : Heap} (st : ZlSt z TI TO i1 i2 l1 l2 S xs ys i h) (ne : z ≠ S ∧ TI ≠ S ∧ TO ≠ S ∧ i1 ≠ S ∧ i2 ≠ S ∧ l1 ≠ S ∧ l2 ≠ S) (hk : ∀ b o, b ≠ S → h.get? b = some o → h'.get? b = some o) : ZlSt z TI TO i1 i2 l1 l2 S xs ys i h' := by
  obtain ⟨hTI, h1, h2, hl1, hl2, hz⟩ := st
  obtain ⟨dz, dTI, dTO, di1, di2, dl1, dl2⟩ := ne
  refine ⟨hk _ _ dTI hTI, h1.at fun o e => hk _ o di1 e, h2.at fun o e => hk _ o di2 e, hl1.at fun o e => hk _ o dl1 e, hl2.at fun o e => hk _ o dl2 e, ?_⟩
  rcases hz with ⟨hz, a, b, hTO⟩ | ⟨T, f, oT, hz, hT, r1, r2, r3, r4⟩
  · exact .inl ⟨hk _ _ dz hz, a, b, hk _ _ dTO hTO⟩
  · exact .inr ⟨T, f, oT, hk _ _ dz hz, hk _ _ r4 hT, r1, r2, r3, r4⟩
section
variable {prog : Program} {w : World} {A : Around} {E : Value → Shared → Prop} {s : Shared}
end
/-- all of these lie below -/
structure ZlLo (z TI TO i1 i2 l1 l2 S : Addr) : Prop where
  z : z < S
  TI : TI < S
  TO : TO < S
  i1 : i1 < S
  i2 : i2 < S
  l1 : l1 < S
  l2 : l2 < S
theorem ZlLo.ne {z TI TO i1 i2 l1 l2 S : Addr} (h : ZlLo z TI TO i1 i2 l1 l2 S) : z ≠ S ∧ TI ≠ S ∧ TO ≠ S ∧ i1 ≠ S ∧ i2 ≠ S ∧ l1 ≠ S ∧ l2 ≠ S := ⟨Nat.ne_of_lt h.z, Nat.ne_of_lt h.TI, Nat.ne_of_lt h.TO, Nat.ne_of_lt h.i1, Nat.ne_of_lt h.i2, Nat.ne_of_lt h.l1, Nat.ne_of_lt h.l2⟩
section
variable {prog : Program} {w : World} {A : Around} {s : Shared} {R : Result → Shared → Prop} {z TI TO i1 i2 l1 l2 S : Addr} {xs ys : Array Value}
end
section
variable {prog : Program} {w : World} {A : Around} {E : Value → Shared → Prop} {s : Shared} {z TI TO i1 i2 l1 l2 : Addr} {xs ys : Array Value}
end
/-! the tuples tracked at their addresses -/
def putP : Hp → List Addr → List (V × V) → Hp
  | H, a :: as, p :: r => putP (upd H a (.tup [p.1, p.2])) as r
  | H, _, _ => H
section
variable {X : Cx}
def tZl (K : PySem.W.Frag) (ta : TA) : TE := fun σ H Q => ta σ H fun vs H1 => ∃ a b xs ys, vs = [V.ref a, V.ref b] ∧ SqL K H1 a xs ∧ SqL K H1 b ys ∧
  ∀ (ts : List Addr) (p : Addr), ts.length = (xs.zip ys).length → ts.Nodup → (∀ t ∈ ts, H1 t = none) → H1 p = none → p ∉ ts → Q (.ref p) (upd (putP H1 ts (xs.zip ys)) p (.lst (ts.map V.ref)))
end
/-! as trees -/
section
variable {X : Cx} {W : WX}
def lzipV (x y : PV) (S : Sto) : Res PV := match frozen x, frozen y with
  | some (false, xs), some (false, ys) => .ok (.lst (zipP xs ys)) S
  | _, _ => .stuck
@[simp] theorem lzipV_ll {xs ys : List PV} {S : Sto} : lzipV (.lst xs) (.lst ys) S = .ok (.lst (zipP xs ys)) S := (rfl)
end
end LH

/-! LEN: enumerate of a list or a tuple. -/
namespace LH
open PySem PySem.Spec PyProof.Rows L2
/-- the items of a list or tuple, each in a new pair -/
def IteB (t : Bool) (K : PySem.W.Frag) (a : Addr) : It :=
  ⟨fun i H => ∃ (xs : List V) (x : V), SqB t K H a xs ∧ xs[i]? = some x, fun i H v H' => ∃ T x, v = .ref T ∧ H T = none ∧ H' = upd H T (.tup [.int (i : Nat), x]) ∧ ∀ xs, SqB t K H a xs → xs[i]? = some x, fun i H => ∃ xs : List V, SqB t K H a xs ∧ i = xs.length⟩
def enumMI (a : ExprD) : IterD := fun env S => (a env S).bind fun x S1 => match frozen x with
  | some (_, xs) => .ok (none, enumP 0 xs) S1
  | _ => .stuck
def emK (x : PV) (S : Sto) : Res (Option Nat × List PV) := match frozen x with
  | some (_, xs) => .ok (none, enumP 0 xs) S
  | _ => .stuck
@[simp] theorem enumMI_s {a : ExprD} {env : PEnv} {S : Sto} : enumMI a env S = (a env S).bind emK := (rfl)
@[simp] theorem emK_l {xs : List PV} {S : Sto} : emK (.lst xs) S = .ok (none, enumP 0 xs) S := (rfl)
@[simp] theorem emK_t {xs : List PV} {S : Sto} : emK (.tup xs) S = .ok (none, enumP 0 xs) S := (rfl)
end LH

/-! LCP: list(x) as a new cell. -/
namespace LH
open PySem PySem.Spec PyProof.Rows L2
def listCB : List PV → Sto → Res PV := fun xs S => match xs with
  | [d] => match seqOf S d with
    | some ys => if bels 0 ys = true then .ok (.cell S.length) (S ++ [.lst ys]) else .stuck
    | none => .stuck
  | _ => .stuck
section
variable {X : Cx} {E : XK}
end
end LH

/-! LRP: a list times a number. -/
namespace LH
open PySem PySem.Spec PyProof.Rows L2
def repV : PV → PV → Sto → Res PV := fun x y S => match y with
  | .int k => (match catOf S x with
    | some a => if 0 ≤ k ∧ k ≤ 1000 ∧ a.length * k.toNat ≤ sizeLine then .ok (.lst (List.replicate k.toNat a).flatten) S else .stuck
    | none => .stuck)
  | _ => .stuck
section
variable {X : Cx} {E : XK}
end
end LH

/-! LEX: own exceptions without fields: raised, caught, asked for their class. -/
namespace LH
open PySem PySem.Spec PyProof.Rows L2
/-- an exception class of the program's own, without __init__ -/
structure RaiseF (K : PySem.W.Frag) (mg : Str → Option Value) (n : Str) : Prop where
  ex : ∃ C, mg n = some (.ref C) ∧ PySem.W.excIn K C He.veBase "ValueError.__new__" = true ∧ PySem.W.keepIn K (.ref C) = true ∧ PySem.W.subIn K (.ref C) (.type "BaseException") = some true ∧ PySem.W.typeIn K (.ref C) = some (.type "type")
section
variable {X : Cx} {W : WX} {pos p pos2 : Pos}
/-- X() -/
theorem pmk_own0 {C : Addr} {bmB : List Value} {B newId initId : String} {x : Str} (F : ExcBaseFacts B newId initId bmB) (q : PySem.W.excIn X.K C bmB newId = true) (gC : X.mg x = some (.ref C)) (kC : PySem.W.keepIn X.K (.ref C) = true) (r : Raises X (.ref C)) (hg : Gl X x)
    (hdb : (x == ("__debug__" : Str)) = false := by decide) : PMk X (.Call (.Name x p) [] [] pos) (fun _ H Q => Q (.ref C) none H) := by
  intro pins s σ H Q I h
  refine wpAny_Call_Name_kw (ld_glob I hg gC ?_ hdb)
  refine PySem.W.callWith_K0 I.kIn kC ?_
  show wpAny _ _ (call (.ref C) []) _ _ _
  obtain ⟨bm, N, nm, qn, bs, hdct, sn, sub, ab, col, dd, k0, k1, k2, k3, k5, mN, hC, hN, hni, T⟩ := exc_obj I.kIn q
  refine wpAny_call_exc_subT F T hC hN hni (fun h' e hm => ?_) (by show 0 ≤ sizeLine; exact Nat.zero_le _)
  exact mk_of I hm r h (I.hok.gone hm.new)
def raiseS (n : Str) : StmtD := fun env S => .ok (.ex ⟨n, []⟩ env) S
theorem ds_raise {n : Str} (tk : Takes X W) (R : RaiseF X.K X.mg n) (hc : X.calm = true := by rfl) (hg : Gl X n := by rfl) (hdb : (n == ("__debug__" : Str)) = false := by decide) : PS X (.Raise (some (.Call (.Name n p) [] [] pos)) none pos2) (tSX X W (raiseS n)) := by
  obtain ⟨C, gC, xC, kC, bC, tC⟩ := R.ex
  refine (ps_raise hc tk (pmk_own0 PySem.F.excBase_ValueError xC gC kC (raises_own bC tC) hg hdb)).imp fun D σ H h => ?_
  obtain ⟨env, F, ci, S, sr, er, h⟩ := h
  exact h.here sr σ er (.ref C) none ⟨C, gC, rfl, .inl ⟨rfl, rfl⟩⟩
/-! ### try -/
open Classical in
/-- what is the same for each address -/
noncomputable def uniA (g : Addr → Res Flow) : Res Flow := if ∀ a b, g a = g b then g 0 else .stuck
theorem uniA_of {g : Addr → Res Flow} {r : Res Flow} (h : ∀ a, g a = r) : uniA g = r := by
  unfold uniA
  rw [if_pos fun a b => (h a).trans (h b).symm, h]
theorem uniA_at {g : Addr → Res Flow} (h : uniA g ≠ .stuck) (a : Addr) : uniA g = g a := by
  unfold uniA at h ⊢
  split
  · rename_i q; exact q 0 a
  · rename_i q; rw [if_neg q] at h; exact absurd rfl h
/-- the suite's end: the name goes -/
def outI (i : Nat) : Res Flow → Res Flow
  | .ok (.nx e) S => .ok (.nx (e.set i none)) S
  | .ok (.bk e) S => .ok (.bk (e.set i none)) S
  | .ok (.ct e) S => .ok (.ct (e.set i none)) S
  | .ok (.rt d) S => .ok (.rt d) S
  | _ => .stuck
noncomputable def trySx (p : StmtD) (ns : List Str) (i : Nat) (q : Addr → Exc → StmtD) : StmtD := fun env S => match p env S with
  | .ok (.ex x e) S1 => if x.fields = [] ∧ x.name ∈ ns then uniA fun a => outI i (q a x (e.set i (some (.adr a))) S1) else .stuck
  | r => r
/-- isinstance(e, ..) of the exception at a -/
def isxE (i : Nat) (a : Addr) (b : Bool) : ExprD := fun env S => match env[i]? with
  | some (some (.adr a')) => if a' = a then .ok (.bl b) S else .stuck
  | _ => .stuck
structure ExS (K : PySem.W.Frag) (mg : Str → Option Value) (NS MS : List Str) (cl : Str) : Prop where
  rs : ∀ n ∈ NS, RaiseF K mg n
  clz : ∃ D, mg cl = some (.ref D)
  em : ∀ n ∈ NS, ∀ C D, mg n = some (.ref C) → mg cl = some (.ref D) → PySem.W.exmOne K (.ref C) (.ref D) = some true
  ec : ∀ n ∈ NS, ∀ C, mg n = some (.ref C) → ExcC K C
  mm : ∀ m ∈ MS, ∃ D, mg m = some (.ref D)
  is_ : ∀ n ∈ NS, ∀ m ∈ MS, ∀ C D, mg n = some (.ref C) → mg m = some (.ref D) → PySem.W.kitOne K (.ref C) (.ref D) = some (tabE n m)
  ve : ∀ n ∈ NS, ∀ C, mg n = some (.ref C) → PySem.W.kitOne K (.ref C) (.type "ValueError") = some true
theorem ER.adr {K : PySem.W.Frag} {F : Hp} {ci : List Addr} {env : PEnv} {σ : St} (r : ER K F ci env σ) (i : Nat) (a : Addr) : ER K F ci (env.set i (some (.adr a))) (σ.set i (some (.ref a))) := r.set i .adr
end
/-! ### evaluation -/
section
variable {env : PEnv} {S : Sto} {x : Exc}
@[simp] theorem raiseS_s (n : Str) : raiseS n env S = .ok (.ex ⟨n, []⟩ env) S := (rfl)
@[simp] theorem bind_exc {α β : Type} (x : Exc) (S : Sto) (g : α → Sto → Res β) : (Res.exc x S).bind g = .exc x S := (rfl)
@[simp] theorem runE_exc (g : PV → Sto → Res Flow) : runE (.exc x S) env g = .ok (.ex x env) S := (rfl)
@[simp] theorem runT_exc (g : Bool → Sto → Res Flow) : runT (.exc x S) env g = .ok (.ex x env) S := (rfl)
@[simp] theorem outI_nx (i : Nat) : outI i (.ok (.nx env) S) = .ok (.nx (env.set i none)) S := (rfl)
@[simp] theorem outI_rt (i : Nat) (d : PV) : outI i (.ok (.rt d) S) = .ok (.rt d) S := (rfl)
end
end LH

/-! LEV: isinstance(e, ValueError) within a suite. -/
namespace LH
open PySem PySem.Spec PyProof.Rows L2
theorem bt_ValueErr : bootBuiltins "ValueError" = some (.type "ValueError") := by first | rfl | decide +kernel
section
variable {X : Cx} {W : WX} {pos p pos2 : Pos}
end
end LH

/-! LXF: own exceptions with fields, asked in a suite or in a def to which a suite hands them. -/
namespace LH
open PySem PySem.Spec PyProof.Rows L2

/-- the dict of a caught exception -/
def xdo (x : Exc) (dd : Addr) : Option Addr := if x.fields.isEmpty = true then none else some dd
/-- a caught exception as a value -/
def exP (a dd : Addr) (x : Exc) : PV := if x.fields.isEmpty = true then .adr a else .xo a dd (x.fields.map (·.1)) (x.fields.map (·.2))
section
variable {K : PySem.W.Frag} {F : Hp} {ci : List Addr}
theorem pair_zip : ∀ {xs : List (Str × PV)} {fs : List (Str × V)}, Paired (fun (p : Str × PV) (q : Str × V) => p.1 = q.1 ∧ Rp K F ci p.2 q.2) xs fs → fs = (xs.map (·.1)).zip (fs.map (·.2)) ∧ Rps K F ci (xs.map (·.2)) (fs.map (·.2))
  | _, _, .nil => ⟨rfl, .nil⟩
  | _, _, .cons (a := p) (b := q) r rs => by
    obtain ⟨h1, h2⟩ := pair_zip rs
    refine ⟨?_, .cons r.2 h2⟩
    rw [List.map_cons, List.map_cons, List.zip_cons_cons, ← h1, r.1]
theorem zip_pair : ∀ {ns : List Str} {ds : List PV} {vs : List V}, Rps K F ci ds vs → Paired (fun (p : Str × PV) (q : Str × V) => p.1 = q.1 ∧ Rp K F ci p.2 q.2) (ns.zip ds) (ns.zip vs)
  | [], _, _, _ => by rw [List.zip_nil_left, List.zip_nil_left]; exact .nil
  | _ :: _, _, _, .nil => .nil
  | n :: ns, _, _, .cons r rs => .cons ⟨rfl, r⟩ (zip_pair rs)
theorem pair_app {α β : Type} {R : α → β → Prop} : ∀ {xs ys : List α} {us vs : List β}, Paired R xs us → Paired R ys vs → Paired R (xs ++ ys) (us ++ vs)
  | _, _, _, _, .nil, s => s
  | _, _, _, _, .cons r rs, s => .cons r (pair_app rs s)
theorem pair_rev {α β : Type} {R : α → β → Prop} : ∀ {xs : List α} {us : List β}, Paired R xs us → Paired R xs.reverse us.reverse
  | _, _, .nil => .nil
  | _, _, .cons r rs => by rw [List.reverse_cons, List.reverse_cons]; exact pair_app (pair_rev rs) (.cons r .nil)
theorem rp_exP {mg : Str → Option Value} {x : Exc} {cls : Value} {d : Option Addr} (a : Addr) (h : XRep K mg F ci x cls d) : ∃ dd, d = xdo x dd ∧ Rp K F ci (exP a dd x) (.ref a) := by
  obtain ⟨C, _, _, h3⟩ := h
  rcases h3 with ⟨h4, h5⟩ | ⟨h4, dd, fs, h5, h6, h7⟩
  · refine ⟨0, ?_, ?_⟩
    · unfold xdo; rw [h4]; exact h5
    · unfold exP; rw [h4]; exact .adr
  · have he : x.fields.isEmpty = false := by
      cases hx : x.fields with
      | nil => exact absurd hx h4
      | cons _ _ => rfl
    refine ⟨dd, ?_, ?_⟩
    · unfold xdo; rw [he]; exact h5
    · unfold exP; rw [he]
      obtain ⟨z1, z2⟩ := pair_zip h7
      exact .xo (by rw [← z1]; exact h6) z2
theorem exP_ref {a dd : Addr} {x : Exc} {v : V} (h : Rp K F ci (exP a dd x) v) : v = .ref a := by
  unfold exP at h
  split at h
  · cases h; rfl
  · cases h; rfl
theorem exP_dict {a dd e : Addr} {x : Exc} {v : V} (h : Rp K F ci (exP a dd x) v) (he : xdo x dd = some e) : e = dd ∧ ∃ vs, F dd = some (.xd ((x.fields.map (·.1)).zip vs)) ∧ Rps K F ci (x.fields.map (·.2)) vs := by
  unfold exP at h
  unfold xdo at he
  split at h
  · rename_i hx; rw [if_pos hx] at he; cases he
  · rename_i hx
    rw [if_neg hx] at he
    injection he with he
    cases h with
    | xo h1 h2 => exact ⟨he.symm, _, h1, h2⟩
end

theorem lookup_put2 {β : Type} (f g : Str) (y : β) (fs : List (Str × β)) : ((f, y) :: fs).lookup g = if g = f then some y else fs.lookup g := by
  by_cases h : g = f
  · rw [if_pos h, h]; simp [List.lookup]
  · have e : (g == f) = false := by simpa using h
    rw [if_neg h]; simp [List.lookup, e]
/-! ### the classes -/
structure ExT (K : PySem.W.Frag) (mg : Str → Option Value) (NS MS CL FL : List Str) : Prop where
  clz : ∀ cl ∈ CL, ∃ D, mg cl = some (.ref D)
  em : ∀ n ∈ NS, ∀ cl ∈ CL, ∀ C D, mg n = some (.ref C) → mg cl = some (.ref D) → PySem.W.exmOne K (.ref C) (.ref D) = some (tabE n cl)
  ec : ∀ n ∈ NS, ∀ C, mg n = some (.ref C) → ExcC K C
  mm : ∀ m ∈ MS, ∃ D, mg m = some (.ref D)
  is_ : ∀ n ∈ NS, ∀ m ∈ MS, ∀ C D, mg n = some (.ref C) → mg m = some (.ref D) → PySem.W.kitOne K (.ref C) (.ref D) = some (tabE n m)
  ve : ∀ n ∈ NS, ∀ C, mg n = some (.ref C) → PySem.W.kitOne K (.ref C) (.type "ValueError") = some true
  xf : ∀ n ∈ NS, ∀ C, mg n = some (.ref C) → XfC K C ∧ ∀ f ∈ FL, PySem.W.findIn K (.ref C) f = some none

/-! ### isinstance of a caught one -/
def rIsP (K : PySem.W.Frag) (D a : Addr) (d : Option Addr) : List V → Hp → VK → Prop := fun xs H Q => (∀ e, d = some e → ∃ fs, H e = some (.xd fs)) ∧ rIsE K D a xs H Q
theorem call_isP {X : Cx} {a D : Addr} {oe : Obj} {d : Option Addr} (T : ExcC X.K D) (hp : (a, oe) ∈ X.pn) (hz : Zc (.ref D) d oe) (hf : ∃ vs, oe.data = .fields vs) : CallR X (.builtin "isinstance") (rIsP X.K D a d) := by
  rintro pins s σ H xs us Q I rv ⟨hd, c, cv, b, rfl, hcv, hk, q⟩
  cases rv with
  | cons ra rr =>
    cases rr with
    | cons rc rn =>
      cases rn
      cases ra
      have ec := hcv _ rc
      subst ec
      have P1 := (I.pin (a, oe) (List.mem_append_left _ hp)).1
      obtain ⟨fv, hv⟩ := hf
      have no : PySem.W.notCls oe = true := by unfold PySem.W.notCls; rw [hv] <;> rfl
      have hcl : (PySem.W.clsIn X.K D).isSome = true := by
        obtain ⟨cd, hc, _⟩ := PySem.W.any_some T.hd
        rw [hc]; rfl
      have fin : ∀ od, PySem.W.InstAt s.heap a oe D od → wpAny (model X.prog X.w) X.A (call (.builtin "isinstance") [.ref a, _]) (EP X pins σ Q) X.xe s := fun od J =>
        PySem.W.kia_one (PySem.W.kitx_exc hcl T.hg T.hk T.hs T.ha T.hn T.ht T.hm) I.kIn J hk (fun z => nomatch z) fun tk => ⟨.bl b, H, I.kept (t' := tk) fun _ _ z => z, rfl, q⟩
      cases d with
      | none => exact fin none ⟨P1, hz.1, no, by rw [hz.2]; exact True.intro⟩
      | some e =>
        obtain ⟨fs, hx⟩ := hd e rfl
        have ok : ObjOk X.prog X.w H s.heap e (.xd fs) := I.hok e _ hx
        obtain ⟨mA, ⟨o, es, ep, ho, _⟩, _⟩ := ok
        exact fin (some o) ⟨P1, hz.1, no, by rw [hz.2]; exact ho⟩
open Classical in
noncomputable def isxP (i : Nat) (p : PV) (b : Bool) : ExprD := fun env S => if env[i]? = some (some p) then .ok (.bl b) S else .stuck
open Classical in
noncomputable def xfE (i : Nat) (p : PV) (x : Exc) (f : Str) : ExprD := fun env S => if env[i]? = some (some p) then (match x.fields.lookup f with
  | some d => .ok d S
  | none => .stuck) else .stuck
theorem isxP_at {i : Nat} {p : PV} {b : Bool} {env : PEnv} {S : Sto} (h : env[i]? = some (some p)) : isxP i p b env S = .ok (.bl b) S := if_pos h
theorem xfE_at {i : Nat} {p d : PV} {x : Exc} {f : Str} {env : PEnv} {S : Sto} (h : env[i]? = some (some p)) (hf : x.fields.lookup f = some d) : xfE i p x f env S = .ok d S := by
  unfold xfE; rw [if_pos h, hf]
section
variable {X : Cx} {W : WX} {NS MS CL FL : List Str} {x : Exc} {C a dd : Addr} {oe : Obj} {n m f : Str} {p pe pm pos : Pos}
theorem de_isG {K' : PySem.W.Frag} {cv : V} {c : Value} {b : Bool} {ec : Expr} (i : Nat) (T : ExcC X.K C) (hk : PySem.W.kitOne X.K (.ref C) c = some b) (hcv : ∀ u, RelV cv u → u = c) (hc : PE X ec (tC cv)) (hz : Zc (.ref C) (xdo x dd) oe) (hf : ∃ vs, oe.data = .fields vs) (hp : (a, oe) ∈ X.pn)
    (hmi : X.mg "isinstance" = none) (hi : X.N[i]? = some n) (hx2 : Loc X.env.scope n) (hdn : (n == ("__debug__" : Str)) = false) (hcn : (n == ("__classdict__" : Str)) = false) (hgi : Gl X "isinstance") (he : starEach [.Name n pe, ec] X.env = (false, eval (.Name n pe) X.env) :: starEach [ec] X.env) (he2 : starEach [ec] X.env = (false, eval ec X.env) :: starEach [] X.env)
    (hpl : (backTo pos (starEach [ec] X.env)).any (·.1) = false) :
    PE X (.Call (.Name "isinstance" p) [.Name n pe, ec] [] pos) (tE X.K X.mg W (isxP i (exP a dd x) b)) := by
  refine (pe_callB (call_isP T hp hz hf) hgi hmi boot_isinstance (pa_cons (de_v (W := W) i hi (by rcases hx2 with h | h; exact .inl h; exact .inr (.inl h)) hdn hcn) (pa_cons hc pa_nil he2) he) (by decide) (by decide) he hpl).imp fun σ H Q h => ?_
  obtain ⟨env, F, ci, S, sr, er, h⟩ := h
  refine ⟨env, F, ci, S, sr, er, ?_⟩
  unfold isxP at h
  unfold vE
  split at h
  · rename_i hq
    rw [hq]
    intro F1 c1 H1 l1 s1 v r
    have rv := exP_ref r
    subst rv
    refine ⟨fun e hd => ?_, cv, c, _, rfl, hcv, hk, h _ _ _ l1 s1 _ (.bl _)⟩
    obtain ⟨rfl, vs, h1, _⟩ := exP_dict r hd
    exact ⟨_, s1.le _ _ h1⟩
  · exact h.elim
theorem de_isP (i : Nat) (E : ExT X.K X.mg NS MS CL FL) (gC : X.mg x.name = some (.ref C)) (hx : x.name ∈ NS) (hm : m ∈ MS) (hz : Zc (.ref C) (xdo x dd) oe) (hf : ∃ vs, oe.data = .fields vs) (hp : (a, oe) ∈ X.pn)
    (hmi : X.mg "isinstance" = none) (hi : X.N[i]? = some n := by rfl) (hx2 : Loc X.env.scope n := by first | exact Or.inl rfl | exact Or.inr rfl) (hdn : (n == ("__debug__" : Str)) = false := by decide) (hcn : (n == ("__classdict__" : Str)) = false := by decide) (hgi : Gl X "isinstance" := by rfl) (hgm : Gl X m := by rfl) (hdm : (m == ("__debug__" : Str)) = false := by decide)
    (he : starEach [.Name n pe, .Name m pm] X.env = (false, eval (.Name n pe) X.env) :: starEach [.Name m pm] X.env := by rfl) (he2 : starEach [.Name m pm] X.env = (false, eval (.Name m pm) X.env) :: starEach [] X.env := by rfl) (hpl : (backTo pos (starEach [.Name m pm] X.env)).any (·.1) = false := by rfl) :
    PE X (.Call (.Name "isinstance" p) [.Name n pe, .Name m pm] [] pos) (tE X.K X.mg W (isxP i (exP a dd x) (tabE x.name m))) := by
  obtain ⟨D, gD⟩ := E.mm m hm
  exact de_isG (K' := X.K) (cv := .ref D) (c := .ref D) i (E.ec _ hx C gC) (E.is_ _ hx m hm C D gC gD) (fun u hu => hu) (pe_glob (v := .ref D) hgm gD rfl hdm) hz hf hp hmi hi hx2 hdn hcn hgi he he2 hpl
theorem de_isPV (i : Nat) (E : ExT X.K X.mg NS MS CL FL) (gC : X.mg x.name = some (.ref C)) (hx : x.name ∈ NS) (hz : Zc (.ref C) (xdo x dd) oe) (hf : ∃ vs, oe.data = .fields vs) (hp : (a, oe) ∈ X.pn)
    (hmi : X.mg "isinstance" = none) (hmv : X.mg "ValueError" = none) (hi : X.N[i]? = some n := by rfl) (hx2 : Loc X.env.scope n := by first | exact Or.inl rfl | exact Or.inr rfl) (hdn : (n == ("__debug__" : Str)) = false := by decide) (hcn : (n == ("__classdict__" : Str)) = false := by decide) (hgi : Gl X "isinstance" := by rfl) (hgm : Gl X "ValueError" := by rfl)
    (he : starEach [.Name n pe, .Name "ValueError" pm] X.env = (false, eval (.Name n pe) X.env) :: starEach [.Name "ValueError" pm] X.env := by rfl) (he2 : starEach [.Name "ValueError" pm] X.env = (false, eval (.Name "ValueError" pm) X.env) :: starEach [] X.env := by rfl) (hpl : (backTo pos (starEach [.Name "ValueError" pm] X.env)).any (·.1) = false := by rfl) :
    PE X (.Call (.Name "isinstance" p) [.Name n pe, .Name "ValueError" pm] [] pos) (tE X.K X.mg W (isxP i (exP a dd x) true)) := by
  refine de_isG (K' := X.K) (cv := .ty "ValueError") (c := .type "ValueError") i (E.ec _ hx C gC) (E.ve _ hx C gC) (fun u hu => hu) ?_ hz hf hp hmi hi hx2 hdn hcn hgi he he2 hpl
  exact pe_bltn (v := .ty "ValueError") hgm hmv bt_ValueErr rfl (by decide) (by decide)
/-- e.f -/
theorem de_xf (i : Nat) (E : ExT X.K X.mg NS MS CL FL) (gC : X.mg x.name = some (.ref C)) (hx : x.name ∈ NS) (hfl : f ∈ FL) (hz : Zc (.ref C) (xdo x dd) oe) (hf : ∃ vs, oe.data = .fields vs) {pn : List (Addr × Obj)}
    (hi : X.N[i]? = some n := by rfl) (hx2 : Loc X.env.scope n := by first | exact Or.inl rfl | exact Or.inr rfl) (hdn : (n == ("__debug__" : Str)) = false := by decide) (hcn : (n == ("__classdict__" : Str)) = false := by decide) (hb : attributeBase (.Name n pe) f X.env (eval (.Name n pe) X.env) = eval (.Name n pe) X.env := by rfl) :
    PE (X.suite a ((a, oe) :: pn)) (.Attribute (.Name n pe) f pos) (tE X.K X.mg W (xfE i (exP a dd x) x f)) := by
  obtain ⟨T, hno⟩ := E.xf _ hx C gC
  refine (pe_xf (X := X) T (hno f hfl) hz hf (de_v (X := X.suite a ((a, oe) :: pn)) (W := W) i hi (by rcases hx2 with h | h; exact .inl h; exact .inr (.inl h)) hdn hcn) hb).imp fun σ H Q h => ?_
  obtain ⟨env, F, ci, S, sr, er, h⟩ := h
  refine ⟨env, F, ci, S, sr, er, ?_⟩
  unfold xfE at h
  unfold vE
  split at h
  · rename_i hq
    rw [hq]
    cases hl : x.fields.lookup f with
    | none => rw [hl] at h; exact h.elim
    | some d =>
      rw [hl] at h
      intro F1 c1 H1 l1 s1 v r
      have rv := exP_ref r
      subst rv
      refine ⟨rfl, rfl, ?_⟩
      have hne : x.fields.isEmpty = false := by
        cases hf : x.fields with
        | nil => rw [hf] at hl; cases hl
        | cons _ _ => rfl
      have hxd : xdo x dd = some dd := by unfold xdo; rw [hne]; rfl
      obtain ⟨_, vs, h1, h2⟩ := exP_dict r hxd
      have look : ∀ {xs : List (Str × PV)} {vs : List V} {d : PV}, Rps X.K F1 c1 (xs.map (·.2)) vs → xs.lookup f = some d → ∃ v, ((xs.map (·.1)).zip vs).lookup f = some v ∧ Rp X.K F1 c1 d v := by
        intro xs
        induction xs with
        | nil => intro vs d _ e; cases e
        | cons y ys ih =>
          intro vs d r e
          obtain ⟨v, ws, rfl, r1, r2⟩ := r.cons_inv
          obtain ⟨g, z⟩ := y
          simp only [List.map_cons, List.zip_cons_cons]
          rw [lookup_put2] at e ⊢
          by_cases hg : f = g
          · rw [if_pos hg] at e ⊢
            cases e
            exact ⟨v, rfl, r1⟩
          · rw [if_neg hg] at e ⊢
            exact ih r2 e
      obtain ⟨v, hv, rd⟩ := look h2 hl
      exact ⟨dd, _, v, hxd, s1.le _ _ h1, hv, h _ _ _ l1 s1 _ rd⟩
  · exact h.elim
end
end LH

/-! LXG: defs to which a suite hands its exception; try with one clause of any own class. -/
namespace LH
open PySem PySem.Spec PyProof.Rows L2

/-- what a def makes of a caught exception -/
abbrev FnX := Exc → Addr → Addr → Sto → Res PV
def fnX (nn : Nat) (b : Exc → Addr → Addr → StmtD) : FnX := fun x a dd S => match b x a dd (some (exP a dd x) :: List.replicate (nn - 1) none) S with
  | .ok (.nx _) S1 => .ok .non S1
  | .ok (.rt d) S1 => .ok d S1
  | _ => .stuck
def exitX (f : FnX) : FnX := fun x a dd S => exitT (fun _ S => f x a dd S) [] S
def spX (K : PySem.W.Frag) (mg : Str → Option Value) (NS : List Str) (f : FnX) (p : Addr × Obj) : Sp := fun vs H Q E => vs.length = 1 ∧ ∃ (x : Exc) (C dd : Addr), mg x.name = some (.ref C) ∧ x.name ∈ NS ∧ Zc (.ref C) (xdo x dd) p.2 ∧ (∃ fv, p.2.data = .fields fv) ∧
  ∃ F ci S, SR K F ci S H ∧ Rps K F ci [exP p.1 dd x] vs ∧ Out K (Zf K mg E) F ci H (f x p.1 dd S) fun d F' ci' S' H' => ∀ v, Rp K F' ci' d v → Q v H'
structure FnP (P : Program) (w : World) (K : PySem.W.Frag) (mg : Str → Option Value) (base : Heap) (k : Nat) (f : Addr) (fd : FuncData) (ps : List Str) (sp : Addr × Obj → Sp) : Prop where
  len : ∀ p vs H Q E, sp p vs H Q E → vs.length = ps.length
  run : ∀ (A : Around) (outer : List Env) (s : Shared) (H : Hp) (args : Args) (us : List Value) (vs : List V) (Q : VK) (E : XK) (p : Addr × Obj), L2H.RoomH k A → L2H.PinOk outer H s p → Env0 P w K mg base A outer s H → BindsTo s fd args (ps.zip us) → Vals vs us → sp p vs H Q E →
    codeAny (model P w) A (.call (.ref f) args) (CR (L2.CX P w) outer P w H s Q E) s
section
variable {P : Program} {w : World} {K : PySem.W.Frag} {mg : Str → Option Value} {base : Heap} {k : Nat} {fa : Addr} {fd : FuncData} {ps : List Str} {NS : List Str} {f : FnX}
theorem fn_exitX (h : FnP P w K mg base k fa fd ps (spX K mg NS f)) : FnP P w K mg base k fa fd ps (spX K mg NS (exitX f)) := by
  have conv : ∀ p vs H Q E, spX K mg NS (exitX f) p vs H Q E → spX K mg NS f p vs H Q E := fun p vs H Q E q => by
    obtain ⟨hl, x, C, dd, h1, h2, h3, h4, F, ci, S, sr, rs, q⟩ := q
    exact ⟨hl, x, C, dd, h1, h2, h3, h4, F, ci, S, sr, rs, out_exitT (f := fun _ S => f x p.1 dd S) (ds := []) sr q⟩
  exact ⟨fun p vs H Q E q => h.len p vs H Q E (conv _ _ _ _ _ q), fun A outer s H args us vs Q E p hr hp e0 hb rv q => h.run A outer s H args us vs Q E p hr hp e0 hb rv (conv _ _ _ _ _ q)⟩
theorem fnP_body {x qual : Str} {params : Arguments} {body : List Stmt} {scope : Scope} {dvs : List V} {kws : List (Str × V)} {N : List Str} {sp : Addr × Obj → Sp} (F : FunD K x qual params body scope dvs kws fa fd) (S : FnScope N ps scope)
    (len : ∀ p vs H Q E, sp p vs H Q E → vs.length = ps.length)
    (hb : ∀ (cdv : Value) (A : Around) (outer : List Env) (s : Shared) (H : Hp) (vs : List V) (Q : VK) (E : XK) (p : Addr × Obj), L2H.RoomH k (A.deeper (envOfC qual scope s.heap.objs.size fa cdv)) → sp p vs H Q E →
      ∃ t, PSs (L2H.cxH (L2.CX P w) P w K mg base N qual scope fa cdv A outer s H E p) body t ∧ t ⟨fun _ H' => Q .non H', Q, fun _ _ => False, fun _ _ => False⟩ (L2.start N vs) H) : FnP P w K mg base (k + 1) fa fd ps sp := by
  obtain ⟨oc, od, dV, kV, doc, pm, an, cdv, ct, osl, rfl, lk, hcd, _, _⟩ := F.ex
  refine ⟨len, fun A outer s H args us vs Q E p hr hpin e0 hbt rv hsp => ?_⟩
  have hvl := len _ _ _ _ _ hsp
  have kp : ∀ a o, base.get? a = some o → s.heap.get? a = some o := fun a o e => (e0.bs a o e).1
  have kx : K.In s.heap := e0.mod.kin.keeps kp
  have nl : s.heap.NoLimit := e0.mod.nolimit.keeps kp
  have kd : ∀ y ∈ ps.zip us, scope.names.lookup y.1 = some .local ∨ (scope.names.lookup y.1 = some .cell ∧ ((cellsFrom (s.heap.objs.size + 1) scope.names []).lookup y.1).isSome = true) := by
    rintro ⟨m, z⟩ hy
    cases S.par m (List.of_mem_zip hy).1 with
    | inl q => exact .inl q
    | inr q => exact .inr ⟨q, PySem.W.cellsFrom_some _ _ _ (.inl q)⟩
  refine codeAny_call_function hr.depth (kx _ _ lk) rfl S.co S.gen rfl (PySem.W.codeRec_of kx hcd) (hbt _ _ _ _ (wpAny_newFunctionEnv_cells S.kind kd fun env he s1 ic => ?_))
  subst he
  refine ⟨nl.keeps ic.toInCall.keep, codeAny_func ?_⟩
  obtain ⟨t, ht, hq⟩ := hb cdv A outer s H vs Q E p (hr.deeper _) hsp
  refine wpAny_mono (ht.run [] s1 (L2.start N vs) H _ (L2H.inv_startH S hpin e0 hvl rv ic) hq) (fun fl s' hs => ?_) fun _ _ hs => hs
  cases fl with
  | brk => obtain ⟨_, _, _, q⟩ := hs; exact q.elim
  | cont => obtain ⟨_, _, _, q⟩ := hs; exact q.elim
  | next => obtain ⟨_, H2, J, q⟩ := hs; exact ⟨.non, H2, J.os, J.bare, J.base, J.hok, rfl, q⟩
  | ret u => obtain ⟨v, _, H2, J, rr, q⟩ := hs; exact ⟨v, H2, J.os, J.bare, J.base, J.hok, rr, q⟩
/-- THE RULE for a def that is handed an exception -/
theorem fn_okX {x qual pr : Str} {params : Arguments} {body : List Stmt} {scope : Scope} {dvs : List V} {kws : List (Str × V)} {N : List Str} {b : Exc → Addr → Addr → StmtD}
    (F : FunD K x qual params body scope dvs kws fa fd) (S : FnScope N [pr] scope)
    (hbody : ∀ (cdv : Value) (A : Around) (outer : List Env) (s : Shared) (H : Hp) (E : XK) (a : Addr) (oe : Obj) (xx : Exc) (C dd : Addr), L2H.RoomH k (A.deeper (envOfC qual scope s.heap.objs.size fa cdv)) → mg xx.name = some (.ref C) → xx.name ∈ NS → Zc (.ref C) (xdo xx dd) oe → (∃ fv, oe.data = .fields fv) →
      PSs (L2H.cxH (L2.CX P w) P w K mg base N qual scope fa cdv A outer s H E (a, oe)) body (tS K mg (fun _ _ _ _ => False) (b xx a dd))) :
    FnP P w K mg base (k + 1) fa fd [pr] (spX K mg NS (fnX N.length b)) := by
  refine fnP_body F S (fun p vs H Q E h => h.1) fun cdv A outer s H vs Q E p hr h => ?_
  obtain ⟨hl, xx, C, dd, h1, h2, h3, h4, F0, ci, S0, sr, rs, h⟩ := h
  refine ⟨_, hbody cdv A outer s H E p.1 p.2 xx C dd hr h1 h2 h3 h4, ?_⟩
  refine ⟨some (exP p.1 dd xx) :: List.replicate (N.length - 1) none, F0, ci, S0, sr, er_start rs N, ?_⟩
  unfold fnX at h
  cases hb : b xx p.1 dd (some (exP p.1 dd xx) :: List.replicate (N.length - 1) none) S0 with
  | ok fl S1 =>
    rw [hb] at h
    cases fl with
    | nx e' => exact fun F1 c1 H1 l1 s1 σ _ => h F1 c1 H1 l1 s1 _ .non
    | rt d => exact fun F1 c1 H1 l1 s1 v r => h F1 c1 H1 l1 s1 v r
    | ex y e' => exact h.elim
    | bk e' => exact h.elim
    | ct e' => exact h.elim
  | exc y S1 => rw [hb] at h; exact h.elim
  | stuck => rw [hb] at h; exact h.elim
end
structure CalleeX (P : Program) (w : World) (K : PySem.W.Frag) (mg : Str → Option Value) (base : Heap) (k : Nat) (x : Str) (NS : List Str) (f : FnX) : Prop where
  ex : ∃ fa fd pr, FnP P w K mg base k fa fd [pr] (spX K mg NS f) ∧ mg x = some (.ref fa) ∧ PySem.W.keepIn K (.ref fa) = true ∧ Binds K fd [pr] []
theorem calleeX_of {P : Program} {w : World} {K : PySem.W.Frag} {mg : Str → Option Value} {base : Heap} {k : Nat} {x qual pr : Str} {NS : List Str} {f : FnX} {params : Arguments} {body : List Stmt} {scope : Scope} {fa : Addr} {fd : FuncData} (F : FunD K x qual params body scope [] [] fa fd)
    (o : FnP P w K mg base k fa fd [pr] (spX K mg NS f)) (hm : mg x = some (.ref fa)) (hb : ∀ (kV doc pm : Value) (an : Option Addr) (cdv ct : Value) (us : List Value), us.length = [pr].length → bindArgs (PySem.W.fnOf x qual params body scope .none kV doc pm an cdv ct) ⟨us, []⟩ = pure ([pr].zip us)) :
    CalleeX P w K mg base k x NS f := ⟨fa, fd, pr, o, hm, F.kp, F.bindsN hb⟩
open Classical in
noncomputable def callX (i : Nat) (x : Exc) (a dd : Addr) (f : FnX) : ExprD := fun env S => if env[i]? = some (some (exP a dd x)) then f x a dd S else .stuck
theorem callX_at {i : Nat} {x : Exc} {a dd : Addr} {f : FnX} {env : PEnv} {S : Sto} (h : env[i]? = some (some (exP a dd x))) : callX i x a dd f env S = f x a dd S := if_pos h
section
variable {X : Cx} {W : WX} {NS : List Str} {x : Exc} {C a dd : Addr} {oe : Obj} {n g : Str} {k j : Nat} {f : FnX} {p pe pos : Pos}
theorem de_callX (i : Nat) (cl : CalleeX X.prog X.w X.K X.mg X.base k g NS f) (hl : Lets X W) (hr : L2H.RoomH j X.A) (gC : X.mg x.name = some (.ref C)) (hx : x.name ∈ NS) (hz : Zc (.ref C) (xdo x dd) oe) (hf : ∃ vs, oe.data = .fields vs) (hp : (a, oe) ∈ X.pn) (hk : k ≤ j := by decide)
    (hi : X.N[i]? = some n := by rfl) (hx2 : Loc X.env.scope n := by first | exact Or.inl rfl | exact Or.inr rfl) (hdn : (n == ("__debug__" : Str)) = false := by decide) (hcn : (n == ("__classdict__" : Str)) = false := by decide) (hg : Gl X g := by rfl) (hdb : (g == ("__debug__" : Str)) = false := by decide)
    (he : starEach [.Name n pe] X.env = (false, eval (.Name n pe) X.env) :: starEach [] X.env := by rfl) (hpl : (backTo pos (starEach [] X.env)).any (·.1) = false := by rfl) :
    PE X (.Call (.Name g p) [.Name n pe] [] pos) (tE X.K X.mg W (callX i x a dd f)) := by
  obtain ⟨fa, fd, pr, F, hm, hkp, hb⟩ := cl.ex
  refine ⟨fun pins s σ H Q I h => wpAny_Call_Name_kw (ld_glob I hg hm ?_ hdb)⟩
  obtain ⟨env, F0, ci, S, sr, er, h⟩ := h
  have ha : PA X [.Name n pe] (tCons (tE X.K X.mg W (vE i)) tNil) := pa_cons (de_v (W := W) i hi (by rcases hx2 with h | h; exact .inl h; exact .inr (.inl h)) hdn hcn) pa_nil he
  refine PySem.W.callWith_K (h₀ := X.base) I.ok.mod.kin hkp (thn (ha.run pos pins s σ H (fun vs H1 => spX X.K X.mg NS f (a, oe) vs H1 Q (WE W σ)) I ?_) fun us s1 ⟨vs, H1, I1, rv, q⟩ => ⟨I1.kIn, ?_⟩) he hpl
  · refine ⟨env, F0, ci, S, sr, er, ?_⟩
    unfold callX at h
    unfold vE
    split at h
    · rename_i hq
      rw [hq]
      intro F1 c1 H1 l1 s1 v r
      exact ⟨rfl, x, C, dd, gC, hx, hz, hf, F1, c1, S, s1, .cons r .nil, Out.later h l1⟩
    · exact h.elim
  · have P1 := I1.pin (a, oe) (List.mem_append_left _ hp)
    have hpin : L2H.PinOk X.stack H1 s1 (a, oe) := ⟨P1.1, P1.2.1, fun hm => (List.mem_cons.mp (I1.stkSub a hm)).elim P1.2.2.1 P1.2.2.2.1, P1.2.2.2.2⟩
    have hlen : us.length = [pr].length := by rw [← rv.length]; exact F.len _ _ _ _ _ q
    have b := hb s1 us I1.kIn (by rw [List.append_nil]; exact hlen)
    rw [List.append_nil] at b
    refine wpAny_call (codeAny_mono (F.run X.A X.stack s1 H1 ⟨us, []⟩ us vs Q (WE W σ) (a, oe) (hr.mono hk) hpin I1.env0 b rv q) fun r s' hq => ?_)
    cases r with
    | error e => exact hl σ pins H1 s1 e s' I1 hq
    | ok fl =>
      cases fl with
      | ret u => exact I1.after hq
      | next => exact hq.elim
      | brk => exact hq.elim
      | cont => exact hq.elim

/-! ### try -/
open Classical in
noncomputable def trySy (p : StmtD) (NS : List Str) (c : Str) (i : Nat) (q : Addr → Addr → Exc → StmtD) : StmtD := fun env S => match p env S with
  | .ok (.ex x e) S1 => if x.name ∈ NS then (if tabE x.name c = true then uniA fun a => uniA fun dd => outI i (q a dd x (e.set i (some (exP a dd x))) S1) else .ok (.ex x e) S1) else .stuck
  | r => r
theorem ds_tryX {NS MS CL FL : List Str} {body suite : List Stmt} {b₀ : Stmt} {c : Str} {np pos' : Pos} {pb : StmtD} {q : Addr → Addr → Exc → StmtD} (i : Nat) (hN : X.N.Nodup) (tk : Takes X W) (E : ExT X.K X.mg NS MS CL FL) (hcl : c ∈ CL)
    (hb : ∀ (W : WX) (pn : List (Addr × Obj)) (xe : Value → Shared → Prop), Takes (X.tr pn xe) W → PassesOwn (model X.prog X.w) X.A X.env xe → PSs (X.tr pn xe) body (tS X.K X.mg W pb))
    (hq : ∀ (x : Exc) (C a dd : Addr) (oe : Obj) (pn : List (Addr × Obj)), X.mg x.name = some (.ref C) → x.name ∈ NS → Zc (.ref C) (xdo x dd) oe → (∃ vs, oe.data = .fields vs) → PSs (X.suite a ((a, oe) :: pn)) (b₀ :: suite) (tS X.K X.mg (fun _ _ _ _ => False) (q a dd x)))
    (hs : X.stack = X.env :: X.outer := by rfl) (hf : X.env.frame = some X.env.locals := by rfl) (hi : X.N[i]? = some n := by rfl) (hln : X.env.kindOf n = some .local := by rfl) (hgc : Gl X c := by rfl) (hdc : (c == ("__debug__" : Str)) = false := by decide) :
    PS X (.Try body [.ExceptHandler (some (.Name c np)) (some n) (b₀ :: suite) pos'] [] [] pos) (tSX X W (trySy pb NS c i q)) := by
  obtain ⟨D0, gD⟩ := E.clz c hcl
  refine (ps_try_as (i := i) (c := .ref D0) (tb := fun W => tS X.K X.mg W pb)
    (ts := fun a cls d => fun D σ H => ∃ (x : Exc) (C dd : Addr), X.mg x.name = some (.ref C) ∧ x.name ∈ NS ∧ cls = .ref C ∧ d = xdo x dd ∧ tS X.K X.mg (fun _ _ _ _ => False) (q a dd x) D σ H)
    hs hf hN hi hln ⟨hgc, hdc, .inl gD⟩ tk hb fun a oe cls d pn hz hfl => ⟨fun pins s σ H D I h => ?_⟩).imp fun D σ H h => ?_
  · obtain ⟨x, C, dd, g1, g2, rfl, rfl, h⟩ := h
    exact (hq x C a dd oe pn g1 g2 hz hfl).run pins s σ H D I h
  · obtain ⟨env, F, ci, S, sr, er, h⟩ := h
    refine ⟨env, F, ci, S, sr, er, ?_⟩
    unfold trySy at h
    cases hp : pb env S with
    | exc x S1 => rw [hp] at h; exact h
    | stuck => rw [hp] at h; exact h
    | ok fl S1 =>
      rw [hp] at h
      cases fl with
      | nx e => exact h
      | rt d => exact h
      | bk e => exact h
      | ct e => exact h
      | ex x e =>
        dsimp only at h
        split at h
        · rename_i hxn
          intro F1 c1 H1 l1 s1 σ1 er1 cls d xr
          obtain ⟨C, gC, rfl, _⟩ := id xr
          refine ⟨tabE x.name c, E.em _ hxn c hcl C D0 gC gD, fun ht a na => ?_, fun ht => ?_⟩
          · rw [if_pos ht] at h
            obtain ⟨dd, hd, ra⟩ := rp_exP a xr
            subst hd
            refine ⟨x, C, dd, gC, hxn, rfl, rfl, e.set i (some (exP a dd x)), F1, c1, S1, s1, er1.set i ra, ?_⟩
            have hne : uniA (fun a => uniA fun dd => outI i (q a dd x (e.set i (some (exP a dd x))) S1)) ≠ .stuck := fun z => by rw [z] at h; exact h
            rw [uniA_at hne a] at h
            have hne2 : uniA (fun dd => outI i (q a dd x (e.set i (some (exP a dd x))) S1)) ≠ .stuck := fun z => by rw [z] at h; exact h
            rw [uniA_at hne2 dd] at h
            have h := Out.later h l1
            cases hr : q a dd x (e.set i (some (exP a dd x))) S1 with
            | exc y S2 => rw [hr] at h; exact h.elim
            | stuck => rw [hr] at h; exact h.elim
            | ok fl S2 =>
              rw [hr] at h
              cases fl with
              | nx e2 => exact fun F2 c2 H2 l2 s2 σ2 er2 => h F2 c2 H2 l2 s2 _ (er2.unset i)
              | bk e2 => exact fun F2 c2 H2 l2 s2 σ2 er2 => h F2 c2 H2 l2 s2 _ (er2.unset i)
              | ct e2 => exact fun F2 c2 H2 l2 s2 σ2 er2 => h F2 c2 H2 l2 s2 _ (er2.unset i)
              | rt d2 => exact h
              | ex y e2 => exact h.elim
          · rw [if_neg (by rw [ht]; exact Bool.noConfusion)] at h
            exact h F1 c1 H1 l1 s1 σ1 er1 _ _ xr
        · exact h.elim
end
end LH

/-! LOB: instances of own classes as cells: fields read and written. -/
namespace LH
open PySem PySem.Spec PyProof.Rows L2
/-- an instance of the class C: its fields' names -/
def insG (C : Addr) (ns : List Str) : Addr → List V → HO := fun dx vs => .ins C dx (ns.zip vs)
open Classical in
noncomputable def insAt (S : Sto) (C : Addr) (ns : List Str) (x : PV) : Option (Nat × List PV) := match x with
  | .cell n => match S[n]? with
    | some (.gen two g xs) => if two = true ∧ g = insG C ns ∧ xs.length = ns.length then some (n, xs) else none
    | _ => none
  | _ => none
section
variable {K : PySem.W.Frag} {F : Hp} {ci : List Addr} {S : Sto} {H : Hp} {C : Addr} {ns : List Str}
end
noncomputable def fldV (C : Addr) (ns : List Str) (f : Str) (x : PV) (S : Sto) : Res PV := match insAt S C ns x with
  | some (_, xs) => match (ns.zip xs).lookup f with
    | some v => .ok v S
    | none => .stuck
  | none => .stuck
def putFl {α : Type} (f : Str) (y : α) : List Str → List α → List α
  | g :: ns, x :: xs => if g = f then y :: xs else x :: putFl f y ns xs
  | _, xs => xs
open Classical in
/-- o.f = e: the value, the instance -/
noncomputable def setFS (C : Addr) (ns : List Str) (f : Str) (fo fv : ExprD) : StmtD := fun env S => runE (fv env S) env fun y S1 => runE (fo env S1) env fun d S2 => match insAt S2 C ns d with
  | some (n, xs) => if bel 0 y = true ∧ ns.length < 1000 then (if f ∈ ns then .ok (.nx env) (S2.set n (.gen true (insG C ns) (putFl f y ns xs))) else .ok (.nx env) (S2.set n (.gen true (insG C (ns ++ [f])) (xs ++ [y])))) else .stuck
  | none => .stuck
section
variable {X : Cx} {W : WX} {e o value : Expr} {fe fo fv : ExprD} {pos pos' : Pos} {C : Addr} {ns : List Str} {f : Str}
end
end LH

/-! LOC: new instances as cells. -/
namespace LH
open PySem PySem.Spec PyProof.Rows L2
section
variable {K : PySem.W.Frag} {F : Hp} {ci : List Addr} {S : Sto} {H : Hp}
/-- something new beside all that is kept -/
theorem SR.side (s : SR K F ci S H) {p : Addr} {o : HO} (h : H p = none) : SR K F ci S (upd H p o) ∧ Later F ci H F ci (upd H p o) := by
  refine ⟨⟨fun a u q => ?_, s.len, s.nd, fun a hm => ?_, fun n xs e => ?_, fun n u e => ?_, fun n two g xs e => ?_⟩, ⟨.refl _, List.prefix_refl _, fun a u q _ => ?_, fun a h1 h2 => absurd h1 h2, fun _ _ q => .inl q⟩⟩
  · have := s.le a u q
    rw [upd_ne (ne_of_none this h)]; exact this
  · obtain ⟨u, e⟩ := s.there a hm
    exact ⟨u, by rw [upd_ne (ne_of_none e h)]; exact e⟩
  · obtain ⟨a, vs, e1, e2, e3, e4⟩ := s.cel n xs e
    exact ⟨a, vs, e1, e2, by rw [upd_ne (ne_of_none e3 h)]; exact e3, e4⟩
  · obtain ⟨a, e1, e2, e3⟩ := s.kel n u e
    exact ⟨a, e1, e2, by rw [upd_ne (ne_of_none e3 h)]; exact e3⟩
  · obtain ⟨a, e1, hg⟩ := s.gel n two g xs e
    exact ⟨a, e1, hg.upd (hg.ne h) fun b q => by rw [h] at q; cases q⟩
  · rw [upd_ne (ne_of_none q h)]; exact q
/-- a new thing made of values -/
theorem SR.gened (s : SR K F ci S H) {p dx : Addr} {two : Bool} {g : Addr → List V → HO} {xs : List PV} {vs : List V} (h : H p = none) (z : xs.length ≤ sizeLine ∧ bels 0 xs = true) (r : Rps K F ci xs vs)
    (hk : two = true → F dx = none ∧ dx ∉ ci ∧ dx ≠ p ∧ H dx = some (.own p)) :
    SR K F (ci ++ [p]) (S ++ [.gen two g xs]) (upd H p (g dx vs)) ∧ Later F ci H F (ci ++ [p]) (upd H p (g dx vs)) ∧ (ci ++ [p])[S.length]? = some p := by
  have hp : ci <+: ci ++ [p] := List.prefix_append _ _
  have hg : (ci ++ [p])[S.length]? = some p := by rw [← s.len, List.getElem?_append_right (Nat.le_refl _), Nat.sub_self]; rfl
  have last : ∀ {n : Nat} {c : Cell}, ¬ n < S.length → (S ++ [Cell.gen two g xs])[n]? = some c → n = S.length ∧ c = .gen two g xs := by
    intro n c hn e
    have hn' : n = S.length := by
      have := (List.getElem?_eq_some_iff.mp e).1
      simp at this; omega
    subst hn'
    rw [List.getElem?_append_right (Nat.le_refl _), Nat.sub_self] at e
    exact ⟨rfl, by simpa using e.symm⟩
  have l : Later F ci H F (ci ++ [p]) (upd H p (g dx vs)) := by
    refine ⟨.refl _, hp, ?_, ?_, fun _ _ q => .inl q⟩
    · intro a w q _
      rw [upd_ne (ne_of_none q h)]; exact q
    · intro a hm hn
      rcases List.mem_append.mp hm with hm | hm
      · exact absurd hm hn
      · have : a = p := by simpa using hm
        subst this; exact h
  refine ⟨⟨fun a w q => ?_, by simp [s.len], ?_, fun a hm => ?_, fun n ys e => ?_, fun n w e => ?_, fun n t g2 ys e => ?_⟩, l, hg⟩
  · have := s.le a w q
    rw [upd_ne (ne_of_none this h)]; exact this
  · rw [List.nodup_append]
    refine ⟨s.nd, by simp, ?_⟩
    rintro a ha b hb rfl
    have : a = p := by simpa using hb
    subst this
    exact s.notIn h ha
  · rcases List.mem_append.mp hm with hm | hm
    · obtain ⟨w, e⟩ := s.there a hm
      exact ⟨w, by rw [upd_ne (ne_of_none e h)]; exact e⟩
    · have : a = p := by simpa using hm
      subst this
      exact ⟨_, upd_same⟩
  · by_cases hn : n < S.length
    · rw [List.getElem?_append_left hn] at e
      obtain ⟨a, ws, e1, e2, e3, z', e4⟩ := s.cel n ys e
      exact ⟨a, ws, pre_get hp e1, e2, by rw [upd_ne (ne_of_none e3 h)]; exact e3, z', e4.mono (.refl _) hp⟩
    · cases (last hn e).2
  · by_cases hn : n < S.length
    · rw [List.getElem?_append_left hn] at e
      obtain ⟨a, e1, e2, e3⟩ := s.kel n w e
      exact ⟨a, pre_get hp e1, e2, by rw [upd_ne (ne_of_none e3 h)]; exact e3⟩
    · cases (last hn e).2
  · by_cases hn : n < S.length
    · rw [List.getElem?_append_left hn] at e
      obtain ⟨a, e1, hgl⟩ := s.gel n t g2 ys e
      exact ⟨a, pre_get hp e1, l.gelat hgl hgl.f (upd_ne (hgl.ne h))⟩
    · obtain ⟨rfl, e2⟩ := last hn e
      cases e2
      refine ⟨p, hg, dx, vs, s.free h, upd_same, z, r.mono (.refl _) hp, fun t => ?_⟩
      obtain ⟨k1, k2, k3, k4⟩ := hk t
      refine ⟨k1, fun hm => ?_, by rw [upd_ne k3]; exact k4⟩
      rcases List.mem_append.mp hm with hm | hm
      · exact k2 hm
      · exact k3 (by simpa using hm)
/-- a new instance without fields -/
theorem SR.made (s : SR K F ci S H) {x dx C : Addr} (hx : H x = none) (hd : H dx = none) (hne : dx ≠ x) :
    SR K F (ci ++ [x]) (S ++ [.gen true (insG C []) []]) (upd (upd H dx (.own x)) x (.ins C dx [])) ∧ Later F ci H F (ci ++ [x]) (upd (upd H dx (.own x)) x (.ins C dx [])) ∧ (ci ++ [x])[S.length]? = some x := by
  obtain ⟨s1, l1⟩ := s.side (o := .own x) hd
  have hx1 : upd H dx (.own x) x = none := by rw [upd_ne (fun e => hne e.symm)]; exact hx
  obtain ⟨s2, l2, g2⟩ := s1.gened (p := x) (dx := dx) (two := true) (g := insG C []) (xs := []) (vs := []) hx1 ⟨Nat.zero_le _, rfl⟩ .nil (fun _ => ⟨s.free hd, s.notIn hd, hne, upd_same⟩)
  exact ⟨s2, l1.trans l2, g2⟩
end
end LH

/-! LOD: C(..) of an own class; o.m(..) of an instance. -/
namespace L2
open PySem PySem.Spec PyProof.Rows
def tMakeSD (C : Addr) (sp : Sp) (dvs : List V) (E : St → XK) (t : TA) : TE := fun σ H Q => t σ H fun vs H1 => ∀ x dx, H1 x = none → H1 dx = none → dx ≠ x →
  sp (.ref x :: (vs ++ dvs)) (upd (upd H1 dx (.own x)) x (.ins C dx [])) (fun v H2 => v = .non ∧ Q (.ref x) H2) (E σ)
def tMethSD (C : Addr) (m : Str) (sp : Sp) (dvs : List V) (E : St → XK) (ta : TE) (t : TA) : TE := fun σ H Q => ta σ H fun x H1 => ∃ a dx fs, x = .ref a ∧ H1 a = some (.ins C dx fs) ∧ fs.lookup m = none ∧
  t σ H1 fun vs H2 => sp (x :: (vs ++ dvs)) H2 Q (E σ)
section
variable {X : Cx} {CX : CXT} {k : Nat} {f C : Addr} {fd : FuncData} {ps : List Str} {sp : Sp} {E : St → XK} {x m : Str} {p pos apos : Pos} {e o : Expr} {es : List Expr} {ta : TE} {t : TA} {dvs : List V} {ds : List Value}
end
end L2
namespace LH
open PySem PySem.Spec PyProof.Rows L2
/-- a class that may be called by its name: its __init__ -/
structure CalleeC (P : Program) (w : World) (K : PySem.W.Frag) (mg : Str → Option Value) (base : Heap) (k : Nat) (x : Str) (C : Addr) (ps : List Str) (f : FnDen) : Prop where
  ex : ∃ fa fd, FnOk P w K mg base (L2.CX P w) k fa fd ps (spF K mg ps.length f) ∧ mg x = some (.ref C) ∧ Mk K C fa ∧ Binds K fd ps []
/-- a method of a class -/
structure CalleeM (P : Program) (w : World) (K : PySem.W.Frag) (mg : Str → Option Value) (base : Heap) (k : Nat) (C : Addr) (m : Str) (ps : List Str) (f : FnDen) : Prop where
  ex : ∃ fa fd, FnOk P w K mg base (L2.CX P w) k fa fd ps (spF K mg ps.length f) ∧ Cls K C ∧ Meth K C m fa ∧ Binds K fd ps []
noncomputable def makeE (C : Addr) (f : FnDen) (r : ArgsD) : ExprD := fun env S => (r env S).bind fun ds S1 => (f (.cell S1.length :: ds) (S1 ++ [.gen true (insG C []) []])).bind fun v S2 => if isNonB v = true then .ok (.cell S1.length) S2 else .stuck
/-- o.m(..): the instance, the arguments -/
noncomputable def methE (C : Addr) (ns : List Str) (f : FnDen) (fo : ExprD) (r : ArgsD) : ExprD := fun env S => (fo env S).bind fun d S1 => match insAt S1 C ns d with
  | some _ => (r env S1).bind fun ds S2 => f (d :: ds) S2
  | none => .stuck
section
variable {X : Cx} {W : WX} {k j : Nat} {x m : Str} {C : Addr} {ps ns : List Str} {f : FnDen} {e o : Expr} {es : List Expr} {fo : ExprD} {r : ArgsD} {p pos apos : Pos}
/-- a property of a class -/
structure CalleeP (P : Program) (w : World) (K : PySem.W.Frag) (mg : Str → Option Value) (base : Heap) (k : Nat) (C : Addr) (m : Str) (f : FnDen) : Prop where
  ex : ∃ q fa fd ps, FnOk P w K mg base (L2.CX P w) k fa fd ps (spF K mg 1 f) ∧ Cls K C ∧ PropOf K C m q fa ∧ Binds K fd ps []
/-- o.m, a property -/
noncomputable def propE (C : Addr) (ns : List Str) (f : FnDen) (fo : ExprD) : ExprD := fun env S => (fo env S).bind fun d S1 => match insAt S1 C ns d with
  | some _ => match f [d] S1 with
    | .ok v S2 => .ok v S2
    | _ => .stuck
  | none => .stuck
end
end LH

/-! LOE: o(..) of an instance whose class has __call__. -/
namespace PySem.W
open PySem PySem.Spec PyProof.Rows
end PySem.W

/-! LOF: d(..) of an instance that a name holds. -/
namespace PySem.W
open PySem PySem.Spec PyProof.Rows
end PySem.W
namespace L2
open PySem PySem.Spec PyProof.Rows
def tInstSD (C : Addr) (sp : Sp) (dvs : List V) (E : St → XK) (ta : TE) (t : TA) : TE := fun σ H Q => ta σ H fun x H1 => t σ H1 fun vs H2 => ∃ a dx fs, x = .ref a ∧ H2 a = some (.ins C dx fs) ∧ sp (x :: (vs ++ dvs)) H2 Q (E σ)
section
variable {X : Cx} {CX : CXT} {k : Nat} {f C : Addr} {fd : FuncData} {ps : List Str} {sp : Sp} {E : St → XK} {x : Str} {p pos : Pos} {e : Expr} {es : List Expr} {ta : TE} {t : TA} {dvs : List V} {ds : List Value}
/-- the object of a def -/
def FnAt (K : PySem.W.Frag) (f : Addr) : Prop := ∃ oc od fd osl, K.lookup f = some ⟨oc, od, .func fd, osl⟩
end
end L2
namespace LH
open PySem PySem.Spec PyProof.Rows L2
/-- a class whose instances may be called -/
structure CalleeI (P : Program) (w : World) (K : PySem.W.Frag) (mg : Str → Option Value) (base : Heap) (k : Nat) (C : Addr) (ps : List Str) (f : FnDen) : Prop where
  ex : ∃ fa fd, FnOk P w K mg base (L2.CX P w) k fa fd ps (spF K mg ps.length f) ∧ FnAt K fa ∧ Meth K C "__call__" fa ∧ Binds K fd ps []
/-- d(..): the instance, the arguments -/
noncomputable def instE (C : Addr) (ns : List Str) (f : FnDen) (fo : ExprD) (r : ArgsD) : ExprD := fun env S => (fo env S).bind fun d S1 => (r env S1).bind fun ds S2 => match insAt S2 C ns d with
  | some _ => f (d :: ds) S2
  | none => .stuck
section
variable {X : Cx} {W : WX} {k j : Nat} {x : Str} {C : Addr} {ps ns : List Str} {f : FnDen} {e : Expr} {es : List Expr} {fo : ExprD} {r : ArgsD} {p pos : Pos}
end
end LH

/-! LOH: the head of a law with own classes. -/
namespace LH
open PySem PySem.Spec PyProof.Rows L2
/-! ### what may be called -/
section
variable {P : Program} {w : World} {K : PySem.W.Frag} {mg : Str → Option Value} {base : Heap} {k : Nat} {x qual m : Str} {ps : List Str} {f : FnDen} {params : Arguments} {body : List Stmt} {scope : Scope} {fa C : Addr} {fd : FuncData}
end
/-! ### the end -/
end LH

/-! LKW: C(k = v, ..) of an own class, d(k = v, ..) of an instance, o.m(k = v, ..). -/
namespace LH
open PySem PySem.Spec PyProof.Rows L2
structure CalleeCK (P : Program) (w : World) (K : PySem.W.Frag) (mg : Str → Option Value) (base : Heap) (k : Nat) (x : Str) (C : Addr) (ps ks : List Str) (pm : List Nat) (f : FnDen) : Prop where
  ex : ∃ fa fd, FnOk P w K mg base (L2.CX P w) k fa fd ps (spF K mg ps.length f) ∧ mg x = some (.ref C) ∧ Mk K C fa ∧ KwB K fd ps ks 1 pm
structure CalleeMK (P : Program) (w : World) (K : PySem.W.Frag) (mg : Str → Option Value) (base : Heap) (k : Nat) (C : Addr) (m : Str) (ps ks : List Str) (pm : List Nat) (f : FnDen) : Prop where
  ex : ∃ fa fd, FnOk P w K mg base (L2.CX P w) k fa fd ps (spF K mg ps.length f) ∧ Cls K C ∧ Meth K C m fa ∧ KwB K fd ps ks 1 pm
structure CalleeIK (P : Program) (w : World) (K : PySem.W.Frag) (mg : Str → Option Value) (base : Heap) (k : Nat) (C : Addr) (ps ks : List Str) (pm : List Nat) (f : FnDen) : Prop where
  ex : ∃ fa fd, FnOk P w K mg base (L2.CX P w) k fa fd ps (spF K mg ps.length f) ∧ FnAt K fa ∧ Meth K C "__call__" fa ∧ KwB K fd ps ks 1 pm
noncomputable def makeKE (C : Addr) (f : FnDen) (pm : List Nat) (rk : ArgsD) : ExprD := fun env S => (rk env S).bind fun ds S1 => (f (permG pm [.cell S1.length] ds) (S1 ++ [.gen true (insG C []) []])).bind fun v S2 => if isNonB v = true then .ok (.cell S1.length) S2 else .stuck
noncomputable def methKE (C : Addr) (ns : List Str) (f : FnDen) (pm : List Nat) (fo : ExprD) (rk : ArgsD) : ExprD := fun env S => (fo env S).bind fun d S1 => match insAt S1 C ns d with
  | some _ => (rk env S1).bind fun ds S2 => f (permG pm [d] ds) S2
  | none => .stuck
noncomputable def instKE (C : Addr) (ns : List Str) (f : FnDen) (pm : List Nat) (fo : ExprD) (rk : ArgsD) : ExprD := fun env S => (fo env S).bind fun d S1 => (rk env S1).bind fun ds S2 => match insAt S2 C ns d with
  | some _ => f (permG pm [d] ds) S2
  | none => .stuck
section
variable {X : Cx} {W : WX} {k j : Nat} {x m : Str} {C : Addr} {ps ks ns : List Str} {pm : List Nat} {f : FnDen} {o : Expr} {kws : List Keyword} {fo : ExprD} {rk : ArgsD} {p pos apos : Pos}
end
section
variable {P : Program} {w : World} {K : PySem.W.Frag} {mg : Str → Option Value} {base : Heap} {k : Nat} {x qual m : Str} {params : Arguments} {body : List Stmt} {scope : Scope} {C fa : Addr} {fd : FuncData} {ps ks : List Str} {pm : List Nat} {f : FnDen}
end
end LH

/-! LXK: an own exception class with its own __init__, called by keywords (over the heap). -/
namespace LH
open PySem PySem.Spec PyProof.Rows L2
section
variable {hp : Heap} {gs : Array GenState} {dr : Drawn} {tk : Nat} {os : OsState}
variable {nm qn : Str} {C N : Addr} {bs bm tl : List Value} {hd : Bool} {sn : List Str} {su : List Value} {ab : Bool} {co : Option Bool} {de : Option Addr} {k0 k1 k2 k3 k5 : Option Value} {B nI iI : String}
theorem kwNew_check {M : Model} {A : Around} {E : Value → Shared → Prop} {Q : Unit → Shared → Prop} {us : List Value} {kw : List (Str × Value)} (F : ExcBaseFacts B nI iI tl) (hT : ∀ Y : String, bm.contains (.type Y) = tl.contains (.type Y))
    (hC : hp.get? C = some (excClassObj nm qn C N bs bm hd sn su ab co de k0 k1 k2 k3 k5 nI)) (hq : Q () ⟨hp, gs, dr, tk, os⟩) : wpAny M A (checkBuiltinCall nI ⟨.ref C :: us, kw⟩) Q E ⟨hp, gs, dr, tk, os⟩ := by
  have c1 : (Value.ref C :: bm).contains (.type B) = true := by rw [List.contains_cons, hT, F.hasB]; exact Bool.or_true _
  have c2 := F.noStar
  simp only [checkBuiltinCall, F.newKind, F.newSplit, F.newRow]
  repeat (first
    | refine wpAny_loadPart_at hC ?_
    | (refine wpAny_isSubtype_exc hC ?_; rw [c1])
    | refine wpAny_staticBase_exc hC ?_
    | refine wpAny_madeBy_exc hC ?_
    | simp only [bne_self_eq_false, Bool.false_eq_true, if_false]
    | wp_step)
  exact hq
variable {prog : Program} {w : World} {A : Around} {E : Value → Shared → Prop} {R : Result → Shared → Prop} {us : List Value} {kw : List (Str × Value)}
theorem kwNew_run (F : ExcBaseFacts B nI iI tl) (hT : ∀ Y : String, bm.contains (.type Y) = tl.contains (.type Y)) (hC : hp.get? C = some (excClassObj nm qn C N bs bm hd sn su ab co de k0 k1 k2 k3 k5 nI))
    (hq : R (.ok (.ret (.ref (hp.objs.size + 1)))) ⟨(hp.push { cls := .type "tuple", data := .seq us.toArray }).push (PySem.HandSPX.excO C hp.objs.size), gs, dr, tk, os⟩) (hz : us.length ≤ sizeLine) :
    codeAny (model prog w) A (.builtin nI ⟨.ref C :: us, kw⟩) R ⟨hp, gs, dr, tk, os⟩ := by
  have c0 := F.ends
  have c1 : (Value.ref C :: bm).contains (.type B) = true := by rw [List.contains_cons, hT, F.hasB]; exact Bool.or_true _
  have c2 : (Value.ref C :: bm).contains (.type "AttributeError") = false := by rw [List.contains_cons, hT, F.noAttr]; exact Bool.or_false _
  have c3 : (Value.ref C :: bm).contains (.type "NameError") = false := by rw [List.contains_cons, hT, F.noName]; exact Bool.or_false _
  refine codeAny_builtinAt F.entry ?_
  unfold Builtin.«BaseException.__new__»
  refine PySem.wpAt_bind ?_
  show PySem.wpAt _ _ _ (stack >>= _) _ _ _
  refine PySem.wpAt_bind (PySem.wpAt_stack fun p below => PySem.wpAt_of_wpAny ?_)
  wp_walk
  refine PySem.wpAt_of_wpAny ?_
  rw [F.owner]
  repeat (first
    | with_reducible refine wpAny_madeHere_exc F.canon hC ?_
    | with_reducible refine wpAny_loadPart_at hC ?_
    | (with_reducible refine wpAny_isSubtype_exc hC ?_; first | rw [c1] | rw [c2] | rw [c3])
    | wp_step)
  show R _ _
  rw [Heap.size_push]
  exact hq
theorem kwType_call (F : ExcBaseFacts B nI iI tl) (hT : ∀ Y : String, bm.contains (.type Y) = tl.contains (.type Y)) {fI : Addr} {Q : Fin → Shared → Prop} (hC : hp.get? C = some (excClassObj nm qn C N bs bm hd sn su ab co de k0 k1 k2 k3 k5 nI))
    (hi : W.Looks (model prog w) hp (typeLookup (.ref C) "__init__") (some (.ref fI))) (hb : ∀ z, W.Looks (model prog w) hp (bindSpecial (.ref fI) z) (.ref fI, [z])) (hz : us.length ≤ sizeLine)
    (hq : codeAny (model prog w) A (.call (.ref fI) ⟨.ref (hp.objs.size + 1) :: us, kw⟩) (fun r s' => match r with | .error e => E e s' | .ok (.ret v) => v = .none ∧ Q (.done (.ret (.ref (hp.objs.size + 1)))) s' | .ok _ => False)
      ⟨(hp.push (W.kdv_tup us)).push (PySem.HandSPX.excO C hp.objs.size), gs, dr, tk, os⟩) :
    wpAny (model prog w) A (Builtin.«type.__call__» ⟨.ref C :: us, kw⟩) Q E ⟨hp, gs, dr, tk, os⟩ := by
  repeat (first
    | with_reducible refine wpAny_loadPart_at hC ?_
    | with_reducible refine wpAny_madeBy_exc hC ?_
    | wp_step)
  refine codeAny_call_builtin_code (Code.quiet_builtin _ F.quiet) (kwNew_check F hT hC (kwNew_run F hT hC ?_ hz))
  show wpAny _ _ _ _ _ _
  have k : ∀ b o, hp.get? b = some o → ((hp.push (W.kdv_tup us)).push (PySem.HandSPX.excO C hp.objs.size)).get? b = some o := fun b o z => Heap.get?_push_of_some _ (Heap.get?_push_of_some _ z)
  have c1 := k _ _ hC
  have c2 : ((hp.push (W.kdv_tup us)).push (PySem.HandSPX.excO C hp.objs.size)).get? (hp.objs.size + 1) = some (PySem.HandSPX.excO C hp.objs.size) := by heap_get
  have c3 : (Value.ref C :: bm).contains (.ref C) = true := by rw [List.contains_cons, beq_self_eq_true]; rfl
  have i1 := hi.keeps k
  have b1 := (hb (.ref (hp.objs.size + 1))).keeps k
  unfold isInstance
  repeat (first
    | with_reducible refine wpAny_loadPart_at c2 ?_
    | (with_reducible refine wpAny_isSubtype_exc c1 ?_; rw [c3])
    | wp_step)
  refine (?_ : wpAny _ _ (typeLookup (.ref C) _) _ _ _)
  refine i1.at (wpAny_holding (wpAny_bind (b1.at ?_)))
  refine wpAny_bind (wpAny_call (codeAny_mono hq fun r s' z => ?_))
  cases r with
  | error e => exact z
  | ok fl =>
    cases fl with
    | ret v =>
      obtain ⟨rfl, z⟩ := z
      first
        | exact wpAny_pure (wpAny_pure z)
        | (wp_walk; exact z)
    | next => exact z.elim
    | brk => exact z.elim
    | cont => exact z.elim
theorem kwType_check {M : Model} {Q : Unit → Shared → Prop} (hC : hp.get? C = some (excClassObj nm qn C N bs bm hd sn su ab co de k0 k1 k2 k3 k5 nI)) (hq : Q () ⟨hp, gs, dr, tk, os⟩) : wpAny M A (checkBuiltinCall "type.__call__" ⟨.ref C :: us, kw⟩) Q E ⟨hp, gs, dr, tk, os⟩ := by
  have c0 := tc_sub
  have ty : (⟨hp, gs, dr, tk, os⟩ : Shared).TypeIs (.ref C) "type" := ⟨_, hC, rfl⟩
  simp only [checkBuiltinCall, tc_kind, tc_split]
  repeat (any_goals (first
    | assumption
    | with_reducible refine wpAny_loadPart_at hC ?_
    | with_reducible refine wpAny_onRaise ?_
    | with_reducible refine wpAny_map ?_
    | wp_step))
theorem kwCall_own (F : ExcBaseFacts B nI iI tl) (hT : ∀ Y : String, bm.contains (.type Y) = tl.contains (.type Y)) {fI : Addr} (hC : hp.get? C = some (excClassObj nm qn C N bs bm hd sn su ab co de k0 k1 k2 k3 k5 nI))
    (hi : W.Looks (model prog w) hp (typeLookup (.ref C) "__init__") (some (.ref fI))) (hb : ∀ z, W.Looks (model prog w) hp (bindSpecial (.ref fI) z) (.ref fI, [z])) (hz : us.length ≤ sizeLine)
    (hq : codeAny (model prog w) (A.under (.builtin "type.__call__" ⟨.ref C :: us, kw⟩)) (.call (.ref fI) ⟨.ref (hp.objs.size + 1) :: us, kw⟩) (W.InitBack (hp.objs.size + 1) R) ⟨(hp.push (W.kdv_tup us)).push (PySem.HandSPX.excO C hp.objs.size), gs, dr, tk, os⟩) :
    codeAny (model prog w) A (.call (.ref C) ⟨us, kw⟩) R ⟨hp, gs, dr, tk, os⟩ := by
  have c1 := tc_lookup
  have c2 := tc_bind (.ref C)
  have ty : (⟨hp, gs, dr, tk, os⟩ : Shared).TypeIs (.ref C) "type" := ⟨_, hC, rfl⟩
  refine codeAny_of_tree (?_ : wpAny _ _ (callAny (.ref C) _) _ _ _)
  repeat (any_goals (first
    | assumption
    | with_reducible refine wpAny_loadPart_at hC ?_
    | wp_step))
  refine ⟨rfl, codeAny_call_builtin_at (Code.quiet_builtin _ (by decide +kernel)) entry_typeCall (kwType_check hC (kwType_call F hT hC hi hb hz ?_))⟩
  refine codeAny_mono hq fun r s' z => ?_
  rcases r with e | (v | _ | _ | _)
  · exact z
  · exact z
  · exact z
  · exact z
  · exact z
end
end LH

/-! LXR: own exceptions with fields, made and raised. -/
namespace LH
open PySem PySem.Spec PyProof.Rows L2

/-- what such an __init__ does: the fields are laid -/
def spI (C : Addr) (fs : List Str) : Sp := fun vs H Q E => ∃ (a : Addr) (ws : List V), vs = .ref a :: ws ∧ ws.length = fs.length ∧ H a = some (exo a C none) ∧ ∀ d, H d = none → d ≠ a → Q .non (upd (upd H d (exd d (fs.zip ws).reverse)) a (exo a C (some d)))
structure InitX (P : Program) (w : World) (K : PySem.W.Frag) (mg : Str → Option Value) (base : Heap) (k : Nat) (n : Str) (fs : List Str) (C : Addr) (fI : Addr) (fd : FuncData) : Prop where
  gC : mg n = some (.ref C)
  oex : OexC K C
  ini : PySem.W.findIn K (.ref C) "__init__" = some (some (.ref fI))
  ty : PySem.W.typeIn K (.ref fI) = some (.type "function")
  ok : FnOk P w K mg base (L2.CX P w) k fI fd ("self" :: fs) (spI C fs)
  bd : Binds K fd ("self" :: fs) []
  ne : fs ≠ []
theorem passes0 {X : Cx} : Passes (L2.CX X.prog X.w) X (fun _ _ _ => False) := fun pins σ H s e s' I h => by
  obtain ⟨_, _, _, _, _, _, _, _, _, _, _, _, z⟩ := h
  exact z.elim
section
variable {X : Cx} {pins : List (Addr × Obj)} {σ : L2.St} {H : Hp} {a C d : Addr}
theorem hp_done {fs : List (Str × V)} (ha : H a = none) (hda : d ≠ a) : upd (del (upd (upd (upd H a (exo a C none)) d (exd d fs)) a (exo a C (some d))) a) d (.xd fs) = upd H d (.xd fs) := by
  funext b
  by_cases h1 : b = d
  · subst h1; rw [upd_same, upd_same]
  · rw [upd_ne h1, upd_ne h1]
    by_cases h2 : b = a
    · subst h2; rw [del_same, ha]
    · rw [del_ne h2, upd_ne h2, upd_ne h1, upd_ne h2]
/-- C(k = v, ..) of such a class -/
theorem pmk_oexK {x : Str} {fI : Addr} {k : Nat} {fd : FuncData} {ps ks : List Str} {pm : List Nat} {sp : Sp} {kws : List Keyword} {ta : TA} {p pos : Pos} (T : OexC X.K C) (iC : PySem.W.findIn X.K (.ref C) "__init__" = some (some (.ref fI))) (tI : PySem.W.typeIn X.K (.ref fI) = some (.type "function"))
    (F1 : FnOk X.prog X.w X.K X.mg X.base (L2.CX X.prog X.w) k fI fd ps sp) (hr : Room (k + 1) X.A) (hb : KwB X.K fd ps ks 1 pm) (hg : Gl X x) (hm : X.mg x = some (.ref C)) (hkw : PK X kws ta)
    (hall : (backToKw pos (keywordEach kws X.env)).all (·.1.isSome) = true) (hks : (backToKw pos (keywordEach kws X.env)).filterMap (·.1) = ks) (hdb : (x == ("__debug__" : Str)) = false) (hpl : ((backTo pos (starEach [] X.env)).any (·.1) || (backToKw pos (keywordEach kws X.env)).any (·.1.isNone)) = false) :
    PMk X (.Call (.Name x p) [] kws pos) (fun σ H Q => ta σ H fun zs H1 => zs.length = ks.length ∧ ∀ a, H1 a = none → sp (permG pm [.ref a] zs) (upd H1 a (exo a C none))
      (fun v H2 => v = .non ∧ ∃ (d : Addr) (fs : List (Str × V)), H2 a = some (exo a C (some d)) ∧ H2 d = some (exd d fs) ∧ H1 d = none ∧ Q (.ref C) (some d) (upd (del H2 a) d (.xd fs))) (fun _ _ _ => False)) := by
  intro pins s σ H Q I h
  obtain ⟨nm, q, N, bs, bm, sn, sub, ab, col, dd, k0, k1, k2, k3, k5, hC, hbm⟩ := T.cls
  refine wpAny_Call_Name_kw (ld_glob I hg hm ?_ hdb)
  refine PySem.W.callWith_KW0 (first := []) (h₀ := X.base) I.ok.mod.kin T.kC hall (thn (hkw.run pos pins s σ H _ I h) fun ws s1 ⟨zs, H1, I1, rz, hz, q1⟩ => ⟨I1.kIn, ?_⟩) hpl
  rw [hks]
  obtain ⟨hp, g, dr, tk, os⟩ := s1
  have hsz : hp.objs.size ≤ hp.objs.size + 1 := Nat.le_succ _
  have hn : H1 (hp.objs.size + 1) = none := I1.hok.fresh hsz
  have hq := q1 (hp.objs.size + 1) hn
  have kk : ∀ b o, hp.get? b = some o → ((hp.push (PySem.W.kdv_tup [])).push (PySem.HandSPX.excO C hp.objs.size)).get? b = some o := fun b o e => Heap.get?_push_of_some _ (Heap.get?_push_of_some _ e)
  have hget : ((hp.push (PySem.W.kdv_tup [])).push (PySem.HandSPX.excO C hp.objs.size)).get? (hp.objs.size + 1) = some (PySem.HandSPX.excO C hp.objs.size) := by heap_get
  have I2 : Inv X pins σ (upd H1 (hp.objs.size + 1) (exo (hp.objs.size + 1) C none)) ⟨(hp.push (PySem.W.kdv_tup [])).push (PySem.HandSPX.excO C hp.objs.size), g, dr, tk, os⟩ := I1.laid (t' := tk) (a := hp.objs.size + 1) kk hsz (exo_ok hget)
  have r2 : Vals (permG pm [V.ref (hp.objs.size + 1)] zs) (permG pm [Value.ref (hp.objs.size + 1)] ws) := permG_vals (.cons (show L2.RelV (V.ref _) (Value.ref _) from rfl) .nil) rz pm
  refine wpAny_call (kwCall_own F.excBase_ValueError (fun Y => PySem.HandSPX.refsVE_contains Y bm hbm) (I1.kIn _ _ hC) (PySem.W.looks_findIn I1.kIn iC) (fun self => PySem.W.bind_fn I1.kIn self tI) (Nat.zero_le _)
    (codeAny_mono (F1.run _ X.stack _ _ ⟨[Value.ref (hp.objs.size + 1)], ks.zip ws⟩ (permG pm [Value.ref (hp.objs.size + 1)] ws) _ _ (fun _ _ _ => False) (hr.make C [] (ks.zip ws)) (I2.env0.make C [] (ks.zip ws)) (hb.to _ [Value.ref (hp.objs.size + 1)] ws I2.kIn rfl (by rw [← rz.length]; exact hz)) r2 hq) fun r s' hq' => ?_))
  cases r with
  | error er => exact passes0 pins σ _ _ er s' I2 hq'
  | ok fl =>
    cases fl with
    | next => exact False.elim hq'
    | brk => exact False.elim hq'
    | cont => exact False.elim hq'
    | ret u =>
      obtain ⟨v, H2, os2, bare2, un2, hok2, rv, ev, d, fs, ea, ed, hd1, q2⟩ := hq'
      subst ev
      obtain ⟨h2, g2, d2, t2, os'⟩ := s'
      exact ⟨rv, mk_end (raises_own T.exC T.tyC) I1 hsz kk un2 hok2 os2 bare2 ea ed hd1 q2⟩
end
theorem permG_self {α : Type} (x : α) (zs : List α) (pq : List Nat) : permG (0 :: pq.map (· + 1)) [x] zs = x :: permG pq [] zs := by
  unfold permG
  rw [List.filterMap_cons]
  simp only [List.singleton_append, List.getElem?_cons_zero, List.nil_append]
  rw [List.filterMap_map]
  rfl
theorem zip_len_ne {α β : Type} {xs : List α} {ys : List β} (h : ys.length = xs.length) (hn : xs ≠ []) : (xs.zip ys).reverse ≠ [] := by
  cases xs with
  | nil => exact absurd rfl hn
  | cons a r =>
    cases ys with
    | nil => cases h
    | cons b t => rw [List.zip_cons_cons, List.reverse_cons]; simp
def permA (pq : List Nat) (r : ArgsD) : ArgsD := fun env S => (r env S).bind fun ds S1 => .ok (permG pq [] ds) S1
def raiseFS (n : Str) (fs : List Str) (r : ArgsD) : StmtD := fun env S => match r env S with
  | .ok ds S1 => if ds.length = fs.length then .ok (.ex ⟨n, (fs.zip ds).reverse⟩ env) S1 else .stuck
  | _ => .stuck
section
variable {X : Cx} {W : WX} {k j : Nat} {n : Str} {fs : List Str} {C fI : Addr} {fd : FuncData} {p pos pos2 : Pos} {rk : ArgsD}
theorem raiseF_in {K : PySem.W.Frag} {mg : Str → Option Value} {F : Hp} {ci : List Addr} {S : Sto} {H : Hp} {ds : List PV} {vs : List V} {env : PEnv} {D : Ends} {σ : L2.St} {a : Addr} (R : mg n = some (.ref C)) (hne : fs ≠ []) (sr : SR K F ci S H) (er : ER K F ci env σ) (rs : Rps K F ci ds vs) (hl : ds.length = fs.length)
    (q : Out K (fun _ _ _ _ _ => False) F ci H (.ok (.ex ⟨n, (fs.zip ds).reverse⟩ env) S) (SW K mg W D)) (ha : H a = none) :
    spI C fs (.ref a :: vs) (upd H a (exo a C none)) (fun v H2 => v = .non ∧ ∃ (d : Addr) (gs : List (Str × V)), H2 a = some (exo a C (some d)) ∧ H2 d = some (exd d gs) ∧ H d = none ∧ W (.ref C) (some d) σ (upd (del H2 a) d (.xd gs))) (fun _ _ _ => False) := by
  refine ⟨a, vs, rfl, by rw [← rs.length]; exact hl, upd_same, fun d hd hda => ⟨rfl, d, (fs.zip vs).reverse, upd_same, by rw [upd_ne hda, upd_same], by rw [upd_ne hda] at hd; exact hd, ?_⟩⟩
  rw [upd_ne hda] at hd
  rw [hp_done ha hda]
  obtain ⟨s2, l2⟩ := sr.laid (o := .xd (fs.zip vs).reverse) hd
  exact q _ _ _ l2 s2 σ (er.later l2) _ _ ⟨C, R, rfl, .inr ⟨zip_len_ne hl hne, d, _, rfl, upd_same, pair_rev (zip_pair (l2.rps rs))⟩⟩
theorem ds_raiseF {e : Expr} {es : List Expr} (tk : Takes X W) (R : InitX X.prog X.w X.K X.mg X.base k n fs C fI fd) (hr : Room j X.A) (ha : PA X (e :: es) (tA X.K X.mg W rk)) (hk : k + 1 ≤ j := by decide) (hc : X.calm = true := by rfl) (hg : Gl X n := by rfl) (hdb : (n == ("__debug__" : Str)) = false := by decide)
    (hz : fs.length ≤ 1000 := by decide) (he : starEach (e :: es) X.env = (false, eval e X.env) :: starEach es X.env := by rfl) (hpl : (backTo pos (starEach es X.env)).any (·.1) = false := by rfl) :
    PS X (.Raise (some (.Call (.Name n p) (e :: es) [] pos)) none pos2) (tSX X W (raiseFS n fs rk)) := by
  refine (ps_raise hc tk (pmk_oex (dvs := []) (ds := []) R.oex R.ini R.ty R.ok (hr.mono hk) R.bd .nil passes0 hg R.gC ha hdb he hpl)).imp fun D σ H h => ?_
  obtain ⟨env, F, ci, S, sr, er, h⟩ := h
  refine ⟨env, F, ci, S, sr, er, ?_⟩
  unfold raiseFS at h
  cases hq : rk env S with
  | exc x S1 => rw [hq] at h; exact h.elim
  | stuck => rw [hq] at h; exact h.elim
  | ok ds S1 =>
    rw [hq] at h
    dsimp only at h
    split at h
    · rename_i hl
      intro F1 c1 H1 l1 s1 vs rs
      refine ⟨by rw [← rs.length, hl]; exact hz, fun a na => ?_⟩
      rw [List.append_nil]
      exact raiseF_in R.gC R.ne s1 (er.later l1) rs hl (Out.later h l1) na
    · exact h.elim
theorem ds_raiseFK {kws : List Keyword} {ks : List Str} {pq : List Nat} (tk : Takes X W) (R : InitX X.prog X.w X.K X.mg X.base k n fs C fI fd) (hb : KwB X.K fd ("self" :: fs) ks 1 (0 :: pq.map (· + 1))) (hr : Room j X.A) (hkw : PK X kws (tA X.K X.mg W rk)) (hrl : ∀ env S ds S', rk env S = .ok ds S' → ds.length = ks.length)
    (hk : k + 1 ≤ j := by decide) (hc : X.calm = true := by rfl) (hg : Gl X n := by rfl) (hdb : (n == ("__debug__" : Str)) = false := by decide)
    (hall : (backToKw pos (keywordEach kws X.env)).all (·.1.isSome) = true := by rfl) (hks : (backToKw pos (keywordEach kws X.env)).filterMap (·.1) = ks := by rfl) (hpl : ((backTo pos (starEach [] X.env)).any (·.1) || (backToKw pos (keywordEach kws X.env)).any (·.1.isNone)) = false := by rfl) :
    PS X (.Raise (some (.Call (.Name n p) [] kws pos)) none pos2) (tSX X W (raiseFS n fs (permA pq rk))) := by
  refine (ps_raise hc tk (pmk_oexK R.oex R.ini R.ty R.ok (hr.mono hk) hb hg R.gC hkw hall hks hdb hpl)).imp fun D σ H h => ?_
  obtain ⟨env, F, ci, S, sr, er, h⟩ := h
  refine ⟨env, F, ci, S, sr, er, ?_⟩
  unfold raiseFS permA at h
  cases hq : rk env S with
  | exc x S1 => rw [hq] at h; exact h.elim
  | stuck => rw [hq] at h; exact h.elim
  | ok ds S1 =>
    rw [hq] at h
    simp only [Res.bind] at h
    split at h
    · rename_i hl
      intro F1 c1 H1 l1 s1 vs rs
      refine ⟨by rw [← rs.length]; exact hrl _ _ _ _ hq, fun a na => ?_⟩
      rw [permG_self]
      exact raiseF_in R.gC R.ne s1 (er.later l1) (permG_rps .nil rs pq) hl (Out.later h l1) na
    · exact h.elim
end

/-! ### the __init__ itself -/
/-- L.__init__(self, ..), L an own class above: nothing of it is told -/
theorem pe_linit {X : Cx} {L : Addr} {e : Expr} {es : List Expr} {ta : TA} {p1 p2 pos : Pos} {x : Str} {mc : Value} {pl : Sem Bool} (hg : Gl X x) (gL : X.mg x = some (.ref L)) (hsp : PySem.W.specialIn X.K (.ref L) "__getattribute__" = some (some (.builtin "type.__getattribute__"))) (hrd : PySem.W.readsIn X.K L mc = true)
    (hf : PySem.W.findCls X.K (.ref L) mc "__init__" = some (.val (.builtin "ValueError.__init__"))) (ha : PA X (e :: es) ta) (hdb : (x == ("__debug__" : Str)) = false := by decide)
    (hc : eval (.Call (.Attribute (.Name x p1) "__init__" p2) (e :: es) [] pos) X.env = (do
      let ov ← eval (.Name x p1) X.env
      standAt p2.atName
      let (f, first) ← holding [ov] (getMethod ov "__init__" pl)
      callWith pos f first (backTo pos (starEach (e :: es) X.env)) (backToKw pos (keywordEach [] X.env))) := by rfl)
    (he : starEach (e :: es) X.env = (false, eval e X.env) :: starEach es X.env := by rfl) (hpl : (backTo pos (starEach es X.env)).any (·.1) = false := by rfl) :
    PE X (.Call (.Attribute (.Name x p1) "__init__" p2) (e :: es) [] pos) (tVeI X.K ta) := by
  refine ⟨fun pins s σ H Q I h => PySem.W.methodCall_KW (ld_glob I hg gL ?_ hdb) hc⟩
  refine PySem.W.method_cls I.kIn hsp (PySem.W.cls_value I.kIn hrd hf (by decide +kernel) ?_)
  show wpAny _ _ (callWith pos (Value.builtin "ValueError.__init__") [] (backTo pos (starEach (e :: es) X.env)) []) _ _ _
  refine PyProof.Rows.callWith_method1 (thn (ha.run pos pins _ σ H _ (I.tok _) h) fun us s1 ⟨vs, H1, I1, r1, a, C, ws, ev, hl, T, ea, q⟩ => ?_) he hpl
  subst ev
  cases r1 with
  | @cons _ u0 _ ur ra rw' =>
    obtain rfl : u0 = Value.ref a := ra
    exact oinit_ok T I1 ea (by rw [← Paired.length rw', sizeLine_eq]; omega) fun s' J => ⟨.non, H1, J, rfl, q⟩
/-- what the class above must say -/
structure LimC (K : PySem.W.Frag) (mg : Str → Option Value) (x : Str) : Prop where
  ex : ∃ L mc, mg x = some (.ref L) ∧ PySem.W.specialIn K (.ref L) "__getattribute__" = some (some (.builtin "type.__getattribute__")) ∧ PySem.W.readsIn K L mc = true ∧ PySem.W.findCls K (.ref L) mc "__init__" = some (.val (.builtin "ValueError.__init__"))
section
variable {P : Program} {w : World} {K : PySem.W.Frag} {mg : Str → Option Value} {base : Heap} {C fI : Addr} {fd : FuncData} {x f g : Str} {N : List Str} {qual l m : Str} {params : Arguments} {scope : Scope} {dvs : List V} {kws : List (Str × V)} {p1 p2 p3 p4 p5 p6 q1 q2 q3 q4 r1 r2 r3 r4 : Pos} {jj : Nat}
theorem hp_two {H : Hp} {a C d : Addr} {fs gs : List (Str × V)} (hda : d ≠ a) : upd (upd (upd H d (exd d fs)) a (exo a C (some d))) d (exd d gs) = upd (upd H d (exd d gs)) a (exo a C (some d)) := by
  funext b
  by_cases h1 : b = d
  · subst h1; rw [upd_same, upd_ne hda, upd_same]
  · rw [upd_ne h1]
    by_cases h2 : b = a
    · subst h2; rw [upd_same, upd_same]
    · rw [upd_ne h2, upd_ne h2, upd_ne h1, upd_ne h1]
theorem init_ok1 (F : FunD K "__init__" qual params [.Expr (.Call (.Attribute (.Name "LimitError" p1) "__init__" p2) [.Name "self" p3, .Constant (.str m) jj p4] [] p5) p6, .Assign [.Attribute (.Name "self" q1) f q2] (.Name f q3) q4] scope dvs kws fI fd)
    (S : FnScope ["self", f] ["self", f] scope) (L : LimC K mg "LimitError") (T : OexC K C) (hf : PySem.W.findIn K (.ref C) f = some none) (hgl : ∀ cdv A outer s H E, Gl (cxOf (L2.CX P w) P w K mg base ["self", f] qual scope fI cdv A outer s H E) "LimitError")
    (hev : ∀ cdv A outer s H E, ∃ pl, eval (.Call (.Attribute (.Name "LimitError" p1) "__init__" p2) [.Name "self" p3, .Constant (.str m) jj p4] [] p5) (cxOf (L2.CX P w) P w K mg base ["self", f] qual scope fI cdv A outer s H E).env = (do
      let ov ← eval (.Name "LimitError" p1) (cxOf (L2.CX P w) P w K mg base ["self", f] qual scope fI cdv A outer s H E).env
      standAt p2.atName
      let (z1, z2) ← holding [ov] (getMethod ov "__init__" pl)
      callWith p5 z1 z2 (backTo p5 (starEach [.Name "self" p3, .Constant (.str m) jj p4] (cxOf (L2.CX P w) P w K mg base ["self", f] qual scope fI cdv A outer s H E).env)) (backToKw p5 (keywordEach [] (cxOf (L2.CX P w) P w K mg base ["self", f] qual scope fI cdv A outer s H E).env)))) (hvs : Vis scope "self") (hvf : Vis scope f)
    (hd : (f == ("__debug__" : Str)) = false) (hcd : (f == ("__classdict__" : Str)) = false) :
    FnOk P w K mg base (L2.CX P w) 1 fI fd ["self", f] (spI C [f]) := by
  refine F.ok S (fun vs H Q E h => ?_) fun cdv A outer s H vs Q E hr h => ?_
  · obtain ⟨a, ws, rfl, h1, _⟩ := h
    simpa using h1
  · obtain ⟨a, ws, rfl, h1, h2, h3⟩ := h
    obtain ⟨L0, mc, gL, e1, e2, e3⟩ := L.ex
    obtain ⟨y, rfl⟩ : ∃ y, ws = [y] := by
      match ws, h1 with
      | [y], _ => exact ⟨y, rfl⟩
    obtain ⟨pl, hc⟩ := hev cdv A outer s H E
    refine ⟨_, pss_cons (ps_expr (pe_linit (hc := hc) (hgl cdv A outer s H E) gL e1 e2 e3 (pa_cons (pe_var (i := 0) rfl hvs) (pa_cons pe_str pa_nil)))) (pss_cons (ps_ost (pe_var (i := 0) rfl hvs) (pe_var (i := 1) rfl hvf hd hcd)) pss_nil), ?_⟩
    exact ⟨_, rfl, a, C, [.str m], rfl, by simp, T, h2, ⟨y, rfl, _, rfl, a, C, rfl, T, hf, .inl ⟨h2, fun dx n ne => h3 dx n ne⟩⟩⟩
theorem init_ok2 (F : FunD K "__init__" qual params [.Expr (.Call (.Attribute (.Name "LimitError" p1) "__init__" p2) [.Name "self" p3, .Constant (.str m) jj p4] [] p5) p6, .Assign [.Attribute (.Name "self" q1) f q2] (.Name f q3) q4, .Assign [.Attribute (.Name "self" r1) g r2] (.Name g r3) r4] scope dvs kws fI fd)
    (S : FnScope ["self", f, g] ["self", f, g] scope) (L : LimC K mg "LimitError") (T : OexC K C) (hf : PySem.W.findIn K (.ref C) f = some none) (hf2 : PySem.W.findIn K (.ref C) g = some none) (hgl : ∀ cdv A outer s H E, Gl (cxOf (L2.CX P w) P w K mg base ["self", f, g] qual scope fI cdv A outer s H E) "LimitError")
    (hev : ∀ cdv A outer s H E, ∃ pl, eval (.Call (.Attribute (.Name "LimitError" p1) "__init__" p2) [.Name "self" p3, .Constant (.str m) jj p4] [] p5) (cxOf (L2.CX P w) P w K mg base ["self", f, g] qual scope fI cdv A outer s H E).env = (do
      let ov ← eval (.Name "LimitError" p1) (cxOf (L2.CX P w) P w K mg base ["self", f, g] qual scope fI cdv A outer s H E).env
      standAt p2.atName
      let (z1, z2) ← holding [ov] (getMethod ov "__init__" pl)
      callWith p5 z1 z2 (backTo p5 (starEach [.Name "self" p3, .Constant (.str m) jj p4] (cxOf (L2.CX P w) P w K mg base ["self", f, g] qual scope fI cdv A outer s H E).env)) (backToKw p5 (keywordEach [] (cxOf (L2.CX P w) P w K mg base ["self", f, g] qual scope fI cdv A outer s H E).env)))) (hvs : Vis scope "self") (hvf : Vis scope f) (hvg : Vis scope g)
    (hd : (f == ("__debug__" : Str)) = false) (hcd : (f == ("__classdict__" : Str)) = false) (hd2 : (g == ("__debug__" : Str)) = false) (hcd2 : (g == ("__classdict__" : Str)) = false) :
    FnOk P w K mg base (L2.CX P w) 1 fI fd ["self", f, g] (spI C [f, g]) := by
  refine F.ok S (fun vs H Q E h => ?_) fun cdv A outer s H vs Q E hr h => ?_
  · obtain ⟨a, ws, rfl, h1, _⟩ := h
    simpa using h1
  · obtain ⟨a, ws, rfl, h1, h2, h3⟩ := h
    obtain ⟨L0, mc, gL, e1, e2, e3⟩ := L.ex
    obtain ⟨y, z, rfl⟩ : ∃ y z, ws = [y, z] := by
      match ws, h1 with
      | [y, z], _ => exact ⟨y, z, rfl⟩
    obtain ⟨pl, hc⟩ := hev cdv A outer s H E
    refine ⟨_, pss_cons (ps_expr (pe_linit (hc := hc) (hgl cdv A outer s H E) gL e1 e2 e3 (pa_cons (pe_var (i := 0) rfl hvs) (pa_cons pe_str pa_nil)))) (pss_cons (ps_ost (pe_var (i := 0) rfl hvs) (pe_var (i := 1) rfl hvf hd hcd)) (pss_cons (ps_ost (pe_var (i := 0) rfl hvs) (pe_var (i := 2) rfl hvg hd2 hcd2)) pss_nil)), ?_⟩
    refine ⟨_, rfl, a, C, [.str m], rfl, by simp, T, h2, ⟨y, rfl, _, rfl, a, C, rfl, T, hf, .inl ⟨h2, fun dx n ne => ?_⟩⟩⟩
    refine ⟨z, rfl, _, rfl, a, C, rfl, T, hf2, .inr ⟨dx, [(f, y)], upd_same, by rw [upd_ne ne, upd_same], by simp, ?_⟩⟩
    rw [hp_two ne]
    exact h3 dx n ne
end
end LH

/-! LXH: the head's facts of exception classes with fields; what may be made of them. -/
namespace LH
open PySem PySem.Spec PyProof.Rows L2
section
variable {K : PySem.W.Frag} {h : Heap} {mg : Str → Option Value}
theorem xbase_ok {n : Str} (X : K.In h) (G : h.Ns mainGlobals mg) (c : xbase K n = true) : mg n = some (.ref (He.ga K n)) ∧ ExcC K (He.ga K n) ∧ XfC K (He.ga K n) ∧ PySem.W.kitOne K (.ref (He.ga K n)) (.type "ValueError") = some true ∧ PySem.W.typeIn K (.ref (He.ga K n)) = some (.type "type") ∧ PySem.W.keepIn K (.ref (He.ga K n)) = true := by
  unfold xbase at c
  simp only [Bool.and_eq_true, decide_eq_true_iff] at c
  obtain ⟨c0, c1, c2, c3, c4, c5, c6, c7, c8, c9, c10, c11⟩ := c
  exact ⟨He.glo_ok X G c0, ⟨c1, c2, c9, c3, c4, c5, c6, c7⟩, ⟨c1, c2, c9, c3⟩, c8, c10, c11⟩
theorem xt_ok {NS MS CL FL : List Str} (X : K.In h) (G : h.Ns mainGlobals mg) (c : xtB K NS MS CL FL = true) : ExT K mg NS MS CL FL := by
  unfold xtB at c
  simp only [Bool.and_eq_true, List.all_eq_true, decide_eq_true_iff] at c
  obtain ⟨c1, c2, c3⟩ := c
  have inj : ∀ {n : Str} {C : Addr}, mg n = some (.ref (He.ga K n)) → mg n = some (.ref C) → C = He.ga K n := fun h1 h2 => by
    rw [h1] at h2
    injection h2 with h2
    injection h2 with h2
    exact h2.symm
  have gl : ∀ n ∈ NS, mg n = some (.ref (He.ga K n)) := fun n hn => (xbase_ok X G (c1 n hn).1).1
  have gc : ∀ n ∈ CL, mg n = some (.ref (He.ga K n)) := fun n hn => He.glo_ok X G (c2 n hn)
  have gm : ∀ n ∈ MS, mg n = some (.ref (He.ga K n)) := fun n hn => He.glo_ok X G (c3 n hn)
  refine ⟨fun cl hc => ⟨_, gc cl hc⟩, fun n hn cl hc C D h1 h2 => ?_, fun n hn C h1 => ?_, fun m hm => ⟨_, gm m hm⟩, fun n hn m hm C D h1 h2 => ?_, fun n hn C h1 => ?_, fun n hn C h1 => ?_⟩
  · rw [inj (gl n hn) h1, inj (gc cl hc) h2]; exact (c1 n hn).2.1 cl hc
  · rw [inj (gl n hn) h1]; exact (xbase_ok X G (c1 n hn).1).2.1
  · rw [inj (gl n hn) h1, inj (gm m hm) h2]; exact (c1 n hn).2.2.1 m hm
  · rw [inj (gl n hn) h1]; exact (xbase_ok X G (c1 n hn).1).2.2.2.1
  · rw [inj (gl n hn) h1]; exact ⟨(xbase_ok X G (c1 n hn).1).2.2.1, (c1 n hn).2.2.2⟩
theorem xr_ok {RS : List Str} (X : K.In h) (G : h.Ns mainGlobals mg) (c : xrB K RS = true) : ∀ n ∈ RS, RaiseF K mg n := fun n hn => by
  unfold xrB at c
  simp only [Bool.and_eq_true, List.all_eq_true] at c
  obtain ⟨c0, c1⟩ := c n hn
  obtain ⟨e1, e2, e3, e4⟩ := He.exc_ok c1
  exact ⟨_, He.glo_ok X G c0, e1, e2, e3, e4⟩
theorem oexB_ok {C : Addr} (q : oexB K C = true) : ∃ nm qn N bs bm sn sub ab col dd k0 k1 k2 k3 k5, K.lookup C = some (excClassObj nm qn C N bs bm true sn sub ab col dd k0 k1 k2 k3 k5 "ValueError.__new__") ∧ PySem.HandSPX.refsVE bm = true := by
  unfold oexB at q
  split at q
  · rename_i dd cd sl ho
    split at q
    · rename_i C' bm k0 k1 k2 k3 n k5 hm hs
      simp only [Bool.and_eq_true, beq_iff_eq, Bool.not_eq_true'] at q
      obtain ⟨rfl, rfl, hdel, hdi, hr⟩ := q
      obtain ⟨nm, bs, mro, ns, qn, hd, sn, sub, ab, col, del⟩ := cd
      dsimp only at hm hdel hdi
      subst hm hdel hdi
      have hsl : sl = #[k0, k1, k2, k3, some (.builtin "ValueError.__new__"), k5] := by
        obtain ⟨l⟩ := sl
        simp only at hs
        rw [hs]
      subst hsl
      exact ⟨nm, qn, ns, bs, bm, sn, sub, ab, col, dd, k0, k1, k2, k3, k5, ho, hr⟩
    · cases q
  · cases q
theorem xcl_ok {n : Str} {fs : List Str} (X : K.In h) (G : h.Ns mainGlobals mg) (c : xclB K n fs = true) : mg n = some (.ref (He.ga K n)) ∧ OexC K (He.ga K n) ∧ PySem.W.findIn K (.ref (He.ga K n)) "__init__" = some (some (.ref (He.ma K (He.ga K n) "__init__"))) ∧
    PySem.W.typeIn K (.ref (He.ma K (He.ga K n) "__init__")) = some (.type "function") ∧ ∀ f ∈ fs, PySem.W.findIn K (.ref (He.ga K n)) f = some none := by
  unfold xclB at c
  simp only [Bool.and_eq_true, List.all_eq_true, decide_eq_true_iff] at c
  obtain ⟨c0, c1, c2, c3, c4, c5⟩ := c
  obtain ⟨b0, b1, b2, b3, b4, b5⟩ := xbase_ok X G c0
  exact ⟨b0, ⟨oexB_ok c1, c2, b1.hs, b4, b5⟩, c3, c4, c5⟩
theorem lim_ok {x : Str} (X : K.In h) (G : h.Ns mainGlobals mg) (c : limB K x = true) : LimC K mg x := by
  unfold limB at c
  simp only [Bool.and_eq_true, decide_eq_true_iff] at c
  obtain ⟨c0, c1, c2, c3⟩ := c
  refine ⟨_, _, He.glo_ok X G c0, c1, c2, ?_⟩
  split at c3
  · rename_i b hb
    rw [hb, beq_iff_eq.mp c3]
  · cases c3
end
structure CalleeE (P : Program) (w : World) (K : PySem.W.Frag) (mg : Str → Option Value) (base : Heap) (n : Str) (fs : List Str) : Prop where
  ex : ∃ C fI fd, InitX P w K mg base 1 n fs C fI fd
structure CalleeEK (P : Program) (w : World) (K : PySem.W.Frag) (mg : Str → Option Value) (base : Heap) (n : Str) (fs ks : List Str) (pq : List Nat) : Prop where
  ex : ∃ C fI fd, InitX P w K mg base 1 n fs C fI fd ∧ KwB K fd ("self" :: fs) ks 1 (0 :: pq.map (· + 1))
section
variable {X : Cx} {W : WX} {j : Nat} {n : Str} {fs ks : List Str} {pq : List Nat} {p pos pos2 : Pos} {rk : ArgsD}
theorem ds_raiseE {e : Expr} {es : List Expr} (tk : Takes X W) (R : CalleeE X.prog X.w X.K X.mg X.base n fs) (hr : Room j X.A) (ha : PA X (e :: es) (tA X.K X.mg W rk)) (hk : 2 ≤ j := by decide) (hc : X.calm = true := by rfl) (hg : Gl X n := by rfl) (hdb : (n == ("__debug__" : Str)) = false := by decide)
    (hz : fs.length ≤ 1000 := by decide) (he : starEach (e :: es) X.env = (false, eval e X.env) :: starEach es X.env := by rfl) (hpl : (backTo pos (starEach es X.env)).any (·.1) = false := by rfl) :
    PS X (.Raise (some (.Call (.Name n p) (e :: es) [] pos)) none pos2) (tSX X W (raiseFS n fs rk)) := by
  obtain ⟨C, fI, fd, I⟩ := R.ex
  exact ds_raiseF tk I hr ha hk hc hg hdb hz he hpl
theorem ds_raiseEK {kws : List Keyword} (tk : Takes X W) (R : CalleeEK X.prog X.w X.K X.mg X.base n fs ks pq) (hr : Room j X.A) (hkw : PK X kws (tA X.K X.mg W rk)) (hrl : ∀ env S ds S', rk env S = .ok ds S' → ds.length = ks.length)
    (hk : 2 ≤ j := by decide) (hc : X.calm = true := by rfl) (hg : Gl X n := by rfl) (hdb : (n == ("__debug__" : Str)) = false := by decide)
    (hall : (backToKw pos (keywordEach kws X.env)).all (·.1.isSome) = true := by rfl) (hks : (backToKw pos (keywordEach kws X.env)).filterMap (·.1) = ks := by rfl) (hpl : ((backTo pos (starEach [] X.env)).any (·.1) || (backToKw pos (keywordEach kws X.env)).any (·.1.isNone)) = false := by rfl) :
    PS X (.Raise (some (.Call (.Name n p) [] kws pos)) none pos2) (tSX X W (raiseFS n fs (permA pq rk))) := by
  obtain ⟨C, fI, fd, I, hb⟩ := R.ex
  exact ds_raiseFK tk I hb hr hkw hrl hk hc hg hdb hall hks hpl
theorem roomH_units {k : Nat} {A : Around} (r : L2H.RoomH k A) : A.units + 64 < cLine := by have := r.un; omega
theorem roomH_suite {k : Nat} {a : Addr} {pn : List (Addr × Obj)} (r : Room k X.A) : L2H.RoomH k (X.suite a pn).A := ⟨r.dp, r.un⟩
end
end LH

/-! LCT: l.count(b) of a list of bools; the least of a list of pairs of an int and a pair of ints. -/
namespace L2
open PySem PySem.Spec PyProof.Rows
theorem valsB : ∀ {bs : List Bool} {us : List Value}, Vals (bs.map V.bl) us → us = bs.map Value.bool
  | [], _, .nil => rfl
  | b :: bs, _, .cons r rs => by
    cases r
    rw [valsB rs]
    rfl
def rCountB (K : PySem.W.Frag) : V → List V → Hp → VK → Prop := fun x vs H Q => ∃ (a : Addr) (bs : List Bool) (k : Bool), x = .ref a ∧ vs = [.bl k] ∧ SqL K H a (bs.map V.bl) ∧ Q (.int ((bs.countP fun b => b == k : Nat) : Int)) H
theorem mt_countB {X : Cx} : MtR X "list.count" (rCountB X.K) := by
  intro pins s σ H x vs v us Q I rx rv h
  obtain ⟨a, bs, k, rfl, rfl, hs, q⟩ := h
  cases rx
  obtain ⟨u, rfl, ru⟩ := rv.one
  cases ru
  obtain ⟨its, r, hl, z⟩ := I.list hs
  have he := valsB r
  subst he
  obtain ⟨⟨cls, dd, data, sl⟩, n, ho, hc, _, hd⟩ := hl
  simp only at hc hd
  subst hc hd
  refine call_meets PySem.F.slot_list_count ⟨_, ho, rfl⟩ PySem.F.entry_list_count (PySem.F.args_list_count_2 _ _) (SeqAt.list_countAt a (bs.map Value.bool).toArray n dd sl (.bool k) (isBoolOf k)) ⟨ho, fun y hy => ?_, ?_⟩
  · have hy : y ∈ bs.map Value.bool := by simpa using hy
    obtain ⟨b, _, rfl⟩ := List.mem_map.mp hy
    exact SeqAt.EqAt.bool_bool b k
  · have e : (bs.map Value.bool).toArray.toList.countP (isBoolOf k) = bs.countP fun b => b == k := by
      show (bs.map Value.bool).countP (isBoolOf k) = _
      rw [List.countP_map]
      rfl
    rw [e]
    exact ⟨.int _, H, I.tok _, ⟨_, rfl⟩, q⟩
end L2
namespace LH
open PySem PySem.Spec PyProof.Rows L2
def countV (x y : PV) (S : Sto) : Res PV := match lstOf S x, y with
  | some ds, .bl k => match asBools ds with
    | some bs => .ok (.int ((bs.countP fun b => b == k : Nat) : Int)) S
    | none => .stuck
  | _, _ => .stuck
def countE (fo f : ExprD) : ExprD := fun env S => (fo env S).bind fun d S1 => match lstOf S1 d with
  | some _ => (f env S1).bind fun y S2 => countV d y S2
  | none => .stuck
section
variable {X : Cx} {W : WX} {o e : Expr} {fo f : ExprD} {apos pos : Pos}
theorem de_count (ho : PE X o (tE X.K X.mg W fo)) (he : PE X e (tE X.K X.mg W f)) (hbase : attributeBase o "count" X.env (eval o X.env) = eval o X.env := by rfl)
    (hfew : ((backTo pos (starEach (e :: []) X.env)).all (fun x => !x.1) && (backToKw pos (keywordEach [] X.env)).all (fun x => x.1.isSome)
      && decide ((e :: []).length + ([] : List Keyword).length + (if ([] : List Keyword).isEmpty then 0 else 1) < 30)) = true := by rfl)
    (hline : (apos.endLine == pos.line) = true := by rfl) (hs : starEach (e :: []) X.env = (false, eval e X.env) :: starEach [] X.env := by rfl) (hplain : (backTo pos (starEach [] X.env)).any (·.1) = false := by rfl) :
    PE X (.Call (.Attribute o "count" apos) [e] [] pos) (tE X.K X.mg W (countE fo f)) := (pe_bm PySem.F.plainAttrs_list PySem.F.slot_list_count PySem.F.type_list_count mt_countB ho (pa_cons he pa_nil hs) hbase hfew hline hs hplain).imp fun σ H Q h => by
  obtain ⟨env, F, ci, S, sr, er, h⟩ := h
  refine ⟨env, F, ci, S, sr, er, (Out.bind h).imp fun dx F1 c1 S1 H1 l1 s1 h1 v1 r1 => ?_⟩
  split at h1
  · rename_i xs hx
    obtain ⟨a, vs, rfl, hs, rs, z⟩ := lst_rd s1 r1 hx
    refine ⟨.inl ⟨rfl, vs, hs⟩, env, F1, c1, S1, s1, er.later l1, (Out.bind h1).imp fun y F2 c2 S2 H2 l2 s2 h2 v2 r2 => ?_⟩
    unfold countV at h2
    split at h2
    · rename_i ds k hd
      split at h2
      · rename_i bs hb
        obtain ⟨a2, ws, e2, hs2, rs2, z2⟩ := lst_rd s2 (l2.rp r1) hd
        cases e2
        have hw := vals_bools hb rs2
        subst hw
        cases r2
        exact ⟨_, bs, k, rfl, rfl, hs2, h2.here s2 _ (.int _)⟩
      · exact h2.elim
    · exact h2.elim
  · exact h1.elim
end
def as3 : List PV → Option (List (Int × (Int × Int)))
  | [] => some []
  | .tup [.int n, .tup [.int t, .int c]] :: r => (as3 r).map ((n, (t, c)) :: ·)
  | _ :: _ => none
def en3 (x : Int × (Int × Int)) : PV := .tup [.int x.1, .tup [.int x.2.1, .int x.2.2]]
def min3 (x : Int × (Int × Int)) (l : List (Int × (Int × Int))) : Int × (Int × Int) := PySem.W.minOf x l
def minTB : List PV → Sto → Res PV := fun xs S => match xs with
  | [d] => match lstOf S d with
    | some ds => match as3 ds with
      | some (x :: l) => .ok (en3 (min3 x l)) S
      | _ => .stuck
    | none => .stuck
  | _ => .stuck
section
variable {X : Cx} {E : XK}
end
end LH

namespace LW
open PySem PySem.Spec PyProof.Rows L2 LH
abbrev FnP (K : PySem.W.Frag) (x : Str) (st : Stmt) (f : Addr) (fd : FuncData) : Prop := FunD K x x (defArgs st) (defBody st) (defScope st) [] [] f fd
abbrev FnQ (K : PySem.W.Frag) (x qual : Str) (st : Stmt) (f : Addr) (fd : FuncData) : Prop := FunD K x qual (defArgs st) (defBody st) (defScope st) [] [] f fd
/-! what they compute -/
-- _law_raised_more_T: 0=_law_way
noncomputable def d__law_raised_more_T : FnDen := fnD 1 1 (seqS (ifS (tstE (binE eqV (vE 0) (cE (.int 14)))) (raiseS "InvalidText") (skipS)) (seqS (ifS (tstE (binE eqV (vE 0) (cE (.int 15)))) (raiseS "InvalidTicks") (skipS)) (seqS (ifS (tstE (binE eqV (vE 0) (cE (.int 16)))) (raiseS "InvalidTime") (skipS)) (seqS (ifS (tstE (binE eqV (vE 0) (cE (.int 17)))) (raiseS "InvalidTries") (skipS)) (seqS (ifS (tstE (binE eqV (vE 0) (cE (.int 18)))) (raiseS "NoRule") (skipS)) (seqS (ifS (tstE (binE eqV (vE 0) (cE (.int 19)))) (raiseFS "NotFitting" ["index"] (consA (cE (.int 2)) (nilA))) (skipS)) (seqS (ifS (tstE (binE eqV (vE 0) (cE (.int 20)))) (raiseS "NotHeard") (skipS)) (seqS (ifS (tstE (binE eqV (vE 0) (cE (.int 21)))) (raiseS "NothingToUndo") (skipS)) (seqS (ifS (tstE (binE eqV (vE 0) (cE (.int 22)))) (raiseFS "Open" ["one", "other"] (consA (tupE (consA (cE (.str "gap")) (consA (cE (.int 1)) (nilA)))) (consA (tupE (consA (cE (.str "gap")) (consA (cE (.int 2)) (nilA)))) (nilA)))) (skipS)) (seqS (ifS (tstE (binE eqV (vE 0) (cE (.int 23)))) (raiseS "OtherKind") (skipS)) (seqS (ifS (tstE (binE eqV (vE 0) (cE (.int 24)))) (raiseS "TooEarly") (skipS)) (ifS (tstE (binE eqV (vE 0) (cE (.int 25)))) (raiseS "TooMany") (skipS)))))))))))))
-- _law_raised_one_T: 0=_law_way
noncomputable def d__law_raised_one_T : FnDen := fnD 1 1 (seqS (ifS (tstE (binE eqV (vE 0) (cE (.int 0)))) (raiseS "InvalidCost") (skipS)) (seqS (ifS (tstE (binE eqV (vE 0) (cE (.int 1)))) (raiseS "InvalidEntry") (skipS)) (seqS (ifS (tstE (binE eqV (vE 0) (cE (.int 2)))) (raiseS "InvalidFraction") (skipS)) (seqS (ifS (tstE (binE eqV (vE 0) (cE (.int 3)))) (raiseS "InvalidIndex") (skipS)) (seqS (ifS (tstE (binE eqV (vE 0) (cE (.int 4)))) (raiseS "InvalidKind") (skipS)) (seqS (ifS (tstE (binE eqV (vE 0) (cE (.int 5)))) (raiseS "InvalidKinds") (skipS)) (seqS (ifS (tstE (binE eqV (vE 0) (cE (.int 6)))) (raiseS "InvalidLog") (skipS)) (seqS (ifS (tstE (binE eqV (vE 0) (cE (.int 7)))) (raiseS "InvalidLogs") (skipS)) (seqS (ifS (tstE (binE eqV (vE 0) (cE (.int 8)))) (raiseS "InvalidNumber") (skipS)) (seqS (ifS (tstE (binE eqV (vE 0) (cE (.int 9)))) (raiseS "InvalidPassed") (skipS)) (seqS (ifS (tstE (binE eqV (vE 0) (cE (.int 10)))) (raiseS "InvalidRequest") (skipS)) (seqS (ifS (tstE (binE eqV (vE 0) (cE (.int 11)))) (raiseS "InvalidRow") (skipS)) (seqS (ifS (tstE (binE eqV (vE 0) (cE (.int 12)))) (raiseS "InvalidRule") (skipS)) (seqS (ifS (tstE (binE eqV (vE 0) (cE (.int 13)))) (raiseS "InvalidRules") (skipS)) (exprS (callE d__law_raised_more_T (consA (vE 0) (nilA))))))))))))))))))
-- _law_marks_X: 0=_law_e 1=_law_marks_here
noncomputable def d__law_marks_X : FnX := exitX (fnX 2 (fun xx a dd => seqS (asgS (.nm 1) (listE (consA (isxP 0 (exP a dd xx) (tabE xx.name "InvalidCost")) (consA (isxP 0 (exP a dd xx) (tabE xx.name "InvalidEntry")) (consA (isxP 0 (exP a dd xx) (tabE xx.name "InvalidFraction")) (nilA)))))) (seqS (asgS (.nm 1) (binE addV (vE 1) (listE (consA (isxP 0 (exP a dd xx) (tabE xx.name "InvalidIndex")) (consA (isxP 0 (exP a dd xx) (tabE xx.name "InvalidKind")) (consA (isxP 0 (exP a dd xx) (tabE xx.name "InvalidKinds")) (nilA))))))) (seqS (asgS (.nm 1) (binE addV (vE 1) (listE (consA (isxP 0 (exP a dd xx) (tabE xx.name "InvalidLog")) (consA (isxP 0 (exP a dd xx) (tabE xx.name "InvalidLogs")) (consA (isxP 0 (exP a dd xx) (tabE xx.name "InvalidNumber")) (nilA))))))) (seqS (asgS (.nm 1) (binE addV (vE 1) (listE (consA (isxP 0 (exP a dd xx) (tabE xx.name "InvalidPassed")) (consA (isxP 0 (exP a dd xx) (tabE xx.name "InvalidRequest")) (consA (isxP 0 (exP a dd xx) (tabE xx.name "InvalidRow")) (nilA))))))) (seqS (asgS (.nm 1) (binE addV (vE 1) (listE (consA (isxP 0 (exP a dd xx) (tabE xx.name "InvalidRule")) (consA (isxP 0 (exP a dd xx) (tabE xx.name "InvalidRules")) (consA (isxP 0 (exP a dd xx) (tabE xx.name "InvalidText")) (nilA))))))) (seqS (asgS (.nm 1) (binE addV (vE 1) (listE (consA (isxP 0 (exP a dd xx) (tabE xx.name "InvalidTicks")) (consA (isxP 0 (exP a dd xx) (tabE xx.name "InvalidTime")) (consA (isxP 0 (exP a dd xx) (tabE xx.name "InvalidTries")) (nilA))))))) (seqS (asgS (.nm 1) (binE addV (vE 1) (listE (consA (isxP 0 (exP a dd xx) (tabE xx.name "NoRule")) (consA (isxP 0 (exP a dd xx) (tabE xx.name "NotFitting")) (consA (isxP 0 (exP a dd xx) (tabE xx.name "NotHeard")) (nilA))))))) (seqS (asgS (.nm 1) (binE addV (vE 1) (listE (consA (isxP 0 (exP a dd xx) (tabE xx.name "NothingToUndo")) (consA (isxP 0 (exP a dd xx) (tabE xx.name "Open")) (consA (isxP 0 (exP a dd xx) (tabE xx.name "OtherKind")) (nilA))))))) (seqS (asgS (.nm 1) (binE addV (vE 1) (listE (consA (isxP 0 (exP a dd xx) (tabE xx.name "TooEarly")) (consA (isxP 0 (exP a dd xx) (tabE xx.name "TooMany")) (nilA)))))) (retS (vE 1))))))))))))
-- _law_way_right_T: 0=_law_way 1=_law_size 2=_law_marks_here 3=_law_base 4=_law_e
noncomputable def d__law_way_right_T : FnDen := fnD 2 5 (seqS (par2S 2 3 (consA (listE (nilA)) (consA (cE (.bl false)) (nilA)))) (seqS (trySy (exprS (callE d__law_raised_one_T (consA (vE 0) (nilA)))) NSX "LimitError" 4 (fun a dd xx => seqS (asgS (.nm 2) (callX 4 xx a dd d__law_marks_X)) (asgS (.nm 3) (isxP 4 (exP a dd xx) true)))) (retS (andE (vE 3) (andE (binE eqV (countE (vE 2) (cE (.bl true))) (cE (.int 1))) (andE (binE eqV (bE lenB (consA (vE 2) (nilA))) (vE 1)) (binE itemV (vE 2) (vE 0))))))))
-- is_integer_T: 0=value
noncomputable def d_is_integer_T : FnDen := fnD 1 1 (retS (andE (bE isinB (consA (vE 0) (consA (cE (.ty "int")) (nilA)))) (notE (bE isinB (consA (vE 0) (consA (cE (.ty "bool")) (nilA)))))))
-- is_at_least_T: 0=value 1=least
noncomputable def d_is_at_least_T : FnDen := fnD 2 2 (retS (andE (callE d_is_integer_T (consA (vE 0) (nilA))) (binE geV (vE 0) (vE 1))))
noncomputable def H_greatest_divisor_T_0 : TestD := tstE (binE neV (vE 1) (cE (.int 0)))
noncomputable def B_greatest_divisor_T_0 : StmtD := par2S 0 1 (consA (vE 1) (consA (binE modV (bE intB (consA (vE 0) (nilA))) (vE 1)) (nilA)))
-- greatest_divisor_T: 0=one 1=other
noncomputable def d_greatest_divisor_T : FnDen := fnD 2 2 (seqS (whileS H_greatest_divisor_T_0 B_greatest_divisor_T_0) (retS (vE 0)))
-- is_fraction_T: 0=value
noncomputable def d_is_fraction_T : FnDen := fnD 1 1 (seqS (ifS (orT (notT (tstE (bE isinB (consA (vE 0) (consA (cE (.ty "tuple")) (nilA)))))) (tstE (binE neV (bE lenB (consA (vE 0) (nilA))) (cE (.int 2))))) (retS (cE (.bl false))) (skipS)) (retS (andE (callE d_is_at_least_T (consA (binE itemV (vE 0) (cE (.int 0))) (consA (cE (.int 0)) (nilA)))) (andE (callE d_is_at_least_T (consA (binE itemV (vE 0) (cE (.int 1))) (consA (cE (.int 1)) (nilA)))) (binE eqV (callE d_greatest_divisor_T (consA (binE itemV (vE 0) (cE (.int 0))) (consA (binE itemV (vE 0) (cE (.int 1))) (nilA)))) (cE (.int 1)))))))
-- is_rule_T: 0=value
noncomputable def d_is_rule_T : FnDen := fnD 1 1 (seqS (ifS (orT (notT (tstE (bE isinB (consA (vE 0) (consA (cE (.ty "tuple")) (nilA)))))) (orT (tstE (binE eqV (vE 0) (tupE (nilA)))) (notT (tstE (bE isinB (consA (binE itemV (vE 0) (cE (.int 0))) (consA (cE (.ty "str")) (nilA)))))))) (retS (cE (.bl false))) (skipS)) (seqS (ifS (tstE (binE inV (binE itemV (vE 0) (cE (.int 0))) (cE (.tup ((["bucket", "meter"] : List Str).map PV.str))))) (retS (andE (binE eqV (bE lenB (consA (vE 0) (nilA))) (cE (.int 3))) (andE (callE d_is_fraction_T (consA (binE itemV (vE 0) (cE (.int 1))) (nilA))) (callE d_is_fraction_T (consA (binE itemV (vE 0) (cE (.int 2))) (nilA)))))) (skipS)) (seqS (ifS (tstE (binE inV (binE itemV (vE 0) (cE (.int 0))) (cE (.tup ((["window", "frame"] : List Str).map PV.str))))) (retS (andE (binE eqV (bE lenB (consA (vE 0) (nilA))) (cE (.int 3))) (andE (callE d_is_at_least_T (consA (binE itemV (vE 0) (cE (.int 1))) (consA (cE (.int 1)) (nilA)))) (callE d_is_at_least_T (consA (binE itemV (vE 0) (cE (.int 2))) (consA (cE (.int 0)) (nilA))))))) (skipS)) (retS (andE (binE eqV (binE itemV (vE 0) (cE (.int 0))) (cE (.str "gap"))) (andE (binE eqV (bE lenB (consA (vE 0) (nilA))) (cE (.int 2))) (callE d_is_at_least_T (consA (binE itemV (vE 0) (cE (.int 1))) (consA (cE (.int 0)) (nilA))))))))))
-- check_rule_T: 0=rule
noncomputable def d_check_rule_T : FnDen := fnD 1 1 (ifS (notT (tstE (callE d_is_rule_T (consA (vE 0) (nilA))))) (raiseS "InvalidRule") (skipS))
-- is_request_T: 0=value
noncomputable def d_is_request_T : FnDen := fnD 1 1 (retS (andE (bE isinB (consA (vE 0) (consA (cE (.ty "tuple")) (nilA)))) (andE (binE eqV (bE lenB (consA (vE 0) (nilA))) (cE (.int 2))) (andE (callE d_is_at_least_T (consA (binE itemV (vE 0) (cE (.int 0))) (consA (cE (.int 0)) (nilA)))) (callE d_is_at_least_T (consA (binE itemV (vE 0) (cE (.int 1))) (consA (cE (.int 1)) (nilA))))))))
noncomputable def X_is_rising_T_0 : ExprD := binE leV (binE itemV (vE 1) (cE (.int 0))) (binE itemV (vE 2) (cE (.int 0)))
-- is_rising_T: 0=rows 1=row 2=after
noncomputable def d_is_rising_T : FnDen := fnD 1 3 (retS (bE allB (consA (compE (zipMI (vE 0) (sliceE (vE 0) (someP (cE (.int 1))) noP)) (.tp [(.nm 1), (.nm 2)]) [1, 2] yesT X_is_rising_T_0) (nilA))))
noncomputable def X_is_row_T_0 : ExprD := callE d_is_request_T (consA (vE 1) (nilA))
-- is_row_T: 0=value 1=request
noncomputable def d_is_row_T : FnDen := fnD 1 2 (retS (andE (bE isinB (consA (vE 0) (consA (cE (.ty "tuple")) (nilA)))) (andE (bE allB (consA (compE (seqI (vE 0)) (.nm 1) [1] yesT X_is_row_T_0) (nilA))) (callE d_is_rising_T (consA (vE 0) (nilA))))))
-- check_row_T: 0=row
noncomputable def d_check_row_T : FnDen := fnD 1 1 (ifS (notT (tstE (callE d_is_row_T (consA (vE 0) (nilA))))) (raiseS "InvalidRow") (skipS))
noncomputable def B_levels_T_0 : StmtD := seqS (asgS (.nm 11) (bE minB (consA (vE 8) (consA (binE addV (vE 11) (binE mulV (vE 9) (binE subV (vE 13) (vE 12)))) (nilA))))) (seqS (asgS (.nm 15) (binE leV (binE mulV (vE 14) (vE 7)) (vE 11))) (seqS (asgS (.nm 10) (binE addV (vE 10) (listE (consA (vE 15) (nilA))))) (seqS (asgS (.nm 12) (vE 13)) (ifS (orT (tstE (vE 15)) (tstE (binE eqV (vE 2) (cE (.str "meter"))))) (asgS (.nm 11) (binE subV (vE 11) (binE mulV (vE 14) (vE 7)))) (skipS)))))
-- levels_T: 0=rule 1=row 2=kind 3=size 4=bottom 5=gain 6=ground 7=common 8=full 9=rise 10=found 11=level 12=before 13=time 14=cost 15=passed
noncomputable def d_levels_T : FnDen := fnD 2 16 (seqS (asgS (.tp [(.nm 2), (.tp [(.nm 3), (.nm 4)]), (.tp [(.nm 5), (.nm 6)])]) (vE 0)) (seqS (asgS (.nm 7) (binE mulV (binE fdivV (vE 4) (callE d_greatest_divisor_T (consA (vE 4) (consA (vE 6) (nilA))))) (vE 6))) (seqS (par2S 8 9 (consA (binE mulV (vE 3) (binE fdivV (vE 7) (vE 4))) (consA (binE mulV (vE 5) (binE fdivV (vE 7) (vE 6))) (nilA)))) (seqS (par3S 10 11 12 (consA (listE (nilA)) (consA (vE 8) (consA (cE (.int 0)) (nilA))))) (seqS (forS (seqI (vE 1)) (.tp [(.nm 13), (.nm 14)]) B_levels_T_0) (retS (tupE (consA (vE 10) (consA (vE 11) (consA (vE 7) (nilA)))))))))))
noncomputable def X_counted_T_0 : ExprD := vE 9
noncomputable def G_counted_T_0 : TestD := tstE (binE gtV (vE 8) (binE subV (vE 4) (binE itemV (vE 0) (cE (.int 1)))))
noncomputable def X_counted_T_1 : ExprD := vE 9
noncomputable def G_counted_T_1 : TestD := tstE (binE eqV (binE fdivV (vE 8) (binE itemV (vE 0) (cE (.int 1)))) (binE fdivV (vE 4) (binE itemV (vE 0) (cE (.int 1)))))
noncomputable def B_counted_T_0 : StmtD := seqS (ifS (tstE (binE eqV (binE itemV (vE 0) (cE (.int 0))) (cE (.str "window")))) (seqS (asgS (.nm 6) (bE sumB (consA (compE (seqI (vE 3)) (.tp [(.nm 8), (.nm 9)]) [8, 9] G_counted_T_0 X_counted_T_0) (nilA)))) (asgS (.nm 7) (binE leV (binE addV (vE 6) (vE 5)) (binE itemV (vE 0) (cE (.int 2)))))) (ifS (tstE (binE eqV (binE itemV (vE 0) (cE (.int 0))) (cE (.str "frame")))) (seqS (asgS (.nm 6) (bE sumB (consA (compE (seqI (vE 3)) (.tp [(.nm 8), (.nm 9)]) [8, 9] G_counted_T_1 X_counted_T_1) (nilA)))) (asgS (.nm 7) (binE leV (binE addV (vE 6) (vE 5)) (binE itemV (vE 0) (cE (.int 2)))))) (asgS (.nm 7) (orE (binE eqV (vE 3) (listE (nilA))) (binE geV (binE subV (vE 4) (binE itemV (binE itemV (vE 3) (unE negV (cE (.int 1)))) (cE (.int 0)))) (binE itemV (vE 0) (cE (.int 1)))))))) (seqS (asgS (.nm 2) (binE addV (vE 2) (listE (consA (vE 7) (nilA))))) (ifS (tstE (vE 7)) (asgS (.nm 3) (binE addV (vE 3) (listE (consA (tupE (consA (vE 4) (consA (vE 5) (nilA)))) (nilA))))) (skipS)))
-- counted_T: 0=rule 1=row 2=found 3=past 4=time 5=cost 6=spent 7=passed 8=moment 9=price
noncomputable def d_counted_T : FnDen := fnD 2 10 (seqS (par2S 2 3 (consA (listE (nilA)) (consA (listE (nilA)) (nilA)))) (seqS (forS (seqI (vE 1)) (.tp [(.nm 4), (.nm 5)]) B_counted_T_0) (retS (vE 2))))
-- answers_of_T: 0=rule 1=row
noncomputable def d_answers_of_T : FnDen := fnD 2 2 (retS (iteE (tstE (binE inV (binE itemV (vE 0) (cE (.int 0))) (cE (.tup ((["bucket", "meter"] : List Str).map PV.str))))) (binE itemV (callE d_levels_T (consA (vE 0) (consA (vE 1) (nilA)))) (cE (.int 0))) (callE d_counted_T (consA (vE 0) (consA (vE 1) (nilA))))))
-- answers_T: 0=rule 1=row
noncomputable def d_answers_T : FnDen := fnD 2 2 (seqS (exprS (callE d_check_rule_T (consA (vE 0) (nilA)))) (seqS (exprS (callE d_check_row_T (consA (vE 1) (nilA)))) (retS (callE d_answers_of_T (consA (vE 0) (consA (vE 1) (nilA)))))))
-- _law_kept_right_T: 0=_law_kept 1=_law_marks_here 2=_law_kinds_here 3=_law_e
noncomputable def d__law_kept_right_T : FnDen := exitT (fnD 0 4 (seqS (par3S 0 1 2 (consA (cellE (nilA)) (consA (listE (consA (cE (.bl true)) (nilA))) (consA (listE (nilA)) (nilA))))) (seqS (trySy (raiseFS "Open" ["one", "other"] (permA [1, 0] (consA (tupE (consA (cE (.str "gap")) (consA (cE (.int 9)) (nilA)))) (consA (tupE (consA (cE (.str "gap")) (consA (cE (.int 4)) (nilA)))) (nilA))))) NSX "Open" 3 (fun a dd xx => asgS (.nm 0) (binE addCV (vE 0) (listE (consA (xfE 3 (exP a dd xx) xx "one") (consA (xfE 3 (exP a dd xx) xx "other") (nilA))))))) (seqS (trySy (raiseFS "Open" ["one", "other"] (consA (tupE (consA (cE (.str "window")) (consA (cE (.int 2)) (consA (cE (.int 3)) (nilA))))) (consA (tupE (consA (cE (.str "window")) (consA (cE (.int 1)) (consA (cE (.int 3)) (nilA))))) (nilA)))) NSX "Open" 3 (fun a dd xx => asgS (.nm 0) (binE addCV (vE 0) (listE (consA (xfE 3 (exP a dd xx) xx "one") (consA (xfE 3 (exP a dd xx) xx "other") (nilA))))))) (seqS (trySy (raiseFS "NotFitting" ["index"] (permA [0] (consA (cE (.int 3)) (nilA)))) NSX "NotFitting" 3 (fun a dd xx => exprS (appE (vE 0) (xfE 3 (exP a dd xx) xx "index")))) (seqS (trySy (raiseFS "NotFitting" ["index"] (consA (cE (.int 0)) (nilA))) NSX "NotFitting" 3 (fun a dd xx => exprS (appE (vE 0) (xfE 3 (exP a dd xx) xx "index")))) (seqS (trySy (raiseS "LimitError") NSX "LimitError" 3 (fun a dd xx => asgS (.nm 1) (callX 3 xx a dd d__law_marks_X))) (seqS (trySy (exprS (callE d_answers_T (consA (cE (.str "gap")) (consA (tupE (nilA)) (nilA))))) NSX "LimitError" 3 (fun a dd xx => asgS (.nm 2) (callX 3 xx a dd d__law_marks_X))) (seqS (ifS (orT (tstE (binE neV (vE 0) (listE (consA (tupE (consA (cE (.str "gap")) (consA (cE (.int 4)) (nilA)))) (consA (tupE (consA (cE (.str "gap")) (consA (cE (.int 9)) (nilA)))) (consA (tupE (consA (cE (.str "window")) (consA (cE (.int 2)) (consA (cE (.int 3)) (nilA))))) (consA (tupE (consA (cE (.str "window")) (consA (cE (.int 1)) (consA (cE (.int 3)) (nilA))))) (consA (cE (.int 3)) (consA (cE (.int 0)) (nilA)))))))))) (tstE (binE inV (cE (.bl true)) (vE 1)))) (retS (cE (.bl false))) (skipS)) (retS (andE (binE eqV (countE (vE 2) (cE (.bl true))) (cE (.int 1))) (binE itemV (vE 2) (cE (.int 12))))))))))))))
noncomputable def X_law_T_0 : ExprD := vE 3
noncomputable def G_law_T_0 : TestD := notT (tstE (callE d__law_way_right_T (consA (vE 3) (consA (vE 1) (nilA)))))
-- law_T: 0=_law_script 1=_law_size 2=_law_spot 3=_law_way
noncomputable def d_law_T : FnDen := fnD 1 4 (seqS (asgS (.nm 1) (cE (.int 26))) (seqS (asgS (.nm 2) (iteE (tstE (binE neV (vE 0) (listE (nilA)))) (binE modV (bE intB (consA (binE itemV (vE 0) (cE (.int 0))) (nilA))) (vE 1)) (cE (.int 0)))) (seqS (ifS (orT (notT (tstE (callE d__law_way_right_T (consA (vE 2) (consA (vE 1) (nilA)))))) (notT (tstE (callE d__law_kept_right_T nilA)))) (retS (cE (.bl false))) (skipS)) (retS (binE eqV (compE (range1I (vE 1)) (.nm 3) [3] G_law_T_0 X_law_T_0) (listE (nilA)))))))
end LW

namespace LW
open PySem PySem.Spec PyProof.Rows L2 LH
structure Fx (K : PySem.W.Frag) (mg : Str → Option Value) : Prop where
  n_ValueError : mg "ValueError" = none
  n_all : mg "all" = none
  n_bool : mg "bool" = none
  n_int : mg "int" = none
  n_isinstance : mg "isinstance" = none
  n_len : mg "len" = none
  n_min : mg "min" = none
  n_range : mg "range" = none
  n_str : mg "str" = none
  n_sum : mg "sum" = none
  n_tuple : mg "tuple" = none
  n_zip : mg "zip" = none
  g_FRAME : ∃ t, mg "FRAME" = some (.str "frame" t)
  g_GAP : ∃ t, mg "GAP" = some (.str "gap" t)
  g_METER : ∃ t, mg "METER" = some (.str "meter" t)
  g_WINDOW : ∃ t, mg "WINDOW" = some (.str "window" t)
  g_FILLED : ∃ u, mg "FILLED" = some (.ref u) ∧ ∀ H, SqT K H u ((["bucket", "meter"] : List Str).map V.str)
  g_SPANNED : ∃ u, mg "SPANNED" = some (.ref u) ∧ ∀ H, SqT K H u ((["window", "frame"] : List Str).map V.str)
  xt : ExT K mg NSX MSX CLX FLX
  xr : ∀ n ∈ NRX, RaiseF K mg n
/-! the walk -/
theorem sc__law_raised_more : FnScope ["_law_way"] ["_law_way"] (defScope s__law_raised_more) := ⟨rfl, rfl, rfl, by decide +kernel, rfl, by decide +kernel, by decide +kernel⟩
theorem sc__law_raised_one : FnScope ["_law_way"] ["_law_way"] (defScope s__law_raised_one) := ⟨rfl, rfl, rfl, by decide +kernel, rfl, by decide +kernel, by decide +kernel⟩
theorem sc__law_marks : FnScope ["_law_e", "_law_marks_here"] ["_law_e"] (defScope s__law_marks) := ⟨rfl, rfl, rfl, by decide +kernel, rfl, by decide +kernel, by decide +kernel⟩
theorem sc__law_way_right : FnScope ["_law_way", "_law_size", "_law_marks_here", "_law_base", "_law_e"] ["_law_way", "_law_size"] (defScope s__law_way_right) := ⟨rfl, rfl, rfl, by decide +kernel, rfl, by decide +kernel, by decide +kernel⟩
theorem sc_is_integer : FnScope ["value"] ["value"] (defScope s_is_integer) := ⟨rfl, rfl, rfl, by decide +kernel, rfl, by decide +kernel, by decide +kernel⟩
theorem sc_is_at_least : FnScope ["value", "least"] ["value", "least"] (defScope s_is_at_least) := ⟨rfl, rfl, rfl, by decide +kernel, rfl, by decide +kernel, by decide +kernel⟩
theorem sc_greatest_divisor : FnScope ["one", "other"] ["one", "other"] (defScope s_greatest_divisor) := ⟨rfl, rfl, rfl, by decide +kernel, rfl, by decide +kernel, by decide +kernel⟩
theorem sc_is_fraction : FnScope ["value"] ["value"] (defScope s_is_fraction) := ⟨rfl, rfl, rfl, by decide +kernel, rfl, by decide +kernel, by decide +kernel⟩
theorem sc_is_rule : FnScope ["value"] ["value"] (defScope s_is_rule) := ⟨rfl, rfl, rfl, by decide +kernel, rfl, by decide +kernel, by decide +kernel⟩
theorem sc_check_rule : FnScope ["rule"] ["rule"] (defScope s_check_rule) := ⟨rfl, rfl, rfl, by decide +kernel, rfl, by decide +kernel, by decide +kernel⟩
theorem sc_is_request : FnScope ["value"] ["value"] (defScope s_is_request) := ⟨rfl, rfl, rfl, by decide +kernel, rfl, by decide +kernel, by decide +kernel⟩
theorem sc_is_rising : FnScope ["rows", "row", "after"] ["rows"] (defScope s_is_rising) := ⟨rfl, rfl, rfl, by decide +kernel, rfl, by decide +kernel, by decide +kernel⟩
theorem sc_is_row : FnScope ["value", "request"] ["value"] (defScope s_is_row) := ⟨rfl, rfl, rfl, by decide +kernel, rfl, by decide +kernel, by decide +kernel⟩
theorem sc_check_row : FnScope ["row"] ["row"] (defScope s_check_row) := ⟨rfl, rfl, rfl, by decide +kernel, rfl, by decide +kernel, by decide +kernel⟩
theorem sc_levels : FnScope ["rule", "row", "kind", "size", "bottom", "gain", "ground", "common", "full", "rise", "found", "level", "before", "time", "cost", "passed"] ["rule", "row"] (defScope s_levels) := ⟨rfl, rfl, rfl, by decide +kernel, rfl, by decide +kernel, by decide +kernel⟩
theorem sc_counted : FnScope ["rule", "row", "found", "past", "time", "cost", "spent", "passed", "moment", "price"] ["rule", "row"] (defScope s_counted) := ⟨rfl, rfl, rfl, by decide +kernel, rfl, by decide +kernel, by decide +kernel⟩
theorem sc_answers_of : FnScope ["rule", "row"] ["rule", "row"] (defScope s_answers_of) := ⟨rfl, rfl, rfl, by decide +kernel, rfl, by decide +kernel, by decide +kernel⟩
theorem sc_answers : FnScope ["rule", "row"] ["rule", "row"] (defScope s_answers) := ⟨rfl, rfl, rfl, by decide +kernel, rfl, by decide +kernel, by decide +kernel⟩
theorem sc__law_kept_right : FnScope ["_law_kept", "_law_marks_here", "_law_kinds_here", "_law_e"] [] (defScope s__law_kept_right) := ⟨rfl, rfl, rfl, by decide +kernel, rfl, by decide +kernel, by decide +kernel⟩
theorem sc_law : FnScope ["_law_script", "_law_size", "_law_spot", "_law_way"] ["_law_script"] (defScope s_law) := ⟨rfl, rfl, rfl, by decide +kernel, rfl, by decide +kernel, by decide +kernel⟩
section
variable {P : Program} {w : World} {K : PySem.W.Frag} {mg : Str → Option Value} {base : Heap}
theorem sc_NotFitting___init__ : FnScope ["self", "index"] ["self", "index"] (defScope s_NotFitting___init__) := ⟨rfl, rfl, rfl, by decide +kernel, rfl, by decide +kernel, by decide +kernel⟩
theorem oi_NotFitting {f C : Addr} {fd : FuncData} (F : FnQ K "__init__" "NotFitting.__init__" s_NotFitting___init__ f fd) (L : LimC K mg "LimitError") (T : OexC K C) (h0 : PySem.W.findIn K (.ref C) "index" = some none) : FnOk P w K mg base (L2.CX P w) 1 f fd ["self", "index"] (spI C ["index"]) :=
  init_ok1 F sc_NotFitting___init__ L T h0 (fun _ _ _ _ _ _ => rfl) (fun _ _ _ _ _ _ => ⟨_, rfl⟩) (.inl rfl) (.inl rfl) (by decide) (by decide)
theorem sc_Open___init__ : FnScope ["self", "one", "other"] ["self", "one", "other"] (defScope s_Open___init__) := ⟨rfl, rfl, rfl, by decide +kernel, rfl, by decide +kernel, by decide +kernel⟩
theorem oi_Open {f C : Addr} {fd : FuncData} (F : FnQ K "__init__" "Open.__init__" s_Open___init__ f fd) (L : LimC K mg "LimitError") (T : OexC K C) (h0 : PySem.W.findIn K (.ref C) "one" = some none) (h1 : PySem.W.findIn K (.ref C) "other" = some none) : FnOk P w K mg base (L2.CX P w) 1 f fd ["self", "one", "other"] (spI C ["one", "other"]) :=
  init_ok2 F sc_Open___init__ L T h0 h1 (fun _ _ _ _ _ _ => rfl) (fun _ _ _ _ _ _ => ⟨_, rfl⟩) (.inl rfl) (.inl rfl) (.inl rfl) (by decide) (by decide) (by decide) (by decide)
theorem ok__law_raised_more_T {f : Addr} {fd : FuncData} (F : FnP K "_law_raised_more" s__law_raised_more f fd) (x : Fx K mg) (e_NotFitting : CalleeE P w K mg base "NotFitting" ["index"]) (e_Open : CalleeE P w K mg base "Open" ["one", "other"]) : FnOk P w K mg base (L2.CX P w) 3 f fd ["_law_way"] (spF K mg 1 d__law_raised_more_T) :=
  fn_ok F sc__law_raised_more fun cdv A outer s H E hr hl hp tk => by
      have hu := hr.units
      have hN := sc__law_raised_more.nd
      exact dss_cons (ds_if (dt_cmp (fun _ => (od_eq hu)) (de_v 0) (de_int) (nomark _)) (dss_one (ds_raise tk (x.xr _ (by decide)))) (dss_nil)) (dss_cons (ds_if (dt_cmp (fun _ => (od_eq hu)) (de_v 0) (de_int) (nomark _)) (dss_one (ds_raise tk (x.xr _ (by decide)))) (dss_nil)) (dss_cons (ds_if (dt_cmp (fun _ => (od_eq hu)) (de_v 0) (de_int) (nomark _)) (dss_one (ds_raise tk (x.xr _ (by decide)))) (dss_nil)) (dss_cons (ds_if (dt_cmp (fun _ => (od_eq hu)) (de_v 0) (de_int) (nomark _)) (dss_one (ds_raise tk (x.xr _ (by decide)))) (dss_nil)) (dss_cons (ds_if (dt_cmp (fun _ => (od_eq hu)) (de_v 0) (de_int) (nomark _)) (dss_one (ds_raise tk (x.xr _ (by decide)))) (dss_nil)) (dss_cons (ds_if (dt_cmp (fun _ => (od_eq hu)) (de_v 0) (de_int) (nomark _)) (dss_one (ds_raiseE tk e_NotFitting hr (da_cons (de_int) (da_nil)))) (dss_nil)) (dss_cons (ds_if (dt_cmp (fun _ => (od_eq hu)) (de_v 0) (de_int) (nomark _)) (dss_one (ds_raise tk (x.xr _ (by decide)))) (dss_nil)) (dss_cons (ds_if (dt_cmp (fun _ => (od_eq hu)) (de_v 0) (de_int) (nomark _)) (dss_one (ds_raise tk (x.xr _ (by decide)))) (dss_nil)) (dss_cons (ds_if (dt_cmp (fun _ => (od_eq hu)) (de_v 0) (de_int) (nomark _)) (dss_one (ds_raiseE tk e_Open hr (da_cons (de_tup (da_cons (de_str) (da_cons (de_int) (da_nil)))) (da_cons (de_tup (da_cons (de_str) (da_cons (de_int) (da_nil)))) (da_nil))))) (dss_nil)) (dss_cons (ds_if (dt_cmp (fun _ => (od_eq hu)) (de_v 0) (de_int) (nomark _)) (dss_one (ds_raise tk (x.xr _ (by decide)))) (dss_nil)) (dss_cons (ds_if (dt_cmp (fun _ => (od_eq hu)) (de_v 0) (de_int) (nomark _)) (dss_one (ds_raise tk (x.xr _ (by decide)))) (dss_nil)) (dss_one (ds_if (dt_cmp (fun _ => (od_eq hu)) (de_v 0) (de_int) (nomark _)) (dss_one (ds_raise tk (x.xr _ (by decide)))) (dss_nil)))))))))))))
theorem ok__law_raised_one_T {f : Addr} {fd : FuncData} (F : FnP K "_law_raised_one" s__law_raised_one f fd) (x : Fx K mg) (c__law_raised_more_T : Callee P w K mg base 3 "_law_raised_more" ["_law_way"] d__law_raised_more_T) : FnOk P w K mg base (L2.CX P w) 4 f fd ["_law_way"] (spF K mg 1 d__law_raised_one_T) :=
  fn_ok F sc__law_raised_one fun cdv A outer s H E hr hl hp tk => by
      have hu := hr.units
      have hN := sc__law_raised_one.nd
      exact dss_cons (ds_if (dt_cmp (fun _ => (od_eq hu)) (de_v 0) (de_int) (nomark _)) (dss_one (ds_raise tk (x.xr _ (by decide)))) (dss_nil)) (dss_cons (ds_if (dt_cmp (fun _ => (od_eq hu)) (de_v 0) (de_int) (nomark _)) (dss_one (ds_raise tk (x.xr _ (by decide)))) (dss_nil)) (dss_cons (ds_if (dt_cmp (fun _ => (od_eq hu)) (de_v 0) (de_int) (nomark _)) (dss_one (ds_raise tk (x.xr _ (by decide)))) (dss_nil)) (dss_cons (ds_if (dt_cmp (fun _ => (od_eq hu)) (de_v 0) (de_int) (nomark _)) (dss_one (ds_raise tk (x.xr _ (by decide)))) (dss_nil)) (dss_cons (ds_if (dt_cmp (fun _ => (od_eq hu)) (de_v 0) (de_int) (nomark _)) (dss_one (ds_raise tk (x.xr _ (by decide)))) (dss_nil)) (dss_cons (ds_if (dt_cmp (fun _ => (od_eq hu)) (de_v 0) (de_int) (nomark _)) (dss_one (ds_raise tk (x.xr _ (by decide)))) (dss_nil)) (dss_cons (ds_if (dt_cmp (fun _ => (od_eq hu)) (de_v 0) (de_int) (nomark _)) (dss_one (ds_raise tk (x.xr _ (by decide)))) (dss_nil)) (dss_cons (ds_if (dt_cmp (fun _ => (od_eq hu)) (de_v 0) (de_int) (nomark _)) (dss_one (ds_raise tk (x.xr _ (by decide)))) (dss_nil)) (dss_cons (ds_if (dt_cmp (fun _ => (od_eq hu)) (de_v 0) (de_int) (nomark _)) (dss_one (ds_raise tk (x.xr _ (by decide)))) (dss_nil)) (dss_cons (ds_if (dt_cmp (fun _ => (od_eq hu)) (de_v 0) (de_int) (nomark _)) (dss_one (ds_raise tk (x.xr _ (by decide)))) (dss_nil)) (dss_cons (ds_if (dt_cmp (fun _ => (od_eq hu)) (de_v 0) (de_int) (nomark _)) (dss_one (ds_raise tk (x.xr _ (by decide)))) (dss_nil)) (dss_cons (ds_if (dt_cmp (fun _ => (od_eq hu)) (de_v 0) (de_int) (nomark _)) (dss_one (ds_raise tk (x.xr _ (by decide)))) (dss_nil)) (dss_cons (ds_if (dt_cmp (fun _ => (od_eq hu)) (de_v 0) (de_int) (nomark _)) (dss_one (ds_raise tk (x.xr _ (by decide)))) (dss_nil)) (dss_cons (ds_if (dt_cmp (fun _ => (od_eq hu)) (de_v 0) (de_int) (nomark _)) (dss_one (ds_raise tk (x.xr _ (by decide)))) (dss_nil)) (dss_one (ds_expr (de_call c__law_raised_more_T hl hr (da_cons (de_v 0) (da_nil)) (hrl := len_consA (len_nilA))))))))))))))))))
theorem ok__law_marks_X {f : Addr} {fd : FuncData} (F : FnP K "_law_marks" s__law_marks f fd) (x : Fx K mg) : LH.FnP P w K mg base 1 f fd ["_law_e"] (spX K mg NSX d__law_marks_X) :=
  fn_exitX (fn_okX F sc__law_marks fun cdv A outer s H E a oe xx C dd hr gC hx hz hf => by
      have hu := roomH_units hr
      have hN := sc__law_marks.nd
      exact dss_cons (ds_set 1 hN (de_list (da_cons (de_isP 0 x.xt gC hx (by decide) hz hf List.mem_cons_self x.n_isinstance) (da_cons (de_isP 0 x.xt gC hx (by decide) hz hf List.mem_cons_self x.n_isinstance) (da_cons (de_isP 0 x.xt gC hx (by decide) hz hf List.mem_cons_self x.n_isinstance) (da_nil)))))) (dss_cons (ds_set 1 hN (de_op (fun _ => od_add) (de_v 1) (de_list (da_cons (de_isP 0 x.xt gC hx (by decide) hz hf List.mem_cons_self x.n_isinstance) (da_cons (de_isP 0 x.xt gC hx (by decide) hz hf List.mem_cons_self x.n_isinstance) (da_cons (de_isP 0 x.xt gC hx (by decide) hz hf List.mem_cons_self x.n_isinstance) (da_nil))))))) (dss_cons (ds_set 1 hN (de_op (fun _ => od_add) (de_v 1) (de_list (da_cons (de_isP 0 x.xt gC hx (by decide) hz hf List.mem_cons_self x.n_isinstance) (da_cons (de_isP 0 x.xt gC hx (by decide) hz hf List.mem_cons_self x.n_isinstance) (da_cons (de_isP 0 x.xt gC hx (by decide) hz hf List.mem_cons_self x.n_isinstance) (da_nil))))))) (dss_cons (ds_set 1 hN (de_op (fun _ => od_add) (de_v 1) (de_list (da_cons (de_isP 0 x.xt gC hx (by decide) hz hf List.mem_cons_self x.n_isinstance) (da_cons (de_isP 0 x.xt gC hx (by decide) hz hf List.mem_cons_self x.n_isinstance) (da_cons (de_isP 0 x.xt gC hx (by decide) hz hf List.mem_cons_self x.n_isinstance) (da_nil))))))) (dss_cons (ds_set 1 hN (de_op (fun _ => od_add) (de_v 1) (de_list (da_cons (de_isP 0 x.xt gC hx (by decide) hz hf List.mem_cons_self x.n_isinstance) (da_cons (de_isP 0 x.xt gC hx (by decide) hz hf List.mem_cons_self x.n_isinstance) (da_cons (de_isP 0 x.xt gC hx (by decide) hz hf List.mem_cons_self x.n_isinstance) (da_nil))))))) (dss_cons (ds_set 1 hN (de_op (fun _ => od_add) (de_v 1) (de_list (da_cons (de_isP 0 x.xt gC hx (by decide) hz hf List.mem_cons_self x.n_isinstance) (da_cons (de_isP 0 x.xt gC hx (by decide) hz hf List.mem_cons_self x.n_isinstance) (da_cons (de_isP 0 x.xt gC hx (by decide) hz hf List.mem_cons_self x.n_isinstance) (da_nil))))))) (dss_cons (ds_set 1 hN (de_op (fun _ => od_add) (de_v 1) (de_list (da_cons (de_isP 0 x.xt gC hx (by decide) hz hf List.mem_cons_self x.n_isinstance) (da_cons (de_isP 0 x.xt gC hx (by decide) hz hf List.mem_cons_self x.n_isinstance) (da_cons (de_isP 0 x.xt gC hx (by decide) hz hf List.mem_cons_self x.n_isinstance) (da_nil))))))) (dss_cons (ds_set 1 hN (de_op (fun _ => od_add) (de_v 1) (de_list (da_cons (de_isP 0 x.xt gC hx (by decide) hz hf List.mem_cons_self x.n_isinstance) (da_cons (de_isP 0 x.xt gC hx (by decide) hz hf List.mem_cons_self x.n_isinstance) (da_cons (de_isP 0 x.xt gC hx (by decide) hz hf List.mem_cons_self x.n_isinstance) (da_nil))))))) (dss_cons (ds_set 1 hN (de_op (fun _ => od_add) (de_v 1) (de_list (da_cons (de_isP 0 x.xt gC hx (by decide) hz hf List.mem_cons_self x.n_isinstance) (da_cons (de_isP 0 x.xt gC hx (by decide) hz hf List.mem_cons_self x.n_isinstance) (da_nil)))))) (dss_one (ds_ret (de_v 1))))))))))))
theorem ok__law_way_right_T {f : Addr} {fd : FuncData} (F : FnP K "_law_way_right" s__law_way_right f fd) (x : Fx K mg) (c__law_raised_one_T : Callee P w K mg base 4 "_law_raised_one" ["_law_way"] d__law_raised_one_T) (c__law_marks_X : CalleeX P w K mg base 1 "_law_marks" NSX d__law_marks_X) : FnOk P w K mg base (L2.CX P w) 5 f fd ["_law_way", "_law_size"] (spF K mg 2 d__law_way_right_T) :=
  fn_ok F sc__law_way_right fun cdv A outer s H E hr hl hp tk => by
      have hu := hr.units
      have hN := sc__law_way_right.nd
      exact dss_cons (ds_par2 2 3 hN (da_cons (de_list (da_nil)) (da_cons (de_bl) (da_nil)))) (dss_cons (ds_tryX (MS := MSX) (CL := CLX) (FL := FLX) 4 hN tk x.xt (by decide) (fun W pn xe tk hp => (fun hl => dss_one (ds_expr (de_call c__law_raised_one_T hl hr (da_cons (de_v 0) (da_nil)) (hrl := len_consA (len_nilA))))) (lets_of tk)) (fun xx C a dd oe pn gC hx hz hf => dss_cons (ds_set 2 hN (de_callX 4 c__law_marks_X lets0 (roomH_suite hr) gC hx hz hf List.mem_cons_self)) (dss_one (ds_set 3 hN (de_isPV 4 x.xt gC hx hz hf List.mem_cons_self x.n_isinstance x.n_ValueError))))) (dss_one (ds_ret (de_and (de_v 3) (de_and (de_cmp (fun _ => (od_eq hu)) (de_count (de_v 2) (de_bl)) (de_int) (nomark _)) (de_and (de_cmp (fun _ => (od_eq hu)) (de_b (fun _ => cd_len) x.n_len bt_len (da_cons (de_v 2) (da_nil))) (de_v 1) (nomark _)) (de_one (de_ix (de_v 2) (de_v 0)))))))))
theorem ok_is_integer_T {f : Addr} {fd : FuncData} (F : FnP K "is_integer" s_is_integer f fd) (x : Fx K mg) : FnOk P w K mg base (L2.CX P w) 1 f fd ["value"] (spF K mg 1 d_is_integer_T) :=
  fn_ok F sc_is_integer fun cdv A outer s H E hr hl hp tk => by
      have hu := hr.units
      have hN := sc_is_integer.nd
      exact dss_one (ds_ret (de_and (de_b (fun _ => cd_isin) x.n_isinstance bt_isinstance (da_cons (de_v 0) (da_cons (de_tyv x.n_int bt_int) (da_nil)))) (de_one (de_not (de_b (fun _ => cd_isin) x.n_isinstance bt_isinstance (da_cons (de_v 0) (da_cons (de_tyv x.n_bool bt_bool) (da_nil))))))))
theorem ok_is_at_least_T {f : Addr} {fd : FuncData} (F : FnP K "is_at_least" s_is_at_least f fd) (x : Fx K mg) (c_is_integer_T : Callee P w K mg base 1 "is_integer" ["value"] d_is_integer_T) : FnOk P w K mg base (L2.CX P w) 2 f fd ["value", "least"] (spF K mg 2 d_is_at_least_T) :=
  fn_ok F sc_is_at_least fun cdv A outer s H E hr hl hp tk => by
      have hu := hr.units
      have hN := sc_is_at_least.nd
      exact dss_one (ds_ret (de_and (de_call c_is_integer_T hl hr (da_cons (de_v 0) (da_nil)) (hrl := len_consA (len_nilA))) (de_one (de_cmp (fun _ => od_ge) (de_v 0) (de_v 1) (nomark _)))))
theorem ok_greatest_divisor_T {f : Addr} {fd : FuncData} (F : FnP K "greatest_divisor" s_greatest_divisor f fd) (x : Fx K mg) : FnOk P w K mg base (L2.CX P w) 1 f fd ["one", "other"] (spF K mg 2 d_greatest_divisor_T) :=
  fn_ok F sc_greatest_divisor fun cdv A outer s H E hr hl hp tk => by
      have hu := hr.units
      have hN := sc_greatest_divisor.nd
      exact dss_cons (ds_whileS hp (dt_cmp (fun _ => (od_ne hu)) (de_v 1) (de_int) (nomark _)) (dss_one (ds_par2 0 1 hN (da_cons (de_v 1) (da_cons (de_op (fun _ => od_mod) (de_ty (fun _ => cd_int) x.n_int bt_int (da_cons (de_v 0) (da_nil))) (de_v 1)) (da_nil)))))) (dss_one (ds_ret (de_v 0)))
theorem ok_is_fraction_T {f : Addr} {fd : FuncData} (F : FnP K "is_fraction" s_is_fraction f fd) (x : Fx K mg) (c_is_at_least_T : Callee P w K mg base 2 "is_at_least" ["value", "least"] d_is_at_least_T) (c_greatest_divisor_T : Callee P w K mg base 1 "greatest_divisor" ["one", "other"] d_greatest_divisor_T) : FnOk P w K mg base (L2.CX P w) 3 f fd ["value"] (spF K mg 1 d_is_fraction_T) :=
  fn_ok F sc_is_fraction fun cdv A outer s H E hr hl hp tk => by
      have hu := hr.units
      have hN := sc_is_fraction.nd
      exact dss_cons (ds_if ((dw_or (dt_not (dt_val (de_b (fun _ => cd_isin) x.n_isinstance bt_isinstance (da_cons (de_v 0) (da_cons (de_tyv x.n_tuple bt_tuple) (da_nil)))))) (dw_or1 (dt_cmp (fun _ => (od_ne hu)) (de_b (fun _ => cd_len) x.n_len bt_len (da_cons (de_v 0) (da_nil))) (de_int) (nomark _)))).pt) (dss_one (ds_ret (de_bl))) (dss_nil)) (dss_one (ds_ret (de_and (de_call c_is_at_least_T hl hr (da_cons (de_ix (de_v 0) (de_int)) (da_cons (de_int) (da_nil))) (hrl := len_consA (len_consA (len_nilA)))) (de_and (de_call c_is_at_least_T hl hr (da_cons (de_ix (de_v 0) (de_int)) (da_cons (de_int) (da_nil))) (hrl := len_consA (len_consA (len_nilA)))) (de_one (de_cmp (fun _ => (od_eq hu)) (de_call c_greatest_divisor_T hl hr (da_cons (de_ix (de_v 0) (de_int)) (da_cons (de_ix (de_v 0) (de_int)) (da_nil))) (hrl := len_consA (len_consA (len_nilA)))) (de_int) (nomark _)))))))
theorem ok_is_rule_T {f : Addr} {fd : FuncData} (F : FnP K "is_rule" s_is_rule f fd) (x : Fx K mg) (c_is_fraction_T : Callee P w K mg base 3 "is_fraction" ["value"] d_is_fraction_T) (c_is_at_least_T : Callee P w K mg base 2 "is_at_least" ["value", "least"] d_is_at_least_T) : FnOk P w K mg base (L2.CX P w) 4 f fd ["value"] (spF K mg 1 d_is_rule_T) :=
  fn_ok F sc_is_rule fun cdv A outer s H E hr hl hp tk => by
      have hu := hr.units
      have hN := sc_is_rule.nd
      exact dss_cons (ds_if ((dw_or (dt_not (dt_val (de_b (fun _ => cd_isin) x.n_isinstance bt_isinstance (da_cons (de_v 0) (da_cons (de_tyv x.n_tuple bt_tuple) (da_nil)))))) (dw_or (dt_cmp (fun _ => (od_eq hu)) (de_v 0) (de_tup (da_nil)) (nomark _)) (dw_or1 (dt_not (dt_val (de_b (fun _ => cd_isin) x.n_isinstance bt_isinstance (da_cons (de_ix (de_v 0) (de_int)) (da_cons (de_tyv x.n_str bt_str) (da_nil))))))))).pt) (dss_one (ds_ret (de_bl))) (dss_nil)) (dss_cons (ds_if (dt_cmp (fun _ => od_in) (de_ix (de_v 0) (de_int)) (de_gtupE x.g_FILLED) (by rfl)) (dss_one (ds_ret (de_and (de_cmp (fun _ => (od_eq hu)) (de_b (fun _ => cd_len) x.n_len bt_len (da_cons (de_v 0) (da_nil))) (de_int) (nomark _)) (de_and (de_call c_is_fraction_T hl hr (da_cons (de_ix (de_v 0) (de_int)) (da_nil)) (hrl := len_consA (len_nilA))) (de_one (de_call c_is_fraction_T hl hr (da_cons (de_ix (de_v 0) (de_int)) (da_nil)) (hrl := len_consA (len_nilA)))))))) (dss_nil)) (dss_cons (ds_if (dt_cmp (fun _ => od_in) (de_ix (de_v 0) (de_int)) (de_gtupE x.g_SPANNED) (by rfl)) (dss_one (ds_ret (de_and (de_cmp (fun _ => (od_eq hu)) (de_b (fun _ => cd_len) x.n_len bt_len (da_cons (de_v 0) (da_nil))) (de_int) (nomark _)) (de_and (de_call c_is_at_least_T hl hr (da_cons (de_ix (de_v 0) (de_int)) (da_cons (de_int) (da_nil))) (hrl := len_consA (len_consA (len_nilA)))) (de_one (de_call c_is_at_least_T hl hr (da_cons (de_ix (de_v 0) (de_int)) (da_cons (de_int) (da_nil))) (hrl := len_consA (len_consA (len_nilA))))))))) (dss_nil)) (dss_one (ds_ret (de_and (de_cmp (fun _ => (od_eq hu)) (de_ix (de_v 0) (de_int)) (de_gstrE x.g_GAP) (nomark _)) (de_and (de_cmp (fun _ => (od_eq hu)) (de_b (fun _ => cd_len) x.n_len bt_len (da_cons (de_v 0) (da_nil))) (de_int) (nomark _)) (de_one (de_call c_is_at_least_T hl hr (da_cons (de_ix (de_v 0) (de_int)) (da_cons (de_int) (da_nil))) (hrl := len_consA (len_consA (len_nilA)))))))))))
theorem ok_check_rule_T {f : Addr} {fd : FuncData} (F : FnP K "check_rule" s_check_rule f fd) (x : Fx K mg) (c_is_rule_T : Callee P w K mg base 4 "is_rule" ["value"] d_is_rule_T) : FnOk P w K mg base (L2.CX P w) 5 f fd ["rule"] (spF K mg 1 d_check_rule_T) :=
  fn_ok F sc_check_rule fun cdv A outer s H E hr hl hp tk => by
      have hu := hr.units
      have hN := sc_check_rule.nd
      exact dss_one (ds_if (dt_not (dt_val (de_call c_is_rule_T hl hr (da_cons (de_v 0) (da_nil)) (hrl := len_consA (len_nilA))))) (dss_one (ds_raise tk (x.xr _ (by decide)))) (dss_nil))
theorem ok_is_request_T {f : Addr} {fd : FuncData} (F : FnP K "is_request" s_is_request f fd) (x : Fx K mg) (c_is_at_least_T : Callee P w K mg base 2 "is_at_least" ["value", "least"] d_is_at_least_T) : FnOk P w K mg base (L2.CX P w) 3 f fd ["value"] (spF K mg 1 d_is_request_T) :=
  fn_ok F sc_is_request fun cdv A outer s H E hr hl hp tk => by
      have hu := hr.units
      have hN := sc_is_request.nd
      exact dss_one (ds_ret (de_and (de_b (fun _ => cd_isin) x.n_isinstance bt_isinstance (da_cons (de_v 0) (da_cons (de_tyv x.n_tuple bt_tuple) (da_nil)))) (de_and (de_cmp (fun _ => (od_eq hu)) (de_b (fun _ => cd_len) x.n_len bt_len (da_cons (de_v 0) (da_nil))) (de_int) (nomark _)) (de_and (de_call c_is_at_least_T hl hr (da_cons (de_ix (de_v 0) (de_int)) (da_cons (de_int) (da_nil))) (hrl := len_consA (len_consA (len_nilA)))) (de_one (de_call c_is_at_least_T hl hr (da_cons (de_ix (de_v 0) (de_int)) (da_cons (de_int) (da_nil))) (hrl := len_consA (len_consA (len_nilA)))))))))
theorem ok_is_rising_T {f : Addr} {fd : FuncData} (F : FnP K "is_rising" s_is_rising f fd) (x : Fx K mg) : FnOk P w K mg base (L2.CX P w) 1 f fd ["rows"] (spF K mg 1 d_is_rising_T) :=
  fn_ok F sc_is_rising fun cdv A outer s H E hr hl hp tk => by
      have hu := hr.units
      have hN := sc_is_rising.nd
      exact dss_one (ds_ret (de_b (fun _ => (cd_all rfl)) x.n_all bt_all (da_cons (de_lc (own := [("row", 1), ("after", 2)]) hN (di_zipM (de_v 0) (de_slice (de_v 0) (dp_some (de_int)) dp_none) x.n_zip) (by show blkC ["rows", "row", "after"] (defScope s_is_rising) _ _ = true; decide +kernel) (by decide +kernel) (fun _ _ _ _ _ => dg_tup rfl (dgs_cons (dg_name 1 hN) (dgs_cons (dg_name 2 hN) (dgs_nil)))) (fun _ _ _ _ _ => dts_nil) (fun _ _ _ _ _ => de_cmp (fun _ => od_le) (de_ix (de_v 1) (de_int)) (de_ix (de_v 2) (de_int)) (nomark _))) (da_nil))))
theorem ok_is_row_T {f : Addr} {fd : FuncData} (F : FnP K "is_row" s_is_row f fd) (x : Fx K mg) (c_is_request_T : Callee P w K mg base 3 "is_request" ["value"] d_is_request_T) (c_is_rising_T : Callee P w K mg base 1 "is_rising" ["rows"] d_is_rising_T) : FnOk P w K mg base (L2.CX P w) 4 f fd ["value"] (spF K mg 1 d_is_row_T) :=
  fn_ok F sc_is_row fun cdv A outer s H E hr hl hp tk => by
      have hu := hr.units
      have hN := sc_is_row.nd
      exact dss_one (ds_ret (de_and (de_b (fun _ => cd_isin) x.n_isinstance bt_isinstance (da_cons (de_v 0) (da_cons (de_tyv x.n_tuple bt_tuple) (da_nil)))) (de_and (de_b (fun _ => (cd_all rfl)) x.n_all bt_all (da_cons (de_lc (own := [("request", 1)]) hN (di_seq (de_v 0)) (by show blkC ["value", "request"] (defScope s_is_row) _ _ = true; decide +kernel) (by decide +kernel) (fun _ _ _ _ _ => dg_name 1 hN) (fun _ _ _ _ _ => dts_nil) (fun _ _ _ _ _ => de_call c_is_request_T lets0 hr (da_cons (de_v 1) (da_nil)) (hrl := len_consA (len_nilA)))) (da_nil))) (de_one (de_call c_is_rising_T hl hr (da_cons (de_v 0) (da_nil)) (hrl := len_consA (len_nilA)))))))
theorem ok_check_row_T {f : Addr} {fd : FuncData} (F : FnP K "check_row" s_check_row f fd) (x : Fx K mg) (c_is_row_T : Callee P w K mg base 4 "is_row" ["value"] d_is_row_T) : FnOk P w K mg base (L2.CX P w) 5 f fd ["row"] (spF K mg 1 d_check_row_T) :=
  fn_ok F sc_check_row fun cdv A outer s H E hr hl hp tk => by
      have hu := hr.units
      have hN := sc_check_row.nd
      exact dss_one (ds_if (dt_not (dt_val (de_call c_is_row_T hl hr (da_cons (de_v 0) (da_nil)) (hrl := len_consA (len_nilA))))) (dss_one (ds_raise tk (x.xr _ (by decide)))) (dss_nil))
theorem ok_levels_T {f : Addr} {fd : FuncData} (F : FnP K "levels" s_levels f fd) (x : Fx K mg) (c_greatest_divisor_T : Callee P w K mg base 1 "greatest_divisor" ["one", "other"] d_greatest_divisor_T) : FnOk P w K mg base (L2.CX P w) 2 f fd ["rule", "row"] (spF K mg 2 d_levels_T) :=
  fn_ok F sc_levels fun cdv A outer s H E hr hl hp tk => by
      have hu := hr.units
      have hN := sc_levels.nd
      exact dss_cons (ds_asg (de_v 0) (dg_tup rfl (dgs_cons (dg_name 2 hN) (dgs_cons (dg_tup rfl (dgs_cons (dg_name 3 hN) (dgs_cons (dg_name 4 hN) (dgs_nil)))) (dgs_cons (dg_tup rfl (dgs_cons (dg_name 5 hN) (dgs_cons (dg_name 6 hN) (dgs_nil)))) (dgs_nil)))))) (dss_cons (ds_set 7 hN (de_op (fun _ => od_mul) (de_op (fun _ => od_fdiv) (de_v 4) (de_call c_greatest_divisor_T hl hr (da_cons (de_v 4) (da_cons (de_v 6) (da_nil))) (hrl := len_consA (len_consA (len_nilA))))) (de_v 6))) (dss_cons (ds_par2 8 9 hN (da_cons (de_op (fun _ => od_mul) (de_v 3) (de_op (fun _ => od_fdiv) (de_v 7) (de_v 4))) (da_cons (de_op (fun _ => od_mul) (de_v 5) (de_op (fun _ => od_fdiv) (de_v 7) (de_v 6))) (da_nil)))) (dss_cons (ds_par3 10 11 12 hN (da_cons (de_list (da_nil)) (da_cons (de_v 8) (da_cons (de_int) (da_nil))))) (dss_cons (ds_for hp (di_seq (de_v 1)) (dg_tup rfl (dgs_cons (dg_name 13 hN) (dgs_cons (dg_name 14 hN) (dgs_nil)))) (dss_cons (ds_set 11 hN (de_b (fun _ => (cd_min rfl)) x.n_min bt_min (da_cons (de_v 8) (da_cons (de_op (fun _ => od_add) (de_v 11) (de_op (fun _ => od_mul) (de_v 9) (de_op (fun _ => od_sub) (de_v 13) (de_v 12)))) (da_nil))))) (dss_cons (ds_set 15 hN (de_cmp (fun _ => od_le) (de_op (fun _ => od_mul) (de_v 14) (de_v 7)) (de_v 11) (nomark _))) (dss_cons (ds_set 10 hN (de_op (fun _ => od_add) (de_v 10) (de_list (da_cons (de_v 15) (da_nil))))) (dss_cons (ds_set 12 hN (de_v 13)) (dss_one (ds_if ((dw_or (dt_val (de_v 15)) (dw_or1 (dt_cmp (fun _ => (od_eq hu)) (de_v 2) (de_gstrE x.g_METER) (nomark _)))).pt) (dss_one (ds_set 11 hN (de_op (fun _ => od_sub) (de_v 11) (de_op (fun _ => od_mul) (de_v 14) (de_v 7))))) (dss_nil)))))))) (dss_one (ds_ret (de_tup (da_cons (de_v 10) (da_cons (de_v 11) (da_cons (de_v 7) (da_nil)))))))))))
theorem ok_counted_T {f : Addr} {fd : FuncData} (F : FnP K "counted" s_counted f fd) (x : Fx K mg) : FnOk P w K mg base (L2.CX P w) 1 f fd ["rule", "row"] (spF K mg 2 d_counted_T) :=
  fn_ok F sc_counted fun cdv A outer s H E hr hl hp tk => by
      have hu := hr.units
      have hN := sc_counted.nd
      exact dss_cons (ds_par2 2 3 hN (da_cons (de_list (da_nil)) (da_cons (de_list (da_nil)) (da_nil)))) (dss_cons (ds_for hp (di_seq (de_v 1)) (dg_tup rfl (dgs_cons (dg_name 4 hN) (dgs_cons (dg_name 5 hN) (dgs_nil)))) (dss_cons (ds_if (dt_cmp (fun _ => (od_eq hu)) (de_ix (de_v 0) (de_int)) (de_gstrE x.g_WINDOW) (nomark _)) (dss_cons (ds_set 6 hN (de_b (fun _ => (cd_sum rfl)) x.n_sum bt_sum (da_cons (de_lc (own := [("moment", 8), ("price", 9)]) hN (di_seq (de_v 3)) (by show blkC ["rule", "row", "found", "past", "time", "cost", "spent", "passed", "moment", "price"] (defScope s_counted) _ _ = true; decide +kernel) (by decide +kernel) (fun _ _ _ _ _ => dg_tup rfl (dgs_cons (dg_name 8 hN) (dgs_cons (dg_name 9 hN) (dgs_nil)))) (fun _ _ _ _ _ => dts_one (dt_cmp (fun _ => od_gt) (de_v 8) (de_op (fun _ => od_sub) (de_v 4) (de_ix (de_v 0) (de_int))) (nomark _))) (fun _ _ _ _ _ => de_v 9)) (da_nil)))) (dss_one (ds_set 7 hN (de_cmp (fun _ => od_le) (de_op (fun _ => od_add) (de_v 6) (de_v 5)) (de_ix (de_v 0) (de_int)) (nomark _))))) (dss_one (ds_if (dt_cmp (fun _ => (od_eq hu)) (de_ix (de_v 0) (de_int)) (de_gstrE x.g_FRAME) (nomark _)) (dss_cons (ds_set 6 hN (de_b (fun _ => (cd_sum rfl)) x.n_sum bt_sum (da_cons (de_lc (own := [("moment", 8), ("price", 9)]) hN (di_seq (de_v 3)) (by show blkC ["rule", "row", "found", "past", "time", "cost", "spent", "passed", "moment", "price"] (defScope s_counted) _ _ = true; decide +kernel) (by decide +kernel) (fun _ _ _ _ _ => dg_tup rfl (dgs_cons (dg_name 8 hN) (dgs_cons (dg_name 9 hN) (dgs_nil)))) (fun _ _ _ _ _ => dts_one (dt_cmp (fun _ => (od_eq hu)) (de_op (fun _ => od_fdiv) (de_v 8) (de_ix (de_v 0) (de_int))) (de_op (fun _ => od_fdiv) (de_v 4) (de_ix (de_v 0) (de_int))) (nomark _))) (fun _ _ _ _ _ => de_v 9)) (da_nil)))) (dss_one (ds_set 7 hN (de_cmp (fun _ => od_le) (de_op (fun _ => od_add) (de_v 6) (de_v 5)) (de_ix (de_v 0) (de_int)) (nomark _))))) (dss_one (ds_set 7 hN (de_or (de_cmp (fun _ => (od_eq hu)) (de_v 3) (de_list (da_nil)) (nomark _)) (de_one (de_cmp (fun _ => od_ge) (de_op (fun _ => od_sub) (de_v 4) (de_ix (de_ix (de_v 3) (de_un (fun _ => ud_neg) (de_int))) (de_int))) (de_ix (de_v 0) (de_int)) (nomark _))))))))) (dss_cons (ds_set 2 hN (de_op (fun _ => od_add) (de_v 2) (de_list (da_cons (de_v 7) (da_nil))))) (dss_one (ds_if (dt_val (de_v 7)) (dss_one (ds_set 3 hN (de_op (fun _ => od_add) (de_v 3) (de_list (da_cons (de_tup (da_cons (de_v 4) (da_cons (de_v 5) (da_nil)))) (da_nil)))))) (dss_nil)))))) (dss_one (ds_ret (de_v 2))))
theorem ok_answers_of_T {f : Addr} {fd : FuncData} (F : FnP K "answers_of" s_answers_of f fd) (x : Fx K mg) (c_levels_T : Callee P w K mg base 2 "levels" ["rule", "row"] d_levels_T) (c_counted_T : Callee P w K mg base 1 "counted" ["rule", "row"] d_counted_T) : FnOk P w K mg base (L2.CX P w) 3 f fd ["rule", "row"] (spF K mg 2 d_answers_of_T) :=
  fn_ok F sc_answers_of fun cdv A outer s H E hr hl hp tk => by
      have hu := hr.units
      have hN := sc_answers_of.nd
      exact dss_one (ds_ret (de_ite (dt_cmp (fun _ => od_in) (de_ix (de_v 0) (de_int)) (de_gtupE x.g_FILLED) (by rfl)) (de_ix (de_call c_levels_T hl hr (da_cons (de_v 0) (da_cons (de_v 1) (da_nil))) (hrl := len_consA (len_consA (len_nilA)))) (de_int)) (de_call c_counted_T hl hr (da_cons (de_v 0) (da_cons (de_v 1) (da_nil))) (hrl := len_consA (len_consA (len_nilA))))))
theorem ok_answers_T {f : Addr} {fd : FuncData} (F : FnP K "answers" s_answers f fd) (x : Fx K mg) (c_check_rule_T : Callee P w K mg base 5 "check_rule" ["rule"] d_check_rule_T) (c_check_row_T : Callee P w K mg base 5 "check_row" ["row"] d_check_row_T) (c_answers_of_T : Callee P w K mg base 3 "answers_of" ["rule", "row"] d_answers_of_T) : FnOk P w K mg base (L2.CX P w) 6 f fd ["rule", "row"] (spF K mg 2 d_answers_T) :=
  fn_ok F sc_answers fun cdv A outer s H E hr hl hp tk => by
      have hu := hr.units
      have hN := sc_answers.nd
      exact dss_cons (ds_expr (de_call c_check_rule_T hl hr (da_cons (de_v 0) (da_nil)) (hrl := len_consA (len_nilA)))) (dss_cons (ds_expr (de_call c_check_row_T hl hr (da_cons (de_v 1) (da_nil)) (hrl := len_consA (len_nilA)))) (dss_one (ds_ret (de_call c_answers_of_T hl hr (da_cons (de_v 0) (da_cons (de_v 1) (da_nil))) (hrl := len_consA (len_consA (len_nilA)))))))
theorem ok__law_kept_right_T {f : Addr} {fd : FuncData} (F : FnP K "_law_kept_right" s__law_kept_right f fd) (x : Fx K mg) (e_NotFitting : CalleeE P w K mg base "NotFitting" ["index"]) (ek_NotFitting_index : CalleeEK P w K mg base "NotFitting" ["index"] ["index"] [0]) (e_Open : CalleeE P w K mg base "Open" ["one", "other"]) (ek_Open_other_one : CalleeEK P w K mg base "Open" ["one", "other"] ["other", "one"] [1, 0]) (c__law_marks_X : CalleeX P w K mg base 1 "_law_marks" NSX d__law_marks_X) (c_answers_T : Callee P w K mg base 6 "answers" ["rule", "row"] d_answers_T) : FnOk P w K mg base (L2.CX P w) 7 f fd [] (spF K mg 0 d__law_kept_right_T) :=
  fn_exitT (fn_ok F sc__law_kept_right fun cdv A outer s H E hr hl hp tk => by
      have hu := hr.units
      have hN := sc__law_kept_right.nd
      exact dss_cons (ds_par3 0 1 2 hN (da_cons (de_cell (da_nil)) (da_cons (de_list (da_cons (de_bl) (da_nil))) (da_cons (de_list (da_nil)) (da_nil))))) (dss_cons (ds_tryX (MS := MSX) (CL := CLX) (FL := FLX) 3 hN tk x.xt (by decide) (fun W pn xe tk hp => (fun hl => dss_one (ds_raiseEK tk ek_Open_other_one hr (dk_cons (de_tup (da_cons (de_str) (da_cons (de_int) (da_nil)))) (dk_cons (de_tup (da_cons (de_str) (da_cons (de_int) (da_nil)))) (dk_nil))) (hrl := len_consA (len_consA (len_nilA))))) (lets_of tk)) (fun xx C a dd oe pn gC hx hz hf => dss_one (ds_set 0 hN (de_op (fun _ => od_addC) (de_v 0) (de_list (da_cons (de_xf 3 x.xt gC hx (by decide) hz hf) (da_cons (de_xf 3 x.xt gC hx (by decide) hz hf) (da_nil)))))))) (dss_cons (ds_tryX (MS := MSX) (CL := CLX) (FL := FLX) 3 hN tk x.xt (by decide) (fun W pn xe tk hp => (fun hl => dss_one (ds_raiseE tk e_Open hr (da_cons (de_tup (da_cons (de_str) (da_cons (de_int) (da_cons (de_int) (da_nil))))) (da_cons (de_tup (da_cons (de_str) (da_cons (de_int) (da_cons (de_int) (da_nil))))) (da_nil))))) (lets_of tk)) (fun xx C a dd oe pn gC hx hz hf => dss_one (ds_set 0 hN (de_op (fun _ => od_addC) (de_v 0) (de_list (da_cons (de_xf 3 x.xt gC hx (by decide) hz hf) (da_cons (de_xf 3 x.xt gC hx (by decide) hz hf) (da_nil)))))))) (dss_cons (ds_tryX (MS := MSX) (CL := CLX) (FL := FLX) 3 hN tk x.xt (by decide) (fun W pn xe tk hp => (fun hl => dss_one (ds_raiseEK tk ek_NotFitting_index hr (dk_cons (de_int) (dk_nil)) (hrl := len_consA (len_nilA)))) (lets_of tk)) (fun xx C a dd oe pn gC hx hz hf => dss_one (ds_expr (de_app (de_v 0) (de_xf 3 x.xt gC hx (by decide) hz hf))))) (dss_cons (ds_tryX (MS := MSX) (CL := CLX) (FL := FLX) 3 hN tk x.xt (by decide) (fun W pn xe tk hp => (fun hl => dss_one (ds_raiseE tk e_NotFitting hr (da_cons (de_int) (da_nil)))) (lets_of tk)) (fun xx C a dd oe pn gC hx hz hf => dss_one (ds_expr (de_app (de_v 0) (de_xf 3 x.xt gC hx (by decide) hz hf))))) (dss_cons (ds_tryX (MS := MSX) (CL := CLX) (FL := FLX) 3 hN tk x.xt (by decide) (fun W pn xe tk hp => (fun hl => dss_one (ds_raise tk (x.xr _ (by decide)))) (lets_of tk)) (fun xx C a dd oe pn gC hx hz hf => dss_one (ds_set 1 hN (de_callX 3 c__law_marks_X lets0 (roomH_suite hr) gC hx hz hf List.mem_cons_self)))) (dss_cons (ds_tryX (MS := MSX) (CL := CLX) (FL := FLX) 3 hN tk x.xt (by decide) (fun W pn xe tk hp => (fun hl => dss_one (ds_expr (de_call c_answers_T hl hr (da_cons (de_str) (da_cons (de_tup (da_nil)) (da_nil))) (hrl := len_consA (len_consA (len_nilA)))))) (lets_of tk)) (fun xx C a dd oe pn gC hx hz hf => dss_one (ds_set 2 hN (de_callX 3 c__law_marks_X lets0 (roomH_suite hr) gC hx hz hf List.mem_cons_self)))) (dss_cons (ds_if ((dw_or (dt_cmp (fun _ => (od_ne hu)) (de_v 0) (de_list (da_cons (de_tup (da_cons (de_str) (da_cons (de_int) (da_nil)))) (da_cons (de_tup (da_cons (de_str) (da_cons (de_int) (da_nil)))) (da_cons (de_tup (da_cons (de_str) (da_cons (de_int) (da_cons (de_int) (da_nil))))) (da_cons (de_tup (da_cons (de_str) (da_cons (de_int) (da_cons (de_int) (da_nil))))) (da_cons (de_int) (da_cons (de_int) (da_nil)))))))) (nomark _)) (dw_or1 (dt_cmp (fun _ => od_in) (de_bl) (de_v 1) (by rfl)))).pt) (dss_one (ds_ret (de_bl))) (dss_nil)) (dss_one (ds_ret (de_and (de_cmp (fun _ => (od_eq hu)) (de_count (de_v 2) (de_bl)) (de_int) (nomark _)) (de_one (de_ix (de_v 2) (de_int))))))))))))))
theorem ok_law_T {f : Addr} {fd : FuncData} (F : FnP K "law" s_law f fd) (x : Fx K mg) (c__law_way_right_T : Callee P w K mg base 5 "_law_way_right" ["_law_way", "_law_size"] d__law_way_right_T) (c__law_kept_right_T : Callee P w K mg base 7 "_law_kept_right" [] d__law_kept_right_T) : FnOk P w K mg base (L2.CX P w) 8 f fd ["_law_script"] (spF K mg 1 d_law_T) :=
  fn_ok F sc_law fun cdv A outer s H E hr hl hp tk => by
      have hu := hr.units
      have hN := sc_law.nd
      exact dss_cons (ds_set 1 hN (de_int)) (dss_cons (ds_set 2 hN (de_ite (dt_cmp (fun _ => (od_ne hu)) (de_v 0) (de_list (da_nil)) (nomark _)) (de_op (fun _ => od_mod) (de_ty (fun _ => cd_int) x.n_int bt_int (da_cons (de_ix (de_v 0) (de_int)) (da_nil))) (de_v 1)) (de_int))) (dss_cons (ds_if ((dw_or (dt_not (dt_val (de_call c__law_way_right_T hl hr (da_cons (de_v 2) (da_cons (de_v 1) (da_nil))) (hrl := len_consA (len_consA (len_nilA)))))) (dw_or1 (dt_not (dt_val (de_call0 c__law_kept_right_T hl hr))))).pt) (dss_one (ds_ret (de_bl))) (dss_nil)) (dss_one (ds_ret (de_cmp (fun _ => (od_eq hu)) (de_lc (own := [("_law_way", 3)]) hN (di_range1 (de_v 1) x.n_range) (by show blkC ["_law_script", "_law_size", "_law_spot", "_law_way"] (defScope s_law) _ _ = true; decide +kernel) (by decide +kernel) (fun _ _ _ _ _ => dg_name 3 hN) (fun _ _ _ _ _ => dts_one (dt_not (dt_val (de_call c__law_way_right_T lets0 hr (da_cons (de_v 3) (da_cons (de_v 1) (da_nil))) (hrl := len_consA (len_consA (len_nilA))))))) (fun _ _ _ _ _ => de_v 3)) (de_list (da_nil)) (nomark _))))))
end
end LW

namespace LW
open PySem PySem.Spec PyProof.Rows L2 LH
theorem facts {P : Program} {w : World} {K : PySem.W.Frag} {h : Heap} {mg : Str → Option Value} {f : Addr} (X : K.In h) (G : h.Ns mainGlobals mg) (hfa : mg ("law" : Str) = some (.ref f)) (c : He.SaysD fa fn K) (ce : ex K = true) :
    ∃ fd : FuncData, (∀ (s : Shared) (v : Value), BindsTo s fd ⟨[v], []⟩ [("_law_script", v)]) ∧ ∀ base : Heap, K.In base → base.Ns mainGlobals mg → FnOk P w K mg base (L2.CX P w) 8 f fd ["_law_script"] (spF K mg 1 d_law_T) := by
  have ce0 := ce
  unfold ex at ce0
  simp only [Bool.and_eq_true] at ce0
  have t_FILLED := ce0.1.1.1.1.1.1
  have t_SPANNED := ce0.1.1.1.1.1.2
  have t__xt := ce0.1.1.1.1.2
  have t__xr := ce0.1.1.1.2
  have t__lim := ce0.1.1.2
  have t__xc_NotFitting := ce0.1.2
  have t__xc_Open := ce0.2
  have x : Fx K mg := ⟨He.free_ok X G (c.fact 20 (f := .free "ValueError") rfl),
    He.free_ok X G (c.fact 21 (f := .free "all") rfl),
    He.free_ok X G (c.fact 22 (f := .free "bool") rfl),
    He.free_ok X G (c.fact 23 (f := .free "int") rfl),
    He.free_ok X G (c.fact 24 (f := .free "isinstance") rfl),
    He.free_ok X G (c.fact 25 (f := .free "len") rfl),
    He.free_ok X G (c.fact 26 (f := .free "min") rfl),
    He.free_ok X G (c.fact 27 (f := .free "range") rfl),
    He.free_ok X G (c.fact 28 (f := .free "str") rfl),
    He.free_ok X G (c.fact 29 (f := .free "sum") rfl),
    He.free_ok X G (c.fact 30 (f := .free "tuple") rfl),
    He.free_ok X G (c.fact 31 (f := .free "zip") rfl),
    He.str_ok X G (c.fact 32 (f := .str "FRAME" "frame") rfl),
    He.str_ok X G (c.fact 33 (f := .str "GAP" "gap") rfl),
    He.str_ok X G (c.fact 34 (f := .str "METER" "meter") rfl),
    He.str_ok X G (c.fact 35 (f := .str "WINDOW" "window") rfl),
    ⟨_, He.glo_ok X G (c.fact 36 (f := .glo "FILLED") rfl), fun H => He.tupB_ok (vs := [.str "bucket", .str "meter"]) t_FILLED H⟩,
    ⟨_, He.glo_ok X G (c.fact 37 (f := .glo "SPANNED") rfl), fun H => He.tupB_ok (vs := [.str "window", .str "frame"]) t_SPANNED H⟩,
    xt_ok X G t__xt,
    xr_ok X G t__xr⟩
  obtain ⟨fd__law_raised_more, F__law_raised_more⟩ := c.def_ 0 (d := D__law_raised_more) rfl
  have m__law_raised_more := He.glo_ok X G (c.fact 0 (f := .glo "_law_raised_more") rfl)
  obtain ⟨fd__law_raised_one, F__law_raised_one⟩ := c.def_ 1 (d := D__law_raised_one) rfl
  have m__law_raised_one := He.glo_ok X G (c.fact 1 (f := .glo "_law_raised_one") rfl)
  obtain ⟨fd__law_marks, F__law_marks⟩ := c.def_ 2 (d := D__law_marks) rfl
  have m__law_marks := He.glo_ok X G (c.fact 2 (f := .glo "_law_marks") rfl)
  obtain ⟨fd__law_way_right, F__law_way_right⟩ := c.def_ 3 (d := D__law_way_right) rfl
  have m__law_way_right := He.glo_ok X G (c.fact 3 (f := .glo "_law_way_right") rfl)
  obtain ⟨fd_is_integer, F_is_integer⟩ := c.def_ 4 (d := D_is_integer) rfl
  have m_is_integer := He.glo_ok X G (c.fact 4 (f := .glo "is_integer") rfl)
  obtain ⟨fd_is_at_least, F_is_at_least⟩ := c.def_ 5 (d := D_is_at_least) rfl
  have m_is_at_least := He.glo_ok X G (c.fact 5 (f := .glo "is_at_least") rfl)
  obtain ⟨fd_greatest_divisor, F_greatest_divisor⟩ := c.def_ 6 (d := D_greatest_divisor) rfl
  have m_greatest_divisor := He.glo_ok X G (c.fact 6 (f := .glo "greatest_divisor") rfl)
  obtain ⟨fd_is_fraction, F_is_fraction⟩ := c.def_ 7 (d := D_is_fraction) rfl
  have m_is_fraction := He.glo_ok X G (c.fact 7 (f := .glo "is_fraction") rfl)
  obtain ⟨fd_is_rule, F_is_rule⟩ := c.def_ 8 (d := D_is_rule) rfl
  have m_is_rule := He.glo_ok X G (c.fact 8 (f := .glo "is_rule") rfl)
  obtain ⟨fd_check_rule, F_check_rule⟩ := c.def_ 9 (d := D_check_rule) rfl
  have m_check_rule := He.glo_ok X G (c.fact 9 (f := .glo "check_rule") rfl)
  obtain ⟨fd_is_request, F_is_request⟩ := c.def_ 10 (d := D_is_request) rfl
  have m_is_request := He.glo_ok X G (c.fact 10 (f := .glo "is_request") rfl)
  obtain ⟨fd_is_rising, F_is_rising⟩ := c.def_ 11 (d := D_is_rising) rfl
  have m_is_rising := He.glo_ok X G (c.fact 11 (f := .glo "is_rising") rfl)
  obtain ⟨fd_is_row, F_is_row⟩ := c.def_ 12 (d := D_is_row) rfl
  have m_is_row := He.glo_ok X G (c.fact 12 (f := .glo "is_row") rfl)
  obtain ⟨fd_check_row, F_check_row⟩ := c.def_ 13 (d := D_check_row) rfl
  have m_check_row := He.glo_ok X G (c.fact 13 (f := .glo "check_row") rfl)
  obtain ⟨fd_levels, F_levels⟩ := c.def_ 14 (d := D_levels) rfl
  have m_levels := He.glo_ok X G (c.fact 14 (f := .glo "levels") rfl)
  obtain ⟨fd_counted, F_counted⟩ := c.def_ 15 (d := D_counted) rfl
  have m_counted := He.glo_ok X G (c.fact 15 (f := .glo "counted") rfl)
  obtain ⟨fd_answers_of, F_answers_of⟩ := c.def_ 16 (d := D_answers_of) rfl
  have m_answers_of := He.glo_ok X G (c.fact 16 (f := .glo "answers_of") rfl)
  obtain ⟨fd_answers, F_answers⟩ := c.def_ 17 (d := D_answers) rfl
  have m_answers := He.glo_ok X G (c.fact 17 (f := .glo "answers") rfl)
  obtain ⟨fd__law_kept_right, F__law_kept_right⟩ := c.def_ 18 (d := D__law_kept_right) rfl
  have m__law_kept_right := He.glo_ok X G (c.fact 18 (f := .glo "_law_kept_right") rfl)
  obtain ⟨fd_law, F_law⟩ := c.def_ 19 (d := D_law) rfl
  have m_law := He.glo_ok X G (c.fact 19 (f := .glo "law") rfl)
  obtain ⟨fd_NotFitting___init__, F_NotFitting___init__⟩ := c.def_ 20 (d := D_NotFitting___init__) rfl
  obtain ⟨fd_Open___init__, F_Open___init__⟩ := c.def_ 21 (d := D_Open___init__) rfl
  have E_NotFitting := xcl_ok X G t__xc_NotFitting
  have E_Open := xcl_ok X G t__xc_Open
  have e := hfa.symm.trans m_law
  cases e
  have b := FunD.bindsA (ps := ["_law_script"]) F_law (fun _ _ _ _ _ _ us hl => match us, hl with | [_], _ => rfl)
  refine ⟨fd_law, fun s v => b s [v] rfl, fun base _ _ => ?_⟩
  have J_NotFitting : InitX P w K mg base 1 "NotFitting" ["index"] (He.ga K "NotFitting") (He.ma K (He.ga K "NotFitting") "__init__") fd_NotFitting___init__ := ⟨E_NotFitting.1, E_NotFitting.2.1, E_NotFitting.2.2.1, E_NotFitting.2.2.2.1, oi_NotFitting F_NotFitting___init__ (lim_ok X G t__lim) E_NotFitting.2.1 (E_NotFitting.2.2.2.2 _ (by decide)), FunD.bindsN F_NotFitting___init__ (fun _ _ _ _ _ _ us hl => match us, hl with | [_, _], _ => rfl), by decide⟩
  have e_NotFitting : CalleeE P w K mg base "NotFitting" ["index"] := ⟨_, _, _, J_NotFitting⟩
  have ek_NotFitting_index : CalleeEK P w K mg base "NotFitting" ["index"] ["index"] [0] := ⟨_, _, _, J_NotFitting, kw_of F_NotFitting___init__ (fun _ _ _ _ _ _ us ws h1 h2 => match us, ws, h1, h2 with | [_], [_], _, _ => rfl)⟩
  have J_Open : InitX P w K mg base 1 "Open" ["one", "other"] (He.ga K "Open") (He.ma K (He.ga K "Open") "__init__") fd_Open___init__ := ⟨E_Open.1, E_Open.2.1, E_Open.2.2.1, E_Open.2.2.2.1, oi_Open F_Open___init__ (lim_ok X G t__lim) E_Open.2.1 (E_Open.2.2.2.2 _ (by decide)) (E_Open.2.2.2.2 _ (by decide)), FunD.bindsN F_Open___init__ (fun _ _ _ _ _ _ us hl => match us, hl with | [_, _, _], _ => rfl), by decide⟩
  have e_Open : CalleeE P w K mg base "Open" ["one", "other"] := ⟨_, _, _, J_Open⟩
  have ek_Open_other_one : CalleeEK P w K mg base "Open" ["one", "other"] ["other", "one"] [1, 0] := ⟨_, _, _, J_Open, kw_of F_Open___init__ (fun _ _ _ _ _ _ us ws h1 h2 => match us, ws, h1, h2 with | [_], [_, _], _, _ => rfl)⟩
  have c__law_raised_more_T : Callee P w K mg base 3 "_law_raised_more" ["_law_way"] d__law_raised_more_T := callee_of F__law_raised_more (ok__law_raised_more_T (P := P) (w := w) (base := base) F__law_raised_more x e_NotFitting e_Open) m__law_raised_more (fun _ _ _ _ _ _ us hl => match us, hl with | [_], _ => rfl)
  have c__law_raised_one_T : Callee P w K mg base 4 "_law_raised_one" ["_law_way"] d__law_raised_one_T := callee_of F__law_raised_one (ok__law_raised_one_T (P := P) (w := w) (base := base) F__law_raised_one x c__law_raised_more_T) m__law_raised_one (fun _ _ _ _ _ _ us hl => match us, hl with | [_], _ => rfl)
  have c__law_marks_X : CalleeX P w K mg base 1 "_law_marks" NSX d__law_marks_X := calleeX_of F__law_marks (ok__law_marks_X (P := P) (w := w) (base := base) F__law_marks x) m__law_marks (fun _ _ _ _ _ _ us hl => match us, hl with | [_], _ => rfl)
  have c__law_way_right_T : Callee P w K mg base 5 "_law_way_right" ["_law_way", "_law_size"] d__law_way_right_T := callee_of F__law_way_right (ok__law_way_right_T (P := P) (w := w) (base := base) F__law_way_right x c__law_raised_one_T c__law_marks_X) m__law_way_right (fun _ _ _ _ _ _ us hl => match us, hl with | [_, _], _ => rfl)
  have c_is_integer_T : Callee P w K mg base 1 "is_integer" ["value"] d_is_integer_T := callee_of F_is_integer (ok_is_integer_T (P := P) (w := w) (base := base) F_is_integer x) m_is_integer (fun _ _ _ _ _ _ us hl => match us, hl with | [_], _ => rfl)
  have c_is_at_least_T : Callee P w K mg base 2 "is_at_least" ["value", "least"] d_is_at_least_T := callee_of F_is_at_least (ok_is_at_least_T (P := P) (w := w) (base := base) F_is_at_least x c_is_integer_T) m_is_at_least (fun _ _ _ _ _ _ us hl => match us, hl with | [_, _], _ => rfl)
  have c_greatest_divisor_T : Callee P w K mg base 1 "greatest_divisor" ["one", "other"] d_greatest_divisor_T := callee_of F_greatest_divisor (ok_greatest_divisor_T (P := P) (w := w) (base := base) F_greatest_divisor x) m_greatest_divisor (fun _ _ _ _ _ _ us hl => match us, hl with | [_, _], _ => rfl)
  have c_is_fraction_T : Callee P w K mg base 3 "is_fraction" ["value"] d_is_fraction_T := callee_of F_is_fraction (ok_is_fraction_T (P := P) (w := w) (base := base) F_is_fraction x c_is_at_least_T c_greatest_divisor_T) m_is_fraction (fun _ _ _ _ _ _ us hl => match us, hl with | [_], _ => rfl)
  have c_is_rule_T : Callee P w K mg base 4 "is_rule" ["value"] d_is_rule_T := callee_of F_is_rule (ok_is_rule_T (P := P) (w := w) (base := base) F_is_rule x c_is_fraction_T c_is_at_least_T) m_is_rule (fun _ _ _ _ _ _ us hl => match us, hl with | [_], _ => rfl)
  have c_check_rule_T : Callee P w K mg base 5 "check_rule" ["rule"] d_check_rule_T := callee_of F_check_rule (ok_check_rule_T (P := P) (w := w) (base := base) F_check_rule x c_is_rule_T) m_check_rule (fun _ _ _ _ _ _ us hl => match us, hl with | [_], _ => rfl)
  have c_is_request_T : Callee P w K mg base 3 "is_request" ["value"] d_is_request_T := callee_of F_is_request (ok_is_request_T (P := P) (w := w) (base := base) F_is_request x c_is_at_least_T) m_is_request (fun _ _ _ _ _ _ us hl => match us, hl with | [_], _ => rfl)
  have c_is_rising_T : Callee P w K mg base 1 "is_rising" ["rows"] d_is_rising_T := callee_of F_is_rising (ok_is_rising_T (P := P) (w := w) (base := base) F_is_rising x) m_is_rising (fun _ _ _ _ _ _ us hl => match us, hl with | [_], _ => rfl)
  have c_is_row_T : Callee P w K mg base 4 "is_row" ["value"] d_is_row_T := callee_of F_is_row (ok_is_row_T (P := P) (w := w) (base := base) F_is_row x c_is_request_T c_is_rising_T) m_is_row (fun _ _ _ _ _ _ us hl => match us, hl with | [_], _ => rfl)
  have c_check_row_T : Callee P w K mg base 5 "check_row" ["row"] d_check_row_T := callee_of F_check_row (ok_check_row_T (P := P) (w := w) (base := base) F_check_row x c_is_row_T) m_check_row (fun _ _ _ _ _ _ us hl => match us, hl with | [_], _ => rfl)
  have c_levels_T : Callee P w K mg base 2 "levels" ["rule", "row"] d_levels_T := callee_of F_levels (ok_levels_T (P := P) (w := w) (base := base) F_levels x c_greatest_divisor_T) m_levels (fun _ _ _ _ _ _ us hl => match us, hl with | [_, _], _ => rfl)
  have c_counted_T : Callee P w K mg base 1 "counted" ["rule", "row"] d_counted_T := callee_of F_counted (ok_counted_T (P := P) (w := w) (base := base) F_counted x) m_counted (fun _ _ _ _ _ _ us hl => match us, hl with | [_, _], _ => rfl)
  have c_answers_of_T : Callee P w K mg base 3 "answers_of" ["rule", "row"] d_answers_of_T := callee_of F_answers_of (ok_answers_of_T (P := P) (w := w) (base := base) F_answers_of x c_levels_T c_counted_T) m_answers_of (fun _ _ _ _ _ _ us hl => match us, hl with | [_, _], _ => rfl)
  have c_answers_T : Callee P w K mg base 6 "answers" ["rule", "row"] d_answers_T := callee_of F_answers (ok_answers_T (P := P) (w := w) (base := base) F_answers x c_check_rule_T c_check_row_T c_answers_of_T) m_answers (fun _ _ _ _ _ _ us hl => match us, hl with | [_, _], _ => rfl)
  have c__law_kept_right_T : Callee P w K mg base 7 "_law_kept_right" [] d__law_kept_right_T := callee_of F__law_kept_right (ok__law_kept_right_T (P := P) (w := w) (base := base) F__law_kept_right x e_NotFitting ek_NotFitting_index e_Open ek_Open_other_one c__law_marks_X c_answers_T) m__law_kept_right (fun _ _ _ _ _ _ us hl => match us, hl with | [], _ => rfl)
  exact ok_law_T (P := P) (w := w) (base := base) F_law x c__law_way_right_T c__law_kept_right_T
end LW
namespace LW
open PySem PySem.W PySem.Calls PyProof.Rows L2 LH
theorem holds_of (law : ∀ ns : List Int, ns.length ≤ 63 → ∃ S, d_law_T [.ro (ns.map .int)] [] = .ok (.bl true) S) : PySem.Challenge.rw_limiterheard_k00_error_classes.Holds := by
  w_on; o_law
  refine HandSHeadRun.head_any (r := OpenLaw.row PySem.Challenge.rw_limiterheard_k00_error_classes) (q := view (OpenLaw.row PySem.Challenge.rw_limiterheard_k00_error_classes).prog [56]) (H := hk) (ob := ob) (M := 40000) (loose := loose) (d := HandSHeadRun.topDef (OpenLaw.row PySem.Challenge.rw_limiterheard_k00_error_classes).prog 56) (kwd := []) ob_eq
    (by kernel_rfl) (fun s => by kernel_rfl) run (by kernel_rfl) (by kernel_rfl) (by kernel_rfl) (by rfl) (by first | assumption | decide +kernel) (by decide +kernel) ⟨rfl, rfl, rfl, rfl, rfl, by decide +kernel⟩ ?hw ?hc
  case hw => w_witness2
  case hc =>
    refine LH.walk_own (l := PySem.Challenge.rw_limiterheard_k00_error_classes) (n := 63) (k := 8) (x := "_law_script") (f := d_law_T) rfl (by decide) (by kernel_rfl) ⟨rfl, by decide, by decide⟩ ?F law
    intro w mg fa h Y G hmg0
    obtain ⟨K, KX, c, ce⟩ := Y
    have hmg : mg ("law" : PySem.Str) = some (.ref fa) := by
      have e : (HandSHeadRun.topDef (OpenLaw.row PySem.Challenge.rw_limiterheard_k00_error_classes).prog 56).name = ("law" : PySem.Str) := by kernel_rfl
      rw [← e]
      exact hmg0
    obtain ⟨fd, hb, hF⟩ := facts (P := (PySem.Challenge.rw_limiterheard_k00_error_classes).prog) (w := w) KX G hmg c ce
    exact ⟨K, fd, KX, hb, hF⟩

end LW

/-! PA: the combinators as rewriting rules; loops by invariants. -/
namespace LH
open PySem PySem.Spec PyProof.Rows L2
section
variable {α β : Type} {env e1 : PEnv} {S S1 : Sto} {a b : ExprD} {t u : TestD} {r : ArgsD} {p q : StmtD} {d x y : PV} {xs ys : List PV}
@[simp] theorem bind_ok (a : α) (S : Sto) (g : α → Sto → Res β) : (Res.ok a S).bind g = g a S := (rfl)
@[simp] theorem vE_s (i : Nat) : vE i env S = (match env[i]? with | some (some d) => .ok d S | _ => .stuck) := (rfl)
@[simp] theorem cE_s : cE d env S = .ok d S := (rfl)
def binK (g : PV → PV → Sto → Res PV) (b : ExprD) (env : PEnv) (x : PV) (S : Sto) : Res PV := (b env S).bind (g x)
@[simp] theorem binK_s (g : PV → PV → Sto → Res PV) : binK g b env x S = (b env S).bind (g x) := (rfl)
@[simp] theorem binE_s (g : PV → PV → Sto → Res PV) : binE g a b env S = (a env S).bind (binK g b env) := (rfl)
@[simp] theorem unE_s (g : PV → Sto → Res PV) : unE g a env S = (a env S).bind g := (rfl)
@[simp] theorem bE_s (g : List PV → Sto → Res PV) : bE g r env S = (r env S).bind g := (rfl)
@[simp] theorem callE_s (f : FnDen) : callE f r env S = (r env S).bind f := (rfl)
def kwK (f : FnDen) (pm : List Nat) (ka : ArgsD) (env : PEnv) (xs : List PV) (S : Sto) : Res PV := (ka env S).bind fun zs S2 => f (permG pm xs zs) S2
def kwK2 (f : FnDen) (pm : List Nat) (xs : List PV) (zs : List PV) (S : Sto) : Res PV := f (permG pm xs zs) S
@[simp] theorem callKE_s (f : FnDen) (pm : List Nat) (ka : ArgsD) : callKE f pm r ka env S = (r env S).bind (kwK f pm ka env) := (rfl)
@[simp] theorem kwK_s (f : FnDen) (pm : List Nat) (ka : ArgsD) : kwK f pm ka env xs S = (ka env S).bind (kwK2 f pm xs) := (rfl)
@[simp] theorem kwK2_s (f : FnDen) (pm : List Nat) : kwK2 f pm xs ys S = f (permG pm xs ys) S := (rfl)
@[simp] theorem nilA_s : nilA env S = .ok [] S := (rfl)
def consK (r : ArgsD) (env : PEnv) (x : PV) (S : Sto) : Res (List PV) := (r env S).bind fun xs S2 => .ok (x :: xs) S2
def consK2 (x : PV) (xs : List PV) (S : Sto) : Res (List PV) := .ok (x :: xs) S
@[simp] theorem consA_s : consA a r env S = (a env S).bind (consK r env) := (rfl)
@[simp] theorem consK_s : consK r env x S = (r env S).bind (consK2 x) := (rfl)
@[simp] theorem consK2_s : consK2 x xs S = .ok (x :: xs) S := (rfl)
def listK (xs : List PV) (S : Sto) : Res PV := if xs.length ≤ sizeLine then .ok (.lst xs) S else .stuck
def tupK (xs : List PV) (S : Sto) : Res PV := if xs.length ≤ sizeLine then .ok (.tup xs) S else .stuck
def cellK (xs : List PV) (S : Sto) : Res PV := if xs.length ≤ sizeLine ∧ bels 0 xs = true then .ok (.cell S.length) (S ++ [.lst xs]) else .stuck
@[simp] theorem listE_s : listE r env S = (r env S).bind listK := (rfl)
@[simp] theorem tupE_s : tupE r env S = (r env S).bind tupK := (rfl)
@[simp] theorem cellE_s : cellE r env S = (r env S).bind cellK := (rfl)
theorem listK_ok (h : xs.length ≤ 1000) : listK xs S = .ok (.lst xs) S := if_pos (by rw [sizeLine_eq]; omega)
theorem tupK_ok (h : xs.length ≤ 1000) : tupK xs S = .ok (.tup xs) S := if_pos (by rw [sizeLine_eq]; omega)
theorem cellK_ok (h : xs.length ≤ 1000) (hb : bels 0 xs = true) : cellK xs S = .ok (.cell S.length) (S ++ [.lst xs]) := if_pos ⟨by rw [sizeLine_eq]; omega, hb⟩
@[simp] theorem cellK0 : cellK [] S = .ok (.cell S.length) (S ++ [.lst []]) := cellK_ok (by simp) rfl
@[simp] theorem listK0 : listK [] S = .ok (.lst []) S := listK_ok (by simp)
@[simp] theorem listK1 {a : PV} : listK [a] S = .ok (.lst [a]) S := listK_ok (by simp)
@[simp] theorem listK2 {a b : PV} : listK [a, b] S = .ok (.lst [a, b]) S := listK_ok (by simp)
@[simp] theorem listK3 {a b c : PV} : listK [a, b, c] S = .ok (.lst [a, b, c]) S := listK_ok (by simp)
@[simp] theorem listK4 {a b c d : PV} : listK [a, b, c, d] S = .ok (.lst [a, b, c, d]) S := listK_ok (by simp)
@[simp] theorem listK5 {a b c d e : PV} : listK [a, b, c, d, e] S = .ok (.lst [a, b, c, d, e]) S := listK_ok (by simp)
@[simp] theorem tupK0 : tupK [] S = .ok (.tup []) S := tupK_ok (by simp)
@[simp] theorem tupK1 {a : PV} : tupK [a] S = .ok (.tup [a]) S := tupK_ok (by simp)
@[simp] theorem tupK2 {a b : PV} : tupK [a, b] S = .ok (.tup [a, b]) S := tupK_ok (by simp)
@[simp] theorem tupK3 {a b c : PV} : tupK [a, b, c] S = .ok (.tup [a, b, c]) S := tupK_ok (by simp)
@[simp] theorem tupK4 {a b c d : PV} : tupK [a, b, c, d] S = .ok (.tup [a, b, c, d]) S := tupK_ok (by simp)
@[simp] theorem tupK5 {a b c d e : PV} : tupK [a, b, c, d, e] S = .ok (.tup [a, b, c, d, e]) S := tupK_ok (by simp)
@[simp] theorem boolOf_s (b : Bool) : boolOf (.bl b) S = .ok b S := (rfl)
@[simp] theorem tstE_s : tstE a env S = (a env S).bind boolOf := (rfl)
def notK (b : Bool) (S : Sto) : Res Bool := .ok (!b) S
@[simp] theorem notK_s (b : Bool) : notK b S = .ok (!b) S := (rfl)
@[simp] theorem notT_s : notT t env S = (t env S).bind notK := (rfl)
def andK (u : TestD) (env : PEnv) (c : Bool) (S : Sto) : Res Bool := if c = true then u env S else .ok false S
def orK (u : TestD) (env : PEnv) (c : Bool) (S : Sto) : Res Bool := if c = true then .ok true S else u env S
@[simp] theorem andK_s (c : Bool) : andK u env c S = if c = true then u env S else .ok false S := (rfl)
@[simp] theorem orK_s (c : Bool) : orK u env c S = if c = true then .ok true S else u env S := (rfl)
@[simp] theorem andT_s : andT t u env S = (t env S).bind (andK u env) := (rfl)
@[simp] theorem orT_s : orT t u env S = (t env S).bind (orK u env) := (rfl)
def andEK2 (b : ExprD) (env : PEnv) (c : Bool) (S : Sto) : Res PV := if c = true then b env S else .ok (.bl false) S
def orEK2 (b : ExprD) (env : PEnv) (c : Bool) (S : Sto) : Res PV := if c = true then .ok (.bl true) S else b env S
def andEK (b : ExprD) (env : PEnv) (x : PV) (S : Sto) : Res PV := (boolOf x S).bind (andEK2 b env)
def orEK (b : ExprD) (env : PEnv) (x : PV) (S : Sto) : Res PV := (boolOf x S).bind (orEK2 b env)
@[simp] theorem andEK2_s (c : Bool) : andEK2 b env c S = if c = true then b env S else .ok (.bl false) S := (rfl)
@[simp] theorem orEK2_s (c : Bool) : orEK2 b env c S = if c = true then .ok (.bl true) S else b env S := (rfl)
@[simp] theorem andEK_s : andEK b env x S = (boolOf x S).bind (andEK2 b env) := (rfl)
@[simp] theorem orEK_s : orEK b env x S = (boolOf x S).bind (orEK2 b env) := (rfl)
@[simp] theorem andE_s : andE a b env S = (a env S).bind (andEK b env) := (rfl)
@[simp] theorem orE_s : orE a b env S = (a env S).bind (orEK b env) := (rfl)
def notEK (x : PV) (S : Sto) : Res PV := (boolOf x S).bind fun c S2 => .ok (.bl (!c)) S2
@[simp] theorem notEK_s (c : Bool) : notEK (.bl c) S = .ok (.bl (!c)) S := (rfl)
@[simp] theorem notE_s : notE a env S = (a env S).bind notEK := (rfl)
def iteK (a b : ExprD) (env : PEnv) (c : Bool) (S : Sto) : Res PV := if c = true then a env S else b env S
@[simp] theorem iteK_s (c : Bool) : iteK a b env c S = if c = true then a env S else b env S := (rfl)
@[simp] theorem iteE_s : iteE t a b env S = (t env S).bind (iteK a b env) := (rfl)
/-! statements -/
@[simp] theorem skipS_s : skipS env S = .ok (.nx env) S := (rfl)
@[simp] theorem brkS_s : brkS env S = .ok (.bk env) S := (rfl)
@[simp] theorem cntS_s : cntS env S = .ok (.ct env) S := (rfl)
@[simp] theorem runE_s (g : PV → Sto → Res Flow) : runE (.ok d S) env g = g d S := (rfl)
@[simp] theorem runT_s (c : Bool) (g : Bool → Sto → Res Flow) : runT (.ok c S) env g = g c S := (rfl)
@[simp] theorem runA_s (g : List PV → Sto → Res Flow) : runA (.ok xs S) env g = g xs S := (rfl)
@[simp] theorem runI_s (z : Option Nat × List PV) (g : Option Nat × List PV → Sto → Res Flow) : runI (.ok z S) env g = g z S := (rfl)
def retK (d : PV) (S : Sto) : Res Flow := .ok (.rt d) S
@[simp] theorem retK_s : retK d S = .ok (.rt d) S := (rfl)
@[simp] theorem retS_s : retS a env S = runE (a env S) env retK := (rfl)
def exprK (env : PEnv) (d : PV) (S : Sto) : Res Flow := .ok (.nx env) S
@[simp] theorem exprK_s : exprK env d S = .ok (.nx env) S := (rfl)
@[simp] theorem exprS_s : exprS a env S = runE (a env S) env (exprK env) := (rfl)
def asgK (t : Tg) (env : PEnv) (d : PV) (S : Sto) : Res Flow := match t.bind S d env with
  | some env' => .ok (.nx env') S
  | none => .stuck
@[simp] theorem asgS_s (t : Tg) : asgS t a env S = runE (a env S) env (asgK t env) := (rfl)
@[simp] theorem asgK_nm (i : Nat) : asgK (.nm i) env d S = .ok (.nx (env.set i (some d))) S := by simp [asgK, Tg.bind]
@[simp] theorem asgK_tp (ts : List Tg) : asgK (.tp ts) env d S = (match Tg.bind S (.tp ts) d env with | some env' => .ok (.nx env') S | none => .stuck) := (rfl)
@[simp] theorem bind_nm (i : Nat) : Tg.bind S (.nm i) d env = some (env.set i (some d)) := by simp [Tg.bind]
@[simp] theorem bind_tup (ts : List Tg) : Tg.bind S (.tp ts) (.tup xs) env = Tg.binds S ts xs env := by simp [Tg.bind]
@[simp] theorem bind_lst (ts : List Tg) : Tg.bind S (.tp ts) (.lst xs) env = Tg.binds S ts xs env := by simp [Tg.bind]
@[simp] theorem binds_nil : Tg.binds S [] [] env = some env := by simp [Tg.binds]
@[simp] theorem binds_cons (t : Tg) (ts : List Tg) : Tg.binds S (t :: ts) (d :: xs) env = (Tg.bind S t d env).bind fun e => Tg.binds S ts xs e := by simp [Tg.binds]
def par2K (i j : Nat) (env : PEnv) (ds : List PV) (S : Sto) : Res Flow := match ds with
  | [a, b] => .ok (.nx ((env.set i (some a)).set j (some b))) S
  | _ => .stuck
def par3K (i j l : Nat) (env : PEnv) (ds : List PV) (S : Sto) : Res Flow := match ds with
  | [a, b, c] => .ok (.nx (((env.set i (some a)).set j (some b)).set l (some c))) S
  | _ => .stuck
@[simp] theorem par2S_s (i j : Nat) : par2S i j r env S = runA (r env S) env (par2K i j env) := (rfl)
@[simp] theorem par3S_s (i j l : Nat) : par3S i j l r env S = runA (r env S) env (par3K i j l env) := (rfl)
@[simp] theorem par2K_s (i j : Nat) {a b : PV} : par2K i j env [a, b] S = .ok (.nx ((env.set i (some a)).set j (some b))) S := (rfl)
@[simp] theorem par3K_s (i j l : Nat) {a b c : PV} : par3K i j l env [a, b, c] S = .ok (.nx (((env.set i (some a)).set j (some b)).set l (some c))) S := (rfl)
def seqK (q : StmtD) : Res Flow → Res Flow
  | .ok (.nx e) S => q e S
  | z => z
@[simp] theorem seqK_nx {e : PEnv} : seqK q (.ok (.nx e) S) = q e S := (rfl)
@[simp] theorem seqK_rt : seqK q (.ok (.rt d) S) = .ok (.rt d) S := (rfl)
@[simp] theorem seqK_bk {e : PEnv} : seqK q (.ok (.bk e) S) = .ok (.bk e) S := (rfl)
@[simp] theorem seqK_ct {e : PEnv} : seqK q (.ok (.ct e) S) = .ok (.ct e) S := (rfl)
@[simp] theorem seqS_s : seqS p q env S = seqK q (p env S) := (rfl)
def ifK (p q : StmtD) (env : PEnv) (c : Bool) (S : Sto) : Res Flow := if c = true then p env S else q env S
@[simp] theorem ifK_s (c : Bool) : ifK p q env c S = if c = true then p env S else q env S := (rfl)
@[simp] theorem ifS_s : ifS t p q env S = runT (t env S) env (ifK p q env) := (rfl)
def fnK : Res Flow → Res PV
  | .ok (.nx _) S1 => .ok .non S1
  | .ok (.rt d) S1 => .ok d S1
  | .ok (.ex x _) S1 => .exc x S1
  | _ => .stuck
@[simp] theorem fnK_nx {e : PEnv} : fnK (.ok (.nx e) S) = .ok .non S := (rfl)
@[simp] theorem fnK_rt : fnK (.ok (.rt d) S) = .ok d S := (rfl)
@[simp] theorem fnD1 {nn : Nat} {a : PV} : fnD 1 nn p [a] S = fnK (p (some a :: List.replicate (nn - 1) none) S) := (rfl)
@[simp] theorem fnD2 {nn : Nat} {a b : PV} : fnD 2 nn p [a, b] S = fnK (p (some a :: some b :: List.replicate (nn - 2) none) S) := (rfl)
@[simp] theorem fnD3 {nn : Nat} {a b c : PV} : fnD 3 nn p [a, b, c] S = fnK (p (some a :: some b :: some c :: List.replicate (nn - 3) none) S) := (rfl)
@[simp] theorem fnD4 {nn : Nat} {a b c d : PV} : fnD 4 nn p [a, b, c, d] S = fnK (p (some a :: some b :: some c :: some d :: List.replicate (nn - 4) none) S) := (rfl)
@[simp] theorem fnD5 {nn : Nat} {a b c d e : PV} : fnD 5 nn p [a, b, c, d, e] S = fnK (p (some a :: some b :: some c :: some d :: some e :: List.replicate (nn - 5) none) S) := (rfl)
@[simp] theorem fnD6 {nn : Nat} {a b c d e f : PV} : fnD 6 nn p [a, b, c, d, e, f] S = fnK (p (some a :: some b :: some c :: some d :: some e :: some f :: List.replicate (nn - 6) none) S) := (rfl)
@[simp] theorem rep0 : List.replicate 0 (none : Option PV) = [] := (rfl)
@[simp] theorem rep1 : List.replicate 1 (none : Option PV) = [none] := (rfl)
@[simp] theorem rep2 : List.replicate 2 (none : Option PV) = [none, none] := (rfl)
@[simp] theorem rep3 : List.replicate 3 (none : Option PV) = [none, none, none] := (rfl)
@[simp] theorem rep4 : List.replicate 4 (none : Option PV) = [none, none, none, none] := (rfl)
@[simp] theorem rep5 : List.replicate 5 (none : Option PV) = [none, none, none, none, none] := (rfl)
@[simp] theorem rep6 : List.replicate 6 (none : Option PV) = [none, none, none, none, none, none] := (rfl)
@[simp] theorem rep7 : List.replicate 7 (none : Option PV) = [none, none, none, none, none, none, none] := (rfl)
@[simp] theorem rep8 : List.replicate 8 (none : Option PV) = [none, none, none, none, none, none, none, none] := (rfl)
def exTK (n : Nat) : Res PV → Res PV
  | .ok d S' => match d with
    | .cell k => if k < n then .ok (.cell k) (S'.take n) else (match S'[k]? with
      | some (.lst xs) => .ok (.lst xs) (S'.take n)
      | _ => .stuck)
    | d => if bel n d = true then .ok d (S'.take n) else .stuck
  | .exc x S' => if (x.fields.isEmpty || bels n (x.fields.map (·.2))) = true then .exc x (S'.take n) else .stuck
  | .stuck => .stuck
def exNK (n : Nat) : Res PV → Res PV
  | .ok (.cell k) S' => if k < n then .ok (.cell k) (S'.take n) else (match S'[k]? with
      | some (.lst xs) => .ok (.cell n) (S'.take n ++ [.lst xs])
      | _ => .stuck)
  | .exc x S' => if (x.fields.isEmpty || bels n (x.fields.map (·.2))) = true then .exc x (S'.take n) else .stuck
  | _ => .stuck
theorem exitT_s (f : FnDen) : exitT f xs S = exTK S.length (f xs S) := by
  unfold exitT exTK; rfl
theorem exTK_val {n : Nat} (hd : ∀ k, d ≠ .cell k) (hb : bel n d = true) : exTK n (.ok d S1) = .ok d (S1.take n) := by
  unfold exTK
  cases d with
  | cell k => exact absurd rfl (hd k)
  | _ => exact if_pos hb
@[simp] theorem exTK_tup {n : Nat} (hb : bels n xs = true) : exTK n (.ok (.tup xs) S1) = .ok (.tup xs) (S1.take n) := if_pos (by simpa [bel] using hb)
@[simp] theorem exTK_bl {n : Nat} {b : Bool} : exTK n (.ok (.bl b) S1) = .ok (.bl b) (S1.take n) := by simp [exTK, bel]
@[simp] theorem exTK_int {n : Nat} {b : Int} : exTK n (.ok (.int b) S1) = .ok (.int b) (S1.take n) := by simp [exTK, bel]
/-! values -/
@[simp] theorem addV_i (i j : Int) : addV (.int i) (.int j) S = .ok (.int (i + j)) S := (rfl)
@[simp] theorem subV_i (i j : Int) : subV (.int i) (.int j) S = .ok (.int (i - j)) S := (rfl)
@[simp] theorem negV_i (i : Int) : negV (.int i) S = .ok (.int (-i)) S := (rfl)
theorem mulV_i (i j : Int) (h : mulC i j) : mulV (.int i) (.int j) S = .ok (.int (i * j)) S := if_pos h
theorem modV_i (i j : Int) (h : 0 < j) : modV (.int i) (.int j) S = .ok (.int (i % j)) S := if_pos h
theorem powV_i (i j : Int) (h : powC i j) : powV (.int i) (.int j) S = .ok (.int (i ^ j.toNat)) S := if_pos h
theorem log2_of {n k : Nat} (h : n < 2 ^ k) : n.log2 ≤ k := by
  by_cases hn : n = 0
  · subst hn; simp
  · exact Nat.le_of_lt ((Nat.log2_lt hn).mpr h)
theorem mulC_of {i j : Int} (hi : i.natAbs < 2 ^ 1000) (hj : j.natAbs < 2 ^ 1000) : mulC i j := by
  have h1 := log2_of hi
  have h2 := log2_of hj
  show _ + _ < _
  omega
theorem powC_of {i j : Int} (hi : i.natAbs < 2 ^ 1000) (h0 : 0 ≤ j) (h : j ≤ 1000) : powC i j := ⟨h0, h, by have := log2_of hi; omega⟩
@[simp] theorem ltV_i (i j : Int) : ltV (.int i) (.int j) S = .ok (.bl (decide (i < j))) S := (rfl)
@[simp] theorem leV_i (i j : Int) : leV (.int i) (.int j) S = .ok (.bl (decide (i ≤ j))) S := (rfl)
@[simp] theorem gtV_i (i j : Int) : gtV (.int i) (.int j) S = .ok (.bl (decide (j < i))) S := (rfl)
@[simp] theorem geV_i (i j : Int) : geV (.int i) (.int j) S = .ok (.bl (decide (j ≤ i))) S := (rfl)
@[simp] theorem eqV_i (i j : Int) : eqV (.int i) (.int j) S = .ok (.bl (i == j)) S := by simp [eqV, topV, chk, peq, feq]
@[simp] theorem neV_i (i j : Int) : neV (.int i) (.int j) S = .ok (.bl (!(i == j))) S := by simp [neV, topV, chk, peq, feq]
@[simp] theorem eqV_b (i j : Bool) : eqV (.bl i) (.bl j) S = .ok (.bl (i == j)) S := by simp [eqV, topV, chk, peq, feq]
@[simp] theorem neV_b (i j : Bool) : neV (.bl i) (.bl j) S = .ok (.bl (!(i == j))) S := by simp [neV, topV, chk, peq, feq]
theorem eqV_strL {a b : Str} {z : Bool} (ha : a.cps.all (· < 0x110000) = true) (hb : b.cps.all (· < 0x110000) = true) (hr : (a == b) = z) : eqV (.str a) (.str b) S = .ok (.bl z) S := by
  unfold eqV
  rw [if_pos ⟨by simpa [topV, chk] using ha, by simpa [topV, chk] using hb⟩]
  simp [topV, peq, feq, ← hr]
theorem neV_of (h1 : chk 60 (topV S x) = true) (h2 : chk 60 (topV S y) = true) : neV x y S = .ok (.bl (!peq (topV S x) (topV S y))) S := if_pos ⟨h1, h2⟩
theorem itemV_of {i : Int} (h : seqOf S x = some xs) (hd : ((ixP xs.length i).bind fun j => xs[j]?) = some d) : itemV x (.int i) S = .ok d S := by
  unfold itemV
  simp only [h, hd]
@[simp] theorem seqOf_tup : seqOf S (.tup xs) = some xs := (rfl)
@[simp] theorem seqOf_lst : seqOf S (.lst xs) = some xs := (rfl)
@[simp] theorem seqOf_ro : seqOf S (.ro xs) = some xs := (rfl)
@[simp] theorem lstOf_lst : lstOf S (.lst xs) = some xs := (rfl)
@[simp] theorem lstOf_ro : lstOf S (.ro xs) = some xs := (rfl)
theorem lstOf_cell {n : Nat} (h : S[n]? = some (.lst xs)) : lstOf S (.cell n) = some xs := by
  show (match S[n]? with | some (.lst xs) => some xs | _ => none) = _
  rw [h]
theorem ix_int {n : Nat} {i : Int} (h0 : 0 ≤ i) (h : i < n) : ixP n i = some i.toNat := by
  unfold ixP
  rw [if_pos h0, if_pos h]
theorem item_int {i : Int} (h0 : 0 ≤ i) (h : seqOf S x = some xs) (hd : xs[i.toNat]? = some d) : itemV x (.int i) S = .ok d S := itemV_of h (by
  rw [ix_int h0 (by have := (List.getElem?_eq_some_iff.mp hd).1; omega)]; exact hd)
theorem item0 {a : PV} {r : List PV} (h : seqOf S x = some (a :: r)) : itemV x (.int 0) S = .ok a S := item_int (by decide) h rfl
theorem item1 {a b : PV} {r : List PV} (h : seqOf S x = some (a :: b :: r)) : itemV x (.int 1) S = .ok b S := item_int (by decide) h rfl
theorem item2 {a b c : PV} {r : List PV} (h : seqOf S x = some (a :: b :: c :: r)) : itemV x (.int 2) S = .ok c S := item_int (by decide) h rfl
@[simp] theorem itup0 {a : PV} {r : List PV} : itemV (.tup (a :: r)) (.int 0) S = .ok a S := item0 rfl
@[simp] theorem itup1 {a b : PV} {r : List PV} : itemV (.tup (a :: b :: r)) (.int 1) S = .ok b S := item1 rfl
@[simp] theorem itup2 {a b c : PV} {r : List PV} : itemV (.tup (a :: b :: c :: r)) (.int 2) S = .ok c S := item2 rfl
@[simp] theorem lenB_tup : lenB [.tup xs] S = .ok (.int xs.length) S := (rfl)
@[simp] theorem lenB_lst : lenB [.lst xs] S = .ok (.int xs.length) S := (rfl)
@[simp] theorem lenB_ro : lenB [.ro xs] S = .ok (.int xs.length) S := (rfl)
@[simp] theorem intB_i (i : Int) : intB [.int i] S = .ok (.int i) S := (rfl)
@[simp] theorem intB_b (b : Bool) : intB [.bl b] S = .ok (.int (if b then 1 else 0)) S := (rfl)
@[simp] theorem absB_i (i : Int) : absB [.int i] S = .ok (.int (if i < 0 then -i else i)) S := (rfl)
@[simp] theorem boolB_i (i : Int) : boolB [.int i] S = .ok (.bl (i != 0)) S := (rfl)
@[simp] theorem boolB_b (b : Bool) : boolB [.bl b] S = .ok (.bl b) S := (rfl)
@[simp] theorem maxB_i (i j : Int) : maxB [.int i, .int j] S = .ok (.int (if j > i then j else i)) S := (rfl)
@[simp] theorem minB_i (i j : Int) : minB [.int i, .int j] S = .ok (.int (if j < i then j else i)) S := (rfl)
@[simp] theorem listB_tup : listB [.tup xs] S = .ok (.lst xs) S := (rfl)
@[simp] theorem listB_lst : listB [.lst xs] S = .ok (.lst xs) S := (rfl)
@[simp] theorem tupleB_tup : tupleB [.tup xs] S = .ok (.tup xs) S := (rfl)
@[simp] theorem tupleB_lst : tupleB [.lst xs] S = .ok (.tup xs) S := (rfl)
theorem isin_v {T : String} {b : Bool} (hc : ∀ n, d ≠ .cell n) (ht : ∀ n, d ≠ .ty n) (h : isaB d T = some b) : isinB [d, .ty T] S = .ok (.bl b) S := by
  cases d with
  | cell n => exact absurd rfl (hc n)
  | ty n => exact absurd rfl (ht n)
  | adr a => cases h
  | xo a d ns xs => cases h
  | opq t =>
    unfold isaB at h
    dsimp only at h
    show (if T = "int" ∨ T = "bool" ∨ T = "str" ∨ T = "tuple" ∨ T = "list" then Res.ok (PV.bl false) S else .stuck) = _
    by_cases h1 : T = "int"
    · subst h1; simp at h; subst h; simp
    by_cases h2 : T = "bool"
    · subst h2; simp at h; subst h; simp
    by_cases h3 : T = "str"
    · subst h3; simp at h; subst h; simp
    by_cases h4 : T = "tuple"
    · subst h4; simp at h; subst h; simp
    by_cases h5 : T = "list"
    · subst h5; simp at h; subst h; simp
    simp [h1, h2, h3, h4, h5] at h
  | _ => unfold isinB; simp only [h]
theorem small_abs {i : Int} (h : -(10 ^ 200) < i ∧ i < 10 ^ 200) : i.natAbs < 2 ^ 1000 := by
  have e : (10 : Int) ^ 200 < ((2 ^ 1000 : Nat) : Int) := by decide +kernel
  omega
theorem mulC_le {i j : Int} (hi : -(10 ^ 200) < i ∧ i < 10 ^ 200) (hj : -(10 ^ 200) < j ∧ j < 10 ^ 200) : mulC i j := mulC_of (small_abs hi) (small_abs hj)
theorem powC_le {i j : Int} (hi : -(10 ^ 200) < i ∧ i < 10 ^ 200) (hj : 0 ≤ j ∧ j ≤ 1000) : powC i j := powC_of (small_abs hi) hj.1 hj.2
@[simp] theorem pw8 : powV (.int 10) (.int 8) S = .ok (.int 100000000) S := powV_i _ _ (powC_le (by decide) (by decide))
@[simp] theorem pw9 : powV (.int 10) (.int 9) S = .ok (.int 1000000000) S := powV_i _ _ (powC_le (by decide) (by decide))
@[simp] theorem pw18 : powV (.int 10) (.int 18) S = .ok (.int 1000000000000000000) S := powV_i _ _ (powC_le (by decide) (by decide))
@[simp] theorem pw37 : powV (.int 10) (.int 37) S = .ok (.int (10 ^ 37)) S := powV_i _ _ (powC_le (by decide) (by decide))
@[simp] theorem pw38 : powV (.int 10) (.int 38) S = .ok (.int (10 ^ 38)) S := powV_i _ _ (powC_le (by decide) (by decide))
@[simp] theorem pw39 : powV (.int 10) (.int 39) S = .ok (.int (10 ^ 39)) S := powV_i _ _ (powC_le (by decide) (by decide))
@[simp] theorem ml98 : mulV (.int 9) (.int 100000000) S = .ok (.int 900000000) S := mulV_i _ _ (mulC_le (by decide) (by decide))
def setK1 (fo fi : ExprD) (env : PEnv) (y : PV) (S : Sto) : Res Flow := runE (fo env S) env fun d S2 => runE (fi env S2) env fun i S3 => match d, i with
  | .cell n, .int i => setC n i y env S3
  | _, _ => .stuck
def setK2 (fi : ExprD) (env : PEnv) (y d : PV) (S : Sto) : Res Flow := runE (fi env S) env fun i S3 => match d, i with
  | .cell n, .int i => setC n i y env S3
  | _, _ => .stuck
def setK3 (env : PEnv) (y d i : PV) (S : Sto) : Res Flow := match d, i with
  | .cell n, .int i => setC n i y env S
  | _, _ => .stuck
@[simp] theorem setS_s {fo fi f : ExprD} : setS fo fi f env S = runE (f env S) env (setK1 fo fi env) := (rfl)
@[simp] theorem setK1_s {fo fi : ExprD} {y : PV} : setK1 fo fi env y S = runE (fo env S) env (setK2 fi env y) := (rfl)
@[simp] theorem setK2_s {fi : ExprD} {y d : PV} : setK2 fi env y d S = runE (fi env S) env (setK3 env y d) := (rfl)
@[simp] theorem setK3_s {n : Nat} {i : Int} {y : PV} : setK3 env y (.cell n) (.int i) S = setC n i y env S := (rfl)
def appG (n : Nat) (f : ExprD) (env : PEnv) (S : Sto) : Res PV := match S[n]? with
  | some (.lst _) => (f env S).bind (pushC n)
  | _ => .stuck
def appK (f : ExprD) (env : PEnv) (d : PV) (S1 : Sto) : Res PV := match d with
  | .cell n => appG n f env S1
  | _ => .stuck
@[simp] theorem appE_s {fo f : ExprD} : appE fo f env S = (fo env S).bind (appK f env) := (rfl)
@[simp] theorem appK_s {n : Nat} {f : ExprD} : appK f env (.cell n) S = appG n f env S := (rfl)
theorem appG_of {n : Nat} {f : ExprD} (h : S[n]? = some (.lst xs)) : appG n f env S = (f env S).bind (pushC n) := by
  unfold appG; rw [h]
theorem pushC_of {n : Nat} {y : PV} (h : S[n]? = some (.lst xs)) (hz : xs.length < 1000) (hb : bel 0 y = true) : pushC n y S = .ok .non (S.set n (.lst (xs ++ [y]))) := by
  unfold pushC
  rw [h]
  simp only
  rw [if_pos ⟨by rw [sizeLine_eq]; omega, hb⟩]
/-! the rest of slices -/
def slK (l h : PartD) (env : PEnv) (x : PV) (S : Sto) : Res PV := (l env S).bind fun lo S2 => (h env S2).bind fun hi S3 => sliceV x lo hi S3
def slK2 (h : PartD) (env : PEnv) (x : PV) (lo : Option Int) (S : Sto) : Res PV := (h env S).bind fun hi S3 => sliceV x lo hi S3
@[simp] theorem sliceE_s (l h : PartD) : sliceE a l h env S = (a env S).bind (slK l h env) := (rfl)
@[simp] theorem slK_s (l h : PartD) : slK l h env x S = (l env S).bind (slK2 h env x) := (rfl)
@[simp] theorem slK2_s (h : PartD) (lo : Option Int) : slK2 h env x lo S = (h env S).bind (sliceV x lo) := (rfl)
@[simp] theorem noP_s : noP env S = .ok none S := (rfl)
def someK (d : PV) (S : Sto) : Res (Option Int) := match d with
  | .int i => .ok (some i) S
  | _ => .stuck
@[simp] theorem someP_s : someP a env S = (a env S).bind someK := (rfl)
@[simp] theorem someK_s (i : Int) : someK (.int i) S = .ok (some i) S := (rfl)
@[simp] theorem sliceV_tup (lo hi : Option Int) : sliceV (.tup xs) lo hi S = .ok (.tup (cutP xs lo hi)) S := (rfl)
@[simp] theorem sliceV_lst (lo hi : Option Int) : sliceV (.lst xs) lo hi S = .ok (.lst (cutP xs lo hi)) S := (rfl)
theorem cut_take (xs : List PV) (k : Nat) : cutP xs none (some (k : Int)) = xs.take k := by
  unfold cutP sIxP
  dsimp only
  rw [if_neg (by omega)]
  simp only [List.drop_zero, Nat.sub_zero, Int.toNat_natCast]
  rcases Nat.le_total k xs.length with h | h
  · rw [Nat.min_eq_left h]
  · rw [Nat.min_eq_right h, List.take_of_length_le (Nat.le_refl _), List.take_of_length_le h]
theorem cut_drop (xs : List PV) (k : Nat) : cutP xs (some (k : Int)) none = xs.drop k := by
  unfold cutP sIxP
  dsimp only
  rw [if_neg (by omega)]
  simp only [Int.toNat_natCast]
  rcases Nat.le_total k xs.length with h | h
  · rw [Nat.min_eq_left h, List.take_of_length_le (by rw [List.length_drop]; omega)]
  · rw [Nat.min_eq_right h]
    simp [h]
/-! iterators -/
@[simp] theorem seqI_s : seqI a env S = (a env S).bind itemsOf := (rfl)
@[simp] theorem itemsOf_tup : itemsOf (.tup xs) S = .ok (none, xs) S := (rfl)
@[simp] theorem itemsOf_lst : itemsOf (.lst xs) S = .ok (none, xs) S := (rfl)
@[simp] theorem itemsOf_ro : itemsOf (.ro xs) S = .ok (none, xs) S := (rfl)
def rg1K (x : PV) (S : Sto) : Res (Option Nat × List PV) := match x with
  | .int j => if smallI j then .ok (none, rangeP 0 j.toNat) S else .stuck
  | _ => .stuck
@[simp] theorem range1I_s : range1I a env S = (a env S).bind rg1K := (rfl)
theorem rg1K_of {j : Int} (h : smallI j) : rg1K (.int j) S = .ok (none, rangeP 0 j.toNat) S := if_pos h
theorem rg1K_nat {n : Nat} (h : n ≤ 8000000) : rg1K (.int (n : Int)) S = .ok (none, rangeP 0 n) S := by rw [rg1K_of ⟨by omega, by omega⟩]; rfl
def rg2K (b : ExprD) (env : PEnv) (x : PV) (S : Sto) : Res (Option Nat × List PV) := (b env S).bind fun y S2 => match x, y with
  | .int i, .int j => if smallI i ∧ smallI j then .ok (none, rangeP i (j - i).toNat) S2 else .stuck
  | _, _ => .stuck
def rg2K2 (x y : PV) (S : Sto) : Res (Option Nat × List PV) := match x, y with
  | .int i, .int j => if smallI i ∧ smallI j then .ok (none, rangeP i (j - i).toNat) S else .stuck
  | _, _ => .stuck
@[simp] theorem range2I_s : range2I a b env S = (a env S).bind (rg2K b env) := (rfl)
@[simp] theorem rg2K_s : rg2K b env x S = (b env S).bind (rg2K2 x) := (rfl)
def rg3K (b c : ExprD) (env : PEnv) (x : PV) (S : Sto) : Res (Option Nat × List PV) := (b env S).bind fun y S2 => (c env S2).bind fun z S3 => match x, y, z with
  | .int i, .int j, .int k => if k = -1 ∧ smallI i ∧ smallI j then .ok (none, downP i (i - j).toNat) S3 else .stuck
  | _, _, _ => .stuck
def rg3K2 (c : ExprD) (env : PEnv) (x y : PV) (S : Sto) : Res (Option Nat × List PV) := (c env S).bind fun z S3 => match x, y, z with
  | .int i, .int j, .int k => if k = -1 ∧ smallI i ∧ smallI j then .ok (none, downP i (i - j).toNat) S3 else .stuck
  | _, _, _ => .stuck
def rg3K3 (x y z : PV) (S : Sto) : Res (Option Nat × List PV) := match x, y, z with
  | .int i, .int j, .int k => if k = -1 ∧ smallI i ∧ smallI j then .ok (none, downP i (i - j).toNat) S else .stuck
  | _, _, _ => .stuck
@[simp] theorem range3I_s {c : ExprD} : range3I a b c env S = (a env S).bind (rg3K b c env) := (rfl)
@[simp] theorem rg3K_s {c : ExprD} : rg3K b c env x S = (b env S).bind (rg3K2 c env x) := (rfl)
@[simp] theorem rg3K2_s {c : ExprD} : rg3K2 c env x y S = (c env S).bind (rg3K3 x y) := (rfl)
def revK (x : PV) (S : Sto) : Res (Option Nat × List PV) := match frozen x with
  | some (_, xs) => .ok (none, xs.reverse) S
  | _ => .stuck
@[simp] theorem revI_s : revI a env S = (a env S).bind revK := (rfl)
@[simp] theorem revK_lst : revK (.lst xs) S = .ok (none, xs.reverse) S := (rfl)
@[simp] theorem revK_tup : revK (.tup xs) S = .ok (none, xs.reverse) S := (rfl)
def zipK (b : ExprD) (env : PEnv) (x : PV) (S : Sto) : Res (Option Nat × List PV) := (b env S).bind fun y S2 => match frozen x, frozen y with
  | some (t, xs), some (u, ys) => if t = u then .ok (none, zipP xs ys) S2 else .stuck
  | _, _ => .stuck
def zipK2 (x y : PV) (S : Sto) : Res (Option Nat × List PV) := match frozen x, frozen y with
  | some (t, xs), some (u, ys) => if t = u then .ok (none, zipP xs ys) S else .stuck
  | _, _ => .stuck
@[simp] theorem zipI_s : zipI a b env S = (a env S).bind (zipK b env) := (rfl)
@[simp] theorem zipK_s : zipK b env x S = (b env S).bind (zipK2 x) := (rfl)
@[simp] theorem zipK2_lst : zipK2 (.lst xs) (.lst ys) S = .ok (none, zipP xs ys) S := (rfl)
@[simp] theorem zipK2_tup : zipK2 (.tup xs) (.tup ys) S = .ok (none, zipP xs ys) S := (rfl)
/-! for -/
noncomputable def forK (t : Tg) (b : StmtD) (env : PEnv) (z : Option Nat × List PV) (S : Sto) : Res Flow := forL z.1 z.2 t b z.2 env S
@[simp] theorem forS_s {it : IterD} {t : Tg} {b : StmtD} : forS it t b env S = runI (it env S) env (forK t b env) := (rfl)
@[simp] theorem forK_s {t : Tg} {b : StmtD} {o : Option Nat} : forK t b env (o, xs) S = forL o xs t b xs env S := (rfl)
/-! comprehensions -/
noncomputable def cmpK (t : Tg) (ws : List Nat) (tst : TestD) (el : ExprD) (env : PEnv) (z : Option Nat × List PV) (S : Sto) : Res PV := compL z.1 z.2 t tst el (wipeE env ws) z.2 [] S
@[simp] theorem compE_s {it : IterD} {t : Tg} {ws : List Nat} {tst : TestD} {el : ExprD} : compE it t ws tst el env S = (it env S).bind (cmpK t ws tst el env) := (rfl)
@[simp] theorem compCE_s {it : IterD} {t : Tg} {ws : List Nat} {tst : TestD} {el : ExprD} : compCE it t ws tst el env S = (compE it t ws tst el env S).bind cellOf := (rfl)
@[simp] theorem cmpK_s {t : Tg} {ws : List Nat} {tst : TestD} {el : ExprD} {o : Option Nat} : cmpK t ws tst el env (o, xs) S = compL o xs t tst el (wipeE env ws) xs [] S := (rfl)
@[simp] theorem yesT_s : yesT env S = .ok true S := (rfl)
theorem compL_inv {ds : List PV} {t : Tg} {tst : TestD} {el : ExprD} {env0 : PEnv} (I : Nat → List PV → Sto → Prop) (step : ∀ (i : Nat) (d : PV) (acc : List PV) (S : Sto), ds[i]? = some d → I i acc S → ∃ env1, t.bind S d env0 = some env1 ∧
      ∃ b S1, tst env1 S = .ok b S1 ∧ (b = true → ∃ y S2, el env1 S1 = .ok y S2 ∧ I (i + 1) (acc ++ [y]) S2) ∧ (b = false → I (i + 1) acc S1)) :
    ∀ (r : List PV) (i : Nat) (acc : List PV) (S : Sto), ds.drop i = r → i ≤ ds.length → I i acc S → ∃ acc' S', compL none ds t tst el env0 r acc S = .ok (.lst acc') S' ∧ I ds.length acc' S'
  | [], i, acc, S, e, hi, h => by
    have : i = ds.length := by
      have h2 : (ds.drop i).length = 0 := by rw [e]; rfl
      rw [List.length_drop] at h2; omega
    subst this
    exact ⟨acc, S, rfl, h⟩
  | d :: r, i, acc, S, e, hi, h => by
    have hlt : i < ds.length := by
      have h2 : (ds.drop i).length = r.length + 1 := by rw [e]; rfl
      rw [List.length_drop] at h2; omega
    rw [List.drop_eq_getElem_cons hlt] at e
    injection e with e1 e2
    obtain ⟨env1, h1, b, S1, h2, h3, h4⟩ := step i d acc S (by rw [List.getElem?_eq_getElem hlt, e1]) h
    unfold compL
    rw [guardW_none, h1]
    dsimp only
    rw [h2]
    show ∃ acc' S', (if b = true then (nox (el env1 S1)).bind fun y S2 => compL none ds t tst el env0 r (acc ++ [y]) S2 else compL none ds t tst el env0 r acc S1) = .ok (.lst acc') S' ∧ I ds.length acc' S'
    cases b with
    | true =>
      obtain ⟨y, S2, h5, h6⟩ := h3 rfl
      rw [if_pos rfl, h5]
      exact compL_inv I step r (i + 1) (acc ++ [y]) S2 e2 hlt h6
    | false =>
      rw [if_neg (by decide)]
      exact compL_inv I step r (i + 1) acc S1 e2 hlt (h4 rfl)
theorem comp_inv {ds : List PV} {t : Tg} {tst : TestD} {el : ExprD} {env0 : PEnv} {S : Sto} (I : Nat → List PV → Sto → Prop) (h0 : I 0 [] S) (step : ∀ (i : Nat) (d : PV) (acc : List PV) (S : Sto), ds[i]? = some d → I i acc S → ∃ env1, t.bind S d env0 = some env1 ∧
      ∃ b S1, tst env1 S = .ok b S1 ∧ (b = true → ∃ y S2, el env1 S1 = .ok y S2 ∧ I (i + 1) (acc ++ [y]) S2) ∧ (b = false → I (i + 1) acc S1)) :
    ∃ acc' S', compL none ds t tst el env0 ds [] S = .ok (.lst acc') S' ∧ I ds.length acc' S' := compL_inv I step ds 0 [] S rfl (Nat.zero_le _) h0
@[simp] theorem cut_drop1 : cutP xs (some 1) none = xs.drop 1 := cut_drop xs 1
@[simp] theorem cut_take2 : cutP xs none (some 2) = xs.take 2 := cut_take xs 2
@[simp] theorem ii_int (i : Int) : isinB [.int i, .ty "int"] S = .ok (.bl true) S := (rfl)
@[simp] theorem ib_int (i : Int) : isinB [.int i, .ty "bool"] S = .ok (.bl false) S := (rfl)
@[simp] theorem is_int (i : Int) : isinB [.int i, .ty "str"] S = .ok (.bl false) S := (rfl)
@[simp] theorem il_int (i : Int) : isinB [.int i, .ty "list"] S = .ok (.bl false) S := (rfl)
@[simp] theorem it_int (i : Int) : isinB [.int i, .ty "tuple"] S = .ok (.bl false) S := (rfl)
@[simp] theorem ii_bl (i : Bool) : isinB [.bl i, .ty "int"] S = .ok (.bl true) S := (rfl)
@[simp] theorem ib_bl (i : Bool) : isinB [.bl i, .ty "bool"] S = .ok (.bl true) S := (rfl)
@[simp] theorem il_bl (i : Bool) : isinB [.bl i, .ty "list"] S = .ok (.bl false) S := (rfl)
@[simp] theorem is_bl (i : Bool) : isinB [.bl i, .ty "str"] S = .ok (.bl false) S := (rfl)
@[simp] theorem it_bl (i : Bool) : isinB [.bl i, .ty "tuple"] S = .ok (.bl false) S := (rfl)
@[simp] theorem ii_str (i : Str) : isinB [.str i, .ty "int"] S = .ok (.bl false) S := (rfl)
@[simp] theorem ib_str (i : Str) : isinB [.str i, .ty "bool"] S = .ok (.bl false) S := (rfl)
@[simp] theorem is_str (i : Str) : isinB [.str i, .ty "str"] S = .ok (.bl true) S := (rfl)
@[simp] theorem il_str (i : Str) : isinB [.str i, .ty "list"] S = .ok (.bl false) S := (rfl)
@[simp] theorem ii_non : isinB [.non, .ty "int"] S = .ok (.bl false) S := (rfl)
@[simp] theorem ib_non : isinB [.non, .ty "bool"] S = .ok (.bl false) S := (rfl)
@[simp] theorem il_non : isinB [.non, .ty "list"] S = .ok (.bl false) S := (rfl)
@[simp] theorem it_non : isinB [.non, .ty "tuple"] S = .ok (.bl false) S := (rfl)
@[simp] theorem ii_tup : isinB [.tup xs, .ty "int"] S = .ok (.bl false) S := (rfl)
@[simp] theorem ib_tup : isinB [.tup xs, .ty "bool"] S = .ok (.bl false) S := (rfl)
@[simp] theorem il_tup : isinB [.tup xs, .ty "list"] S = .ok (.bl false) S := (rfl)
@[simp] theorem it_tup : isinB [.tup xs, .ty "tuple"] S = .ok (.bl true) S := (rfl)
@[simp] theorem ii_lst : isinB [.lst xs, .ty "int"] S = .ok (.bl false) S := (rfl)
@[simp] theorem ib_lst : isinB [.lst xs, .ty "bool"] S = .ok (.bl false) S := (rfl)
@[simp] theorem il_lst : isinB [.lst xs, .ty "list"] S = .ok (.bl true) S := (rfl)
@[simp] theorem it_lst : isinB [.lst xs, .ty "tuple"] S = .ok (.bl false) S := (rfl)
def starK2 (xs ys : List PV) (S : Sto) : Res (List PV) := .ok (xs ++ ys) S
def starK (r : ArgsD) (env : PEnv) (d : PV) (S : Sto) : Res (List PV) := match seqOf S d with
  | some xs => (r env S).bind (starK2 xs)
  | none => .stuck
@[simp] theorem starA_s : starA a r env S = (a env S).bind (starK r env) := (rfl)
@[simp] theorem starK2_s : starK2 xs ys S = .ok (xs ++ ys) S := (rfl)
@[simp] theorem starK_lst : starK r env (.lst xs) S = (r env S).bind (starK2 xs) := (rfl)
@[simp] theorem starK_tup : starK r env (.tup xs) S = (r env S).bind (starK2 xs) := (rfl)
/-! rows of ints -/
theorem chk_enc (ns : List Int) : chk 60 (encT ns) = true := by
  show chks 59 (ns.map .int) = true
  induction ns with
  | nil => rfl
  | cons n ns ih => simp [chks, chk, ih]
theorem comp_filterA {α : Type} {l : List α} {f : α → PV} {t : Tg} {tst : TestD} {el : ExprD} {env0 : PEnv} {S : Sto} (p : α → Bool) (g : α → PV) (step : ∀ a ∈ l, ∃ env1, t.bind S (f a) env0 = some env1 ∧ tst env1 S = .ok (p a) S ∧ (p a = true → el env1 S = .ok (g a) S)) : compL none (l.map f) t tst el env0 (l.map f) [] S = .ok (.lst ((l.filter p).map g)) S := by
  obtain ⟨acc, S', h, rfl, rfl⟩ := comp_inv (ds := l.map f) (t := t) (tst := tst) (el := el) (env0 := env0) (S := S) (fun i acc S' => S' = S ∧ acc = ((l.take i).filter p).map g) ⟨rfl, by simp⟩ fun i d acc S' hd ⟨h1, h2⟩ => by
    subst h1 h2
    rw [List.getElem?_map] at hd
    obtain ⟨a, ha, rfl⟩ := Option.map_eq_some_iff.mp hd
    obtain ⟨env1, h1, h2, h3⟩ := step a (List.mem_of_getElem? ha)
    refine ⟨env1, h1, p a, S', h2, fun hp => ⟨g a, S', h3 hp, rfl, ?_⟩, fun hp => ⟨rfl, ?_⟩⟩
    · rw [List.take_add_one, ha]
      simp [hp]
    · rw [List.take_add_one, ha]
      simp [hp]
  rw [h, List.length_map, List.take_length]
theorem addV_lst {as bs : List PV} (h : as.length + bs.length ≤ 16000000) : addV (.lst as) (.lst bs) S = .ok (.lst (as ++ bs)) S := by
  unfold addV
  simp only [catOf]
  rw [if_pos (by rw [sizeLine_eq]; omega)]
theorem peqs_nil (xs : List PV) : peqs xs [] = xs.isEmpty := by cases xs <;> simp [peqs]
theorem ne_nil_lst (h : chks 59 xs = true) : neV (.lst xs) (.lst []) S = .ok (.bl (!xs.isEmpty)) S := by
  rw [neV_of (x := .lst xs) (y := .lst []) h rfl]; simp [topV, peq, peqs_nil]
@[simp] theorem isV_non : isV d .non S = .ok (.bl (isNonB d)) S := (rfl)
@[simp] theorem isNotV_non : isNotV d .non S = .ok (.bl (!isNonB d)) S := (rfl)
@[simp] theorem isNonB_int (i : Int) : isNonB (.int i) = false := rfl
@[simp] theorem isNonB_non : isNonB .non = true := rfl
@[simp] theorem pw6 : powV (.int 10) (.int 6) S = .ok (.int 1000000) S := powV_i _ _ (powC_le (by decide) (by decide))
@[simp] theorem pw7 : powV (.int 10) (.int 7) S = .ok (.int 10000000) S := powV_i _ _ (powC_le (by decide) (by decide))
@[simp] theorem pw5 : powV (.int 10) (.int 5) S = .ok (.int 100000) S := powV_i _ _ (powC_le (by decide) (by decide))
@[simp] theorem pw4 : powV (.int 10) (.int 4) S = .ok (.int 10000) S := powV_i _ _ (powC_le (by decide) (by decide))
@[simp] theorem pw3 : powV (.int 10) (.int 3) S = .ok (.int 1000) S := powV_i _ _ (powC_le (by decide) (by decide))
@[simp] theorem eqS_bucket_bucket : eqV (.str "bucket") (.str "bucket") S = .ok (.bl true) S := eqV_strL (by decide +kernel) (by decide +kernel) (by decide +kernel)
@[simp] theorem eqS_bucket_meter : eqV (.str "bucket") (.str "meter") S = .ok (.bl false) S := eqV_strL (by decide +kernel) (by decide +kernel) (by decide +kernel)
@[simp] theorem eqS_bucket_window : eqV (.str "bucket") (.str "window") S = .ok (.bl false) S := eqV_strL (by decide +kernel) (by decide +kernel) (by decide +kernel)
@[simp] theorem eqS_bucket_frame : eqV (.str "bucket") (.str "frame") S = .ok (.bl false) S := eqV_strL (by decide +kernel) (by decide +kernel) (by decide +kernel)
@[simp] theorem eqS_bucket_gap : eqV (.str "bucket") (.str "gap") S = .ok (.bl false) S := eqV_strL (by decide +kernel) (by decide +kernel) (by decide +kernel)
@[simp] theorem eqS_meter_bucket : eqV (.str "meter") (.str "bucket") S = .ok (.bl false) S := eqV_strL (by decide +kernel) (by decide +kernel) (by decide +kernel)
@[simp] theorem eqS_meter_meter : eqV (.str "meter") (.str "meter") S = .ok (.bl true) S := eqV_strL (by decide +kernel) (by decide +kernel) (by decide +kernel)
@[simp] theorem eqS_meter_window : eqV (.str "meter") (.str "window") S = .ok (.bl false) S := eqV_strL (by decide +kernel) (by decide +kernel) (by decide +kernel)
@[simp] theorem eqS_meter_frame : eqV (.str "meter") (.str "frame") S = .ok (.bl false) S := eqV_strL (by decide +kernel) (by decide +kernel) (by decide +kernel)
@[simp] theorem eqS_meter_gap : eqV (.str "meter") (.str "gap") S = .ok (.bl false) S := eqV_strL (by decide +kernel) (by decide +kernel) (by decide +kernel)
@[simp] theorem eqS_window_bucket : eqV (.str "window") (.str "bucket") S = .ok (.bl false) S := eqV_strL (by decide +kernel) (by decide +kernel) (by decide +kernel)
@[simp] theorem eqS_window_meter : eqV (.str "window") (.str "meter") S = .ok (.bl false) S := eqV_strL (by decide +kernel) (by decide +kernel) (by decide +kernel)
@[simp] theorem eqS_window_window : eqV (.str "window") (.str "window") S = .ok (.bl true) S := eqV_strL (by decide +kernel) (by decide +kernel) (by decide +kernel)
@[simp] theorem eqS_window_frame : eqV (.str "window") (.str "frame") S = .ok (.bl false) S := eqV_strL (by decide +kernel) (by decide +kernel) (by decide +kernel)
@[simp] theorem eqS_window_gap : eqV (.str "window") (.str "gap") S = .ok (.bl false) S := eqV_strL (by decide +kernel) (by decide +kernel) (by decide +kernel)
@[simp] theorem eqS_frame_bucket : eqV (.str "frame") (.str "bucket") S = .ok (.bl false) S := eqV_strL (by decide +kernel) (by decide +kernel) (by decide +kernel)
@[simp] theorem eqS_frame_meter : eqV (.str "frame") (.str "meter") S = .ok (.bl false) S := eqV_strL (by decide +kernel) (by decide +kernel) (by decide +kernel)
@[simp] theorem eqS_frame_window : eqV (.str "frame") (.str "window") S = .ok (.bl false) S := eqV_strL (by decide +kernel) (by decide +kernel) (by decide +kernel)
@[simp] theorem eqS_frame_frame : eqV (.str "frame") (.str "frame") S = .ok (.bl true) S := eqV_strL (by decide +kernel) (by decide +kernel) (by decide +kernel)
@[simp] theorem eqS_frame_gap : eqV (.str "frame") (.str "gap") S = .ok (.bl false) S := eqV_strL (by decide +kernel) (by decide +kernel) (by decide +kernel)
@[simp] theorem eqS_gap_bucket : eqV (.str "gap") (.str "bucket") S = .ok (.bl false) S := eqV_strL (by decide +kernel) (by decide +kernel) (by decide +kernel)
@[simp] theorem eqS_gap_meter : eqV (.str "gap") (.str "meter") S = .ok (.bl false) S := eqV_strL (by decide +kernel) (by decide +kernel) (by decide +kernel)
@[simp] theorem eqS_gap_window : eqV (.str "gap") (.str "window") S = .ok (.bl false) S := eqV_strL (by decide +kernel) (by decide +kernel) (by decide +kernel)
@[simp] theorem eqS_gap_frame : eqV (.str "gap") (.str "frame") S = .ok (.bl false) S := eqV_strL (by decide +kernel) (by decide +kernel) (by decide +kernel)
@[simp] theorem eqS_gap_gap : eqV (.str "gap") (.str "gap") S = .ok (.bl true) S := eqV_strL (by decide +kernel) (by decide +kernel) (by decide +kernel)
@[simp] theorem inF_bucket : inV (.str "bucket") (.tup [.str "bucket", .str "meter"]) S = .ok (.bl true) S := (rfl)
@[simp] theorem inS_bucket : inV (.str "bucket") (.tup [.str "window", .str "frame"]) S = .ok (.bl false) S := (rfl)
@[simp] theorem inF_meter : inV (.str "meter") (.tup [.str "bucket", .str "meter"]) S = .ok (.bl true) S := (rfl)
@[simp] theorem inS_meter : inV (.str "meter") (.tup [.str "window", .str "frame"]) S = .ok (.bl false) S := (rfl)
@[simp] theorem inF_window : inV (.str "window") (.tup [.str "bucket", .str "meter"]) S = .ok (.bl false) S := (rfl)
@[simp] theorem inS_window : inV (.str "window") (.tup [.str "window", .str "frame"]) S = .ok (.bl true) S := (rfl)
@[simp] theorem inF_frame : inV (.str "frame") (.tup [.str "bucket", .str "meter"]) S = .ok (.bl false) S := (rfl)
@[simp] theorem inS_frame : inV (.str "frame") (.tup [.str "window", .str "frame"]) S = .ok (.bl true) S := (rfl)
@[simp] theorem inF_gap : inV (.str "gap") (.tup [.str "bucket", .str "meter"]) S = .ok (.bl false) S := (rfl)
@[simp] theorem inS_gap : inV (.str "gap") (.tup [.str "window", .str "frame"]) S = .ok (.bl false) S := (rfl)
end
end LH

/-! PQ: loops that may return, sequences of any make, rows by what lies ahead. -/
namespace LH
open PySem PySem.Spec PyProof.Rows L2
section
variable {S : Sto} {x : PV} {xs : List PV}
theorem lst_cell_inv {n : Nat} (h : lstOf S (.cell n) = some xs) : S[n]? = some (.lst xs) := by
  unfold lstOf at h
  dsimp only at h
  split at h
  · rename_i ys e; cases h; exact e
  · cases h
theorem ne_nil_of (h : lstOf S x = some xs) (hc : chks 59 xs = true) : neV x (.lst []) S = .ok (.bl (!xs.isEmpty)) S := by
  cases x with
  | lst ys => cases h; exact ne_nil_lst hc
  | ro ys =>
    cases h
    rw [neV_of (x := .ro xs) (y := .lst []) hc rfl]; simp [topV, peq, peqs_nil]
  | cell n =>
    have e := lst_cell_inv h
    have ht : topV S (.cell n) = .lst xs := by unfold topV; dsimp only; rw [e]
    rw [neV_of (x := .cell n) (y := .lst []) (by rw [ht]; exact hc) rfl, ht]; simp [topV, peq, peqs_nil]
  | _ => cases h
theorem neq_lst_of {ys : List PV} (h : lstOf S x = some xs) (hc : chks 59 xs = true) (hy : chks 59 ys = true) : neV x (.lst ys) S = .ok (.bl (!peqs xs ys)) S := by
  cases x with
  | lst zs => cases h; rw [neV_of (x := .lst xs) (y := .lst ys) hc hy]; simp [topV, peq]
  | ro zs => cases h; rw [neV_of (x := .ro xs) (y := .lst ys) hc hy]; simp [topV, peq]
  | cell n =>
    have e := lst_cell_inv h
    have ht : topV S (.cell n) = .lst xs := by unfold topV; dsimp only; rw [e]
    rw [neV_of (x := .cell n) (y := .lst ys) (by rw [ht]; exact hc) hy, ht]; simp [topV, peq]
  | _ => cases h
end
/-! comprehensions over what may be mutable -/
noncomputable def cmp2K (t : Tg) (it1 : IterD) (t1 : Tg) (ws ws1 : List Nat) (el : ExprD) (env : PEnv) (z : Option Nat × List PV) (S : Sto) : Res PV := compL2 z.1 z.2 t it1 t1 ws1 el (wipeE env ws) z.2 [] S
@[simp] theorem compE2_s {it it1 : IterD} {t t1 : Tg} {ws ws1 : List Nat} {el : ExprD} {env : PEnv} {S : Sto} : compE2 it t it1 t1 ws ws1 el env S = (it env S).bind (cmp2K t it1 t1 ws ws1 el env) := (rfl)
@[simp] theorem cmp2K_s {t t1 : Tg} {it1 : IterD} {ws ws1 : List Nat} {el : ExprD} {env : PEnv} {S : Sto} {o : Option Nat} {xs : List PV} : cmp2K t it1 t1 ws ws1 el env (o, xs) S = compL2 o xs t it1 t1 ws1 el (wipeE env ws) xs [] S := (rfl)
@[simp] theorem dctE_s {n : Int} {b : Bool} {env : PEnv} {S : Sto} : dctE n b env S = .ok (.cell S.length) (S ++ [.raw (.dK [(Sum.inl n, V.bl b)])]) := (rfl)
def sd1 (fo fi : ExprD) (env : PEnv) (y : PV) (S : Sto) : Res Flow := runE (fo env S) env fun d S2 => runE (fi env S2) env fun i S3 => match d, i, y with
  | .cell n, .int k, .bl b => setDC n k b env S3
  | _, _, _ => .stuck
def sd2 (fi : ExprD) (env : PEnv) (y d : PV) (S : Sto) : Res Flow := runE (fi env S) env fun i S3 => match d, i, y with
  | .cell n, .int k, .bl b => setDC n k b env S3
  | _, _, _ => .stuck
def sd3 (env : PEnv) (y d i : PV) (S : Sto) : Res Flow := match d, i, y with
  | .cell n, .int k, .bl b => setDC n k b env S
  | _, _, _ => .stuck
@[simp] theorem setDS_s {fo fi f : ExprD} {env : PEnv} {S : Sto} : setDS fo fi f env S = runE (f env S) env (sd1 fo fi env) := (rfl)
@[simp] theorem sd1_s {fo fi : ExprD} {env : PEnv} {y : PV} {S : Sto} : sd1 fo fi env y S = runE (fo env S) env (sd2 fi env y) := (rfl)
@[simp] theorem sd2_s {fi : ExprD} {env : PEnv} {y d : PV} {S : Sto} : sd2 fi env y d S = runE (fi env S) env (sd3 env y d) := (rfl)
@[simp] theorem sd3_s {n : Nat} {k : Int} {b : Bool} {env : PEnv} {S : Sto} : sd3 env (.bl b) (.cell n) (.int k) S = setDC n k b env S := (rfl)
/-- a dict that holds the ints of a row, each once -/
def DS (S : Sto) (c : Nat) (P : List Int) : Prop := ∃ (kvs : List (Key × V)) (ks : List Int), S[c]? = some (.raw (.dK kvs)) ∧ kvs.map (·.1) = ks.map Sum.inl ∧ ks.Nodup ∧ (∀ k, k ∈ ks ↔ k ∈ P) ∧ ks.length ≤ P.length
theorem keysI_of : ∀ {kvs : List (Key × V)} {ks : List Int}, kvs.map (·.1) = ks.map Sum.inl → keysI kvs = some ks
  | [], [], _ => rfl
  | [], _ :: _, h => by simp at h
  | _ :: _, [], h => by simp at h
  | (k, v) :: r, n :: ns, h => by
    simp only [List.map_cons, List.cons.injEq] at h
    obtain ⟨h1, h2⟩ := h
    subst h1
    simp [keysI, keysI_of h2]
theorem DS.sorted {S : Sto} {c : Nat} {P : List Int} (h : DS S c P) (hz : P.length ≤ 4000) : sortDV [.cell c] S = .ok (.lst ((ascI P).map .int)) S := by
  obtain ⟨kvs, ks, h1, h2, h3, h4, h5⟩ := h
  unfold sortDV
  dsimp only
  rw [h1]
  dsimp only
  rw [keysI_of h2]
  dsimp only
  rw [if_pos (by omega)]
  have e : (ks.mergeSort fun a b => decide (a ≤ b)) = ascI P := asc_uniq (lt_of_nodup _ (sort_le ks) ((List.mergeSort_perm _ _).nodup_iff.mpr h3)) (ascI_lt P) fun k => by rw [List.mem_mergeSort, h4, ascI_mem]
  rw [e]
theorem addCV_cell {S : Sto} {k : Nat} {xs ys : List PV} (h : S[k]? = some (.lst xs)) (hz : xs.length + ys.length ≤ 100000) (hb : bels 0 (xs ++ ys) = true) : addCV (.cell k) (.lst ys) S = .ok (.cell S.length) (S ++ [.lst (xs ++ ys)]) := by
  have hc : catOf S (.cell k) = some xs := by
    show (match S[k]? with | some (.lst xs) => some xs | _ => none) = _
    rw [h]
  have hd : catOf S (.lst ys) = some ys := rfl
  unfold addCV
  rw [hc, hd]
  dsimp only
  rw [if_pos ⟨by rw [sizeLine_eq]; omega, hb⟩]
def scK (l h : PartD) (env : PEnv) (x : PV) (S : Sto) : Res PV := (l env S).bind fun lo S2 => (h env S2).bind fun hi S3 => sliceCV x lo hi S3
def scK2 (h : PartD) (env : PEnv) (x : PV) (lo : Option Int) (S : Sto) : Res PV := (h env S).bind fun hi S3 => sliceCV x lo hi S3
@[simp] theorem sliceCE_s {a : ExprD} {l h : PartD} {env : PEnv} {S : Sto} : sliceCE a l h env S = (a env S).bind (scK l h env) := (rfl)
@[simp] theorem scK_s {l h : PartD} {env : PEnv} {x : PV} {S : Sto} : scK l h env x S = (l env S).bind (scK2 h env x) := (rfl)
@[simp] theorem scK2_s {h : PartD} {env : PEnv} {x : PV} {lo : Option Int} {S : Sto} : scK2 h env x lo S = (h env S).bind (sliceCV x lo) := (rfl)
/-! rows by what lies ahead -/
def idxA {α β : Type} (f : List α → α → β) : List α → List α → List β
  | _, [] => []
  | p, e :: r => f p e :: idxA f (p ++ [e]) r
def allA {α β : Type} (f : List α → α → β) (ls : List (List α)) : List β := ls.flatMap fun l => idxA f [] l
/-- a value or None -/
def oI : Option Int → PV
  | none => .non
  | some i => .int i
@[simp] theorem oI_none : oI none = .non := rfl
@[simp] theorem oI_some (i : Int) : oI (some i) = .int i := rfl
@[simp] theorem isV_oI (o : Option Int) (S : Sto) : isV (oI o) .non S = .ok (.bl o.isNone) S := by cases o <;> rfl
@[simp] theorem isNotV_oI (o : Option Int) (S : Sto) : isNotV (oI o) .non S = .ok (.bl o.isSome) S := by cases o <;> rfl
end LH

/-! PB: the law's own draws. -/
namespace LW
open PySem PySem.Spec PyProof.Rows L2 LH

/-- a case: what is left of the cell, its blend, how often it was drawn -/
def Cs (n : Nat) (m : Int) (S : Sto) : Prop := ∃ a b c : Int, S[n]? = some (.lst [.int a, .int b, .int c]) ∧ 0 ≤ a ∧ 0 ≤ b ∧ b < 10 ^ 42 ∧ 0 ≤ c ∧ c ≤ m
/-- nothing but the n-th was written -/
def Fr (n : Nat) (S S' : Sto) : Prop := S'.length = S.length ∧ ∀ j, j ≠ n → S'[j]? = S[j]?
theorem Fr.refl {n : Nat} {S : Sto} : Fr n S S := ⟨rfl, fun _ _ => rfl⟩
theorem Fr.trans {n : Nat} {S S1 S2 : Sto} (a : Fr n S S1) (b : Fr n S1 S2) : Fr n S S2 := ⟨b.1.trans a.1, fun j h => (b.2 j h).trans (a.2 j h)⟩
theorem Cs.mono {n : Nat} {m m' : Int} {S : Sto} (h : Cs n m S) (hm : m ≤ m') : Cs n m' S := by
  obtain ⟨a, b, c, h1, h2, h3, h4, h5, h6⟩ := h
  exact ⟨a, b, c, h1, h2, h3, h4, h5, by omega⟩
end LW

/-! PC: rows of requests, drawn. -/
namespace LW
open PySem PySem.Spec PyProof.Rows L2 LH

def rq (p : Int × Int) : PV := .tup [.int p.1, .int p.2]
/-- a row of requests that is well formed, at most n of them -/
structure Rq (rows : List (Int × Int)) (n : Nat) : Prop where
  len : rows.length ≤ n
  rise : rows.Pairwise fun a b => a.1 ≤ b.1
  mom : ∀ r ∈ rows, 0 ≤ r.1 ∧ r.1 ≤ ((n : Int) + 1) * 2000000000000
  cost : ∀ r ∈ rows, 1 ≤ r.2 ∧ r.2 ≤ 2000000000000
theorem Fr.at {n j : Nat} {S S' : Sto} (h : Fr n S S') (hj : j ≠ n) {c : Option Cell} (e : S[j]? = c) : S'[j]? = c := (h.2 j hj).trans e
theorem Cs.take {n k : Nat} {m : Int} {S : Sto} (h : Cs n m S) (hk : n < k) : Cs n m (S.take k) := by
  obtain ⟨a, b, c, h1, h2⟩ := h
  exact ⟨a, b, c, by rw [List.getElem?_take_of_lt hk]; exact h1, h2⟩
def RqI (S : Sto) (n many : Nat) (m gap cost : Int) (i : Nat) (env : PEnv) (S' : Sto) : Prop := ∃ (rows : List (Int × Int)) (mo : Int) (x : Option PV), env = [some (.cell n), some (.int (many : Int)), some (.int gap), some (.int cost), some (.cell S.length), some (.int mo), x] ∧ S'.length = S.length + 1 ∧ Cs n (m + 2 + 5 * (i : Int)) S' ∧
    S'[S.length]? = some (.lst (rows.map rq)) ∧ rows.length = i ∧ rows.Pairwise (fun a b => a.1 ≤ b.1) ∧ (∀ r ∈ rows, 0 ≤ r.1 ∧ r.1 ≤ mo ∧ 1 ≤ r.2 ∧ r.2 ≤ 2000000000000 ∧ (r.2 ≤ 2 ∨ r.2 ≤ cost)) ∧ 0 ≤ mo ∧ mo ≤ ((i : Int) + 1) * 2000000000000 ∧ (∀ G : Int, gap ≤ G → 3 ≤ G → mo ≤ ((i : Int) + 1) * G) ∧ ∀ j, j ≠ n → j < S.length → S'[j]? = S[j]?
end LW

/-! PG: entries, rules, what passes. -/
namespace LW
open PySem PySem.Spec PyProof.Rows L2 LH
abbrev En : Type := Int × Int × Bool
def en (e : En) : PV := .tup [.int e.1, .int e.2.1, .bl e.2.2]
def kd (mt : Bool) : Str := if mt then "meter" else "bucket"
/-- rules -/
inductive Rl where
  | fill (mt : Bool) (a b c d : Int) | win (w m : Int) | frm (w m : Int) | gap (g : Int)
def encR : Rl → PV
  | .fill mt a b c d => .tup [.str (kd mt), .tup [.int a, .int b], .tup [.int c, .int d]]
  | .win w m => .tup [.str "window", .int w, .int m]
  | .frm w m => .tup [.str "frame", .int w, .int m]
  | .gap g => .tup [.str "gap", .int g]
/-- a span rule, its numbers not too great -/
def Sp : Rl → Prop
  | .fill .. => False
  | .win w m => 1 ≤ w ∧ w ≤ 10 ^ 50 ∧ 0 ≤ m
  | .frm w m => 1 ≤ w ∧ w ≤ 10 ^ 50 ∧ 0 ≤ m
  | .gap g => 0 ≤ g
/-- an entry counts at t -/
def cnt (r : Rl) (t : Int) (e : En) : Bool := e.2.2 && (match r with
  | .win w _ => decide (t - w < e.1)
  | .frm w _ => e.1 / w == t / w
  | _ => false)
def spent (r : Rl) (t : Int) (l : List En) : Int := ((l.filter (cnt r t)).map fun e => e.2.1).sum
def lastP (l : List En) : PV := match (l.filter fun e => e.2.2).getLast? with
  | some e => .int e.1
  | none => .non
def enough (a b c d s since : Int) : Bool := decide (s * b * d ≤ a * d + c * since * b)
/-- the lines of a bucket | a meter: youngest first -/
def fillR (mt : Bool) (a b c d t : Int) : Int → List En → Bool
  | _, [] => true
  | s, e :: r => if e.2.2 = true ∨ mt = true then enough a b c d (s + e.2.1) (t - e.1) && fillR mt a b c d t (s + e.2.1) r else fillR mt a b c d t s r
def passR (r : Rl) (past : List En) (t p : Int) : Bool := match r with
  | .fill mt a b c d => enough a b c d p 0 && fillR mt a b c d t p past.reverse
  | .win _ m => decide (p + spent r t past ≤ m)
  | .frm _ m => decide (p + spent r t past ≤ m)
  | .gap g => match (past.filter fun e => e.2.2).getLast? with
    | none => true
    | some e => decide (g ≤ t - e.1)
def heardL (r : Rl) (rows : List (Int × Int)) : List En := rows.foldl (fun past p => past ++ [(p.1, p.2, passR r past p.1 p.2)]) []
/-- a row that is well formed -/
structure Row (rows : List (Int × Int)) : Prop where
  rise : rows.Pairwise fun a b => a.1 ≤ b.1
  mom : ∀ r ∈ rows, 0 ≤ r.1
  cost : ∀ r ∈ rows, 1 ≤ r.2
theorem Rq.row {rows : List (Int × Int)} {n : Nat} (h : Rq rows n) : Row rows := ⟨h.rise, fun r hr => (h.mom r hr).1, fun r hr => (h.cost r hr).1⟩
def oks (H : List En) : List PV := H.map fun e => .bl e.2.2
def kept (H : List En) : List En := H.filter fun e => e.2.2
def rqe (e : En) : PV := rq (e.1, e.2.1)
end LW

/-! PT: the greatest divisor, fractions in lowest terms. -/
namespace LW
open PySem PySem.Spec PyProof.Rows L2 LH
def gH : TestD := tstE (binE neV (vE 1) (cE (.int 0)))
def gB : StmtD := par2S 0 1 (consA (vE 1) (consA (binE modV (bE intB (consA (vE 0) (nilA))) (vE 1)) (nilA)))
/-- in lowest terms -/
structure Lt (a b : Int) (B : Int) : Prop where
  a0 : 0 ≤ a
  b1 : 1 ≤ b
  co : Nat.gcd a.toNat b.toNat = 1
  aB : a ≤ B
  bB : b ≤ B
/-- a fill rule of naturals, in lowest terms, not too great -/
structure FN (a b c d : Nat) : Prop where
  a : a ≤ 100000000000000000000
  b : 1 ≤ b ∧ b ≤ 100000000000000000000
  c : c ≤ 100000000000000000000
  d : 1 ≤ d ∧ d ≤ 100000000000000000000
end LW

/-! PXg: the program's greatest divisor. -/
namespace LW
open PySem PySem.Spec PyProof.Rows L2 LH
end LW

/-! PI: doors: ints, requests, what rises. -/
namespace LW
open PySem PySem.Spec PyProof.Rows L2 LH
@[simp] theorem is_integer_i (i : Int) (S : Sto) : d_is_integer_T [.int i] S = .ok (.bl true) S := by
  unfold d_is_integer_T; simp
@[simp] theorem is_at_least_i (i j : Int) (S : Sto) : d_is_at_least_T [.int i, .int j] S = .ok (.bl (decide (j ≤ i))) S := by
  unfold d_is_at_least_T; simp
end LW

/-! LSS: s.upper(), l.index(x), and whether a list or a tuple of any things is empty. -/
namespace LH
open PySem PySem.Spec PyProof.Rows L2
def upV : PV → Sto → Res PV := fun x S => match x with
  | .str z => if z.length ≤ 5592405 then .ok (.str (Txt.upper z)) S else .stuck
  | _ => .stuck
def findP (y : PV) : List PV → Option Nat
  | [] => none
  | x :: r => if feq x y = true then some 0 else (findP y r).map (· + 1)
def indexV (d y : PV) (S : Sto) : Res PV := match lstOf S d with
  | some xs => if flat y = true ∧ xs.all flat = true then (match findP y xs with
    | some j => .ok (.int (j : Nat)) S
    | none => .stuck) else .stuck
  | none => .stuck
def indexE (fo f : ExprD) : ExprD := fun env S => (fo env S).bind fun d S1 => match lstOf S1 d with
  | some _ => (f env S1).bind fun y S2 => indexV d y S2
  | none => .stuck
section
variable {X : Cx} {W : WX} {o e : Expr} {fo f : ExprD} {apos pos : Pos}
end
/-! ### is it empty? -/
def zlen (S : Sto) (x y : PV) : Option Nat := match x, y with
  | .tup xs, .tup [] => some xs.length
  | d, e => match lstOf S d, lstOf S e with
    | some xs, some [] => some xs.length
    | _, _ => none
def eqZV : PV → PV → Sto → Res PV := fun x y S => match zlen S x y with
  | some n => .ok (.bl (n == 0)) S
  | none => eqV x y S
def neZV : PV → PV → Sto → Res PV := fun x y S => match zlen S x y with
  | some n => .ok (.bl (!(n == 0))) S
  | none => neV x y S
@[simp] theorem eqZ_tup {xs : List PV} {S : Sto} : eqZV (.tup xs) (.tup []) S = .ok (.bl (xs.length == 0)) S := (rfl)
@[simp] theorem neZ_tup {xs : List PV} {S : Sto} : neZV (.tup xs) (.tup []) S = .ok (.bl (!(xs.length == 0))) S := (rfl)
@[simp] theorem eqZ_lst {xs : List PV} {S : Sto} : eqZV (.lst xs) (.lst []) S = .ok (.bl (xs.length == 0)) S := (rfl)
@[simp] theorem neZ_lst {xs : List PV} {S : Sto} : neZV (.lst xs) (.lst []) S = .ok (.bl (!(xs.length == 0))) S := (rfl)
section
variable {X : Cx} {E : XK}
end
end LH

/-! JU: what the program says of any plain value: is it a fraction, a request, an entry, a row, a log, a rule. -/
namespace LW
open PySem PySem.Spec PyProof.Rows L2 LH
mutual
/-- a value with nothing mutable in it -/
def pln : PV → Bool
  | .non => true
  | .bl _ => true
  | .int _ => true
  | .str x => x.cps.all (· < 0x110000)
  | .tup xs => plns xs
  | .lst xs => plns xs
  | .opq _ => true
  | _ => false
def plns : List PV → Bool
  | [] => true
  | x :: xs => pln x && plns xs
end
mutual
theorem pln_bel (k : Nat) : ∀ d : PV, pln d = true → bel k d = true
  | .non, _ => rfl
  | .bl _, _ => rfl
  | .int _, _ => rfl
  | .str _, _ => rfl
  | .opq _, _ => rfl
  | .tup xs, h => by simp only [pln] at h; simp only [bel]; exact plns_bels k xs h
  | .lst xs, h => by simp only [pln] at h; simp only [bel]; exact plns_bels k xs h
  | .ro _, h => by simp [pln] at h
  | .cell _, h => by simp [pln] at h
  | .ty _, h => by simp [pln] at h
  | .adr _, h => by simp [pln] at h
  | .xo _ _ _ _, h => by simp [pln] at h
theorem plns_bels (k : Nat) : ∀ xs : List PV, plns xs = true → bels k xs = true
  | [], _ => rfl
  | x :: xs, h => by
    simp only [plns, Bool.and_eq_true] at h
    simp only [bels, pln_bel k x h.1, plns_bels k xs h.2, Bool.and_self]
end
section
variable {S : Sto} {xs : List PV}
@[simp] theorem ii_opqJ {t : Value} : isinB [.opq t, .ty "int"] S = .ok (.bl false) S := isin_v (fun _ h => nomatch h) (fun _ h => nomatch h) rfl
@[simp] theorem ib_opqJ {t : Value} : isinB [.opq t, .ty "bool"] S = .ok (.bl false) S := isin_v (fun _ h => nomatch h) (fun _ h => nomatch h) rfl
@[simp] theorem is_opqJ {t : Value} : isinB [.opq t, .ty "str"] S = .ok (.bl false) S := isin_v (fun _ h => nomatch h) (fun _ h => nomatch h) rfl
@[simp] theorem it_opqJ {t : Value} : isinB [.opq t, .ty "tuple"] S = .ok (.bl false) S := isin_v (fun _ h => nomatch h) (fun _ h => nomatch h) rfl
@[simp] theorem il_opqJ {t : Value} : isinB [.opq t, .ty "list"] S = .ok (.bl false) S := isin_v (fun _ h => nomatch h) (fun _ h => nomatch h) rfl
@[simp] theorem it_strJ {x : Str} : isinB [.str x, .ty "tuple"] S = .ok (.bl false) S := (rfl)
@[simp] theorem is_nonJ : isinB [.non, .ty "str"] S = .ok (.bl false) S := (rfl)
@[simp] theorem is_tupJ : isinB [.tup xs, .ty "str"] S = .ok (.bl false) S := (rfl)
@[simp] theorem is_lstJ : isinB [.lst xs, .ty "str"] S = .ok (.bl false) S := (rfl)
end
/-- an integer from n on -/
def atl (n : Int) : PV → Bool
  | .int i => decide (n ≤ i)
  | _ => false
def isStr : PV → Bool
  | .str _ => true
  | _ => false
def isIntB : PV → Bool
  | .int _ => true
  | _ => false
def isTup : PV → Bool
  | .tup _ => true
  | _ => false
def fraB : PV → Bool
  | .tup [x, y] => match x, y with
    | .int a, .int b => decide (0 ≤ a) && (decide (1 ≤ b) && Nat.gcd a.toNat b.toNat == 1)
    | _, _ => false
  | _ => false
def reqB : PV → Bool
  | .tup [x, y] => atl 0 x && atl 1 y
  | _ => false
def isBl : PV → Bool
  | .bl _ => true
  | _ => false
def entB : PV → Bool
  | .tup [x, y, z] => atl 0 x && (atl 1 y && isBl z)
  | _ => false
def fsI : PV → Int
  | .tup (.int i :: _) => i
  | _ => 0
def rsB (xs : List PV) : Bool := (List.range (xs.length - 1)).all fun i => decide (fsI (xs[i]?.getD .non) ≤ fsI (xs[i + 1]?.getD .non))
def rowB : PV → Bool
  | .tup xs => xs.all reqB && rsB xs
  | _ => false
def logB : PV → Bool
  | .tup xs => xs.all entB && rsB xs
  | _ => false
def ruleB : PV → Bool
  | .tup (.str s :: r) =>
    if s = "bucket" ∨ s = "meter" then (match r with | [x, y] => fraB x && fraB y | _ => false)
    else if s = "window" ∨ s = "frame" then (match r with | [x, y] => atl 1 x && atl 0 y | _ => false)
    else if s = "gap" then (match r with | [x] => atl 0 x | _ => false)
    else false
  | _ => false
section
variable {S : Sto}
end
end LW

/-! JL: the law's own judges say the same. -/
namespace LW
open PySem PySem.Spec PyProof.Rows L2 LH
section
variable {S : Sto}
/-- an entry or a request -/
def entN (n : Int) : PV → Bool := if n = 3 then entB else reqB
def logN (n : Int) : PV → Bool
  | .tup xs => xs.all (entN n) && rsB xs
  | _ => false
end
end LW

/-! SQ: statement by statement; lists of plain values of small size. -/
namespace LW
open PySem PySem.Spec PyProof.Rows L2 LH
section
variable {S S' : Sto} {env env' : PEnv} {p q : StmtD} {r : Res LH.Flow} {d : PV}
theorem seqS_of (env' : PEnv) (S' : Sto) (h : p env S = .ok (.nx env') S') (k : q env' S' = r) : seqS p q env S = r := by
  rw [seqS_s, h, seqK_nx]; exact k
theorem fnK_of {v : PV} (h : r = .ok (.rt v) S) : fnK r = .ok v S := by rw [h]; rfl
@[simp] theorem seqK_exJ {x : Exc} : seqK q (.ok (.ex x env) S) = .ok (.ex x env) S := (rfl)
@[simp] theorem fnK_exJ {x : Exc} : fnK (.ok (.ex x env) S) = .exc x S := (rfl)
@[simp] theorem exTK_excJ {n : Nat} {nm : Str} : exTK n (.exc ⟨nm, []⟩ S) = .exc ⟨nm, []⟩ (S.take n) := (rfl)
theorem negV_i (i : Int) : LH.negV (.int i) S = .ok (.int (-i)) S := (rfl)
theorem exT_of {v : PV} {n : Nat} {S2 : Sto} (S' : Sto) (h : r = .ok (.rt v) S') (hv : pln v = true) (ht : S'.take n = S2) : exTK n (fnK r) = .ok v S2 := by
  rw [fnK_of h, exTK_val (fun k hk => by subst hk; simp [pln] at hv) (pln_bel _ _ hv), ht]
def szB : PV → Bool
  | .tup xs => decide (xs.length ≤ 1000)
  | _ => true
/-- plain, and if a tuple, a small one -/
def gd (d : PV) : Bool := pln d && szB d
/-- a value in the place of a tuple's item, or between two -/
def putG (xs : List PV) (i j : Int) (d : PV) : PV := .tup (cutP xs none (some i) ++ [d] ++ cutP xs (some j) none)
end
end LW

/-! K00a: each error class raised and caught (k00). -/
namespace LW
open PySem PySem.Spec PyProof.Rows L2 LH
abbrev NM0 : List Str := ["InvalidCost", "InvalidEntry", "InvalidFraction", "InvalidIndex", "InvalidKind", "InvalidKinds", "InvalidLog", "InvalidLogs", "InvalidNumber", "InvalidPassed", "InvalidRequest", "InvalidRow", "InvalidRule", "InvalidRules", "InvalidText", "InvalidTicks", "InvalidTime", "InvalidTries", "NoRule", "NotFitting", "NotHeard", "NothingToUndo", "Open", "OtherKind", "TooEarly", "TooMany"]
def mrk (x : Exc) : List PV := NM0.map fun n => PV.bl (tabE x.name n)
theorem trySy_ex {p : StmtD} {NS : List Str} {c : Str} {i : Nat} {q : Addr → Addr → Exc → StmtD} {env : PEnv} {S S1 : Sto} {x : Exc} {e : PEnv} {r : Res LH.Flow} (h : p env S = .ok (.ex x e) S1) (hn : x.name ∈ NS) (ht : tabE x.name c = true) (hq : ∀ a dd, outI i (q a dd x (e.set i (some (exP a dd x))) S1) = r) : trySy p NS c i q env S = r := by
  unfold trySy
  rw [h]
  dsimp only
  rw [if_pos hn, if_pos ht]
  exact uniA_of fun a => uniA_of fun dd => hq a dd
theorem marks_ok (x : Exc) (a dd : Addr) (S : Sto) : d__law_marks_X x a dd S = .ok (.lst (mrk x)) S := by
  have i0 : ∀ (e1 : Option PV) (b : Bool) (S : Sto), isxP 0 (exP a dd x) b [some (exP a dd x), e1] S = .ok (.bl b) S := fun e1 b S => isxP_at rfl
  unfold d__law_marks_X exitX
  rw [exitT_s]
  unfold fnX
  simp [i0, addV_lst, exTK, bel, bels, mrk]
theorem raised_ok (w : Nat) (hw : w < 26) (S : Sto) : ∃ x : Exc, d__law_raised_one_T [.int (w : Int)] S = .exc x S ∧ NM0[w]? = some x.name := by
  have h : w ∈ List.range 26 := List.mem_range.mpr hw
  simp only [List.range, List.range.loop, List.mem_cons, List.not_mem_nil, or_false] at h
  rcases h with rfl | rfl | rfl | rfl | rfl | rfl | rfl | rfl | rfl | rfl | rfl | rfl | rfl | rfl | rfl | rfl | rfl | rfl | rfl | rfl | rfl | rfl | rfl | rfl | rfl | rfl
  all_goals
    refine ⟨_, by simp [d__law_raised_one_T, d__law_raised_more_T, raiseFS]; rfl, ?_⟩
    rfl
end LW

/-! K00z: the law (k00). -/
namespace LW
open PySem PySem.Spec PyProof.Rows L2 LH
theorem mrk_of {w : Nat} {x : Exc} (h : NM0[w]? = some x.name) : mrk x = NM0.map fun n => PV.bl (n == NM0.getD w "") := by
  have hx : x.name = NM0.getD w "" := by rw [List.getD_eq_getElem?_getD, h]; rfl
  unfold mrk
  refine List.map_congr_left fun n hn => ?_
  have hl : (n == ("LimitError" : Str)) = false := by
    have : ∀ n ∈ NM0, (n == ("LimitError" : Str)) = false := by decide +kernel
    exact this n hn
  have e : tabE x.name n = (n == NM0.getD w "") := by
    unfold tabE
    rw [hl, Bool.or_false, ← hx]
    exact Bool.beq_comm
  rw [e]
theorem cnt_mrk {w : Nat} (hw : w < 26) (S : Sto) : countV (.lst (NM0.map fun n => PV.bl (n == NM0.getD w ""))) (.bl true) S = .ok (.int 1) S ∧ itemV (.lst (NM0.map fun n => PV.bl (n == NM0.getD w ""))) (.int (w : Int)) S = .ok (.bl true) S := by
  have h : w ∈ List.range 26 := List.mem_range.mpr hw
  simp only [List.range, List.range.loop, List.mem_cons, List.not_mem_nil, or_false] at h
  rcases h with rfl | rfl | rfl | rfl | rfl | rfl | rfl | rfl | rfl | rfl | rfl | rfl | rfl | rfl | rfl | rfl | rfl | rfl | rfl | rfl | rfl | rfl | rfl | rfl | rfl | rfl
  all_goals exact ⟨rfl, rfl⟩
theorem nsx_of {w : Nat} {x : Exc} (hw : w < 26) (h : NM0[w]? = some x.name) : x.name ∈ NSX ∧ tabE x.name "LimitError" = true := by
  have hx : x.name ∈ NM0 := List.mem_of_getElem? h
  refine ⟨?_, ?_⟩
  · have : ∀ n ∈ NM0, n ∈ NSX := by decide +kernel
    exact this _ hx
  · unfold tabE
    rw [show (("LimitError" : Str) == "LimitError") = true from by decide +kernel, Bool.or_true]
theorem way_ok {w : Nat} (hw : w < 26) (S : Sto) : d__law_way_right_T [.int (w : Int), .int 26] S = .ok (.bl true) S := by
  obtain ⟨x, h1, h2⟩ := raised_ok w hw S
  obtain ⟨h3, h4⟩ := nsx_of hw h2
  obtain ⟨c1, c2⟩ := cnt_mrk hw S
  have hm := mrk_of h2
  unfold d__law_way_right_T
  rw [fnD2]
  refine fnK_of ?_
  refine seqS_of [some (.int (w : Int)), some (.int 26), some (.lst []), some (.bl false), none] S (by simp) ?_
  refine seqS_of [some (.int (w : Int)), some (.int 26), some (.lst (mrk x)), some (.bl true), none] S ?_ ?_
  · refine trySy_ex (x := x) (e := [some (.int (w : Int)), some (.int 26), some (.lst []), some (.bl false), none]) (S1 := S) (by simp [h1]) h3 h4 fun a dd => ?_
    have i0 : ∀ (e0 e1 e2 e3 : Option PV) (S : Sto), callX 4 x a dd d__law_marks_X [e0, e1, e2, e3, some (exP a dd x)] S = .ok (.lst (mrk x)) S := fun e0 e1 e2 e3 S => by rw [callX_at rfl, marks_ok]
    have i1 : ∀ (e0 e1 e2 e3 : Option PV) (b : Bool) (S : Sto), isxP 4 (exP a dd x) b [e0, e1, e2, e3, some (exP a dd x)] S = .ok (.bl b) S := fun e0 e1 e2 e3 b S => isxP_at rfl
    simp [i0, i1]
  · have c0 : ∀ e0 e1 e3 e4 (S : Sto), countE (vE 2) (cE (.bl true)) [e0, e1, some (.lst (mrk x)), e3, e4] S = .ok (.int 1) S := fun e0 e1 e3 e4 S => by
      rw [hm]; exact (cnt_mrk hw S).1
    have c3 : itemV (.lst (mrk x)) (.int (w : Int)) S = .ok (.bl true) S := by rw [hm]; exact c2
    have c4 : (mrk x).length = 26 := by unfold mrk; rw [List.length_map]; rfl
    simp [c0, c3, c4]
end LW

/-! K00b: what exceptions keep (k00). -/
namespace LW
open PySem PySem.Spec PyProof.Rows L2 LH
theorem answers_err (S : Sto) : d_answers_T [.str "gap", .tup []] S = .exc ⟨"InvalidRule", []⟩ S := by
  have h : d_is_rule_T [.str "gap"] S = .ok (.bl false) S := by
    unfold d_is_rule_T
    simp
  simp [d_answers_T, d_check_rule_T, h]
abbrev g4 : PV := .tup [.str "gap", .int 4]
abbrev g9 : PV := .tup [.str "gap", .int 9]
abbrev w2 : PV := .tup [.str "window", .int 2, .int 3]
abbrev w1 : PV := .tup [.str "window", .int 1, .int 3]
theorem kept_ok (S : Sto) : d__law_kept_right_T [] S = .ok (.bl true) S := by
  have hcell : cellK [] S = .ok (.cell S.length) (S ++ [.lst []]) := cellK_ok (by simp) rfl
  have nO : ("Open" : Str) ∈ NSX := by decide +kernel
  have nN : ("NotFitting" : Str) ∈ NSX := by decide +kernel
  have nL : ("LimitError" : Str) ∈ NSX := by decide +kernel
  have nR : ("InvalidRule" : Str) ∈ NSX := by decide +kernel
  have xf : ∀ (a dd : Addr) (x : Exc) (f : Str) (d : PV), x.fields.lookup f = some d → ∀ (e0 e1 e2 : Option PV) (S : Sto), xfE 3 (exP a dd x) x f [e0, e1, e2, some (exP a dd x)] S = .ok d S := fun a dd x f d h e0 e1 e2 S => xfE_at rfl h
  have mk : ∀ (a dd : Addr) (x : Exc) (e0 e1 e2 : Option PV) (S : Sto), callX 3 x a dd d__law_marks_X [e0, e1, e2, some (exP a dd x)] S = .ok (.lst (mrk x)) S := fun a dd x e0 e1 e2 S => by rw [callX_at rfl, marks_ok]
  unfold d__law_kept_right_T
  rw [exitT_s]
  refine exT_of (S ++ [.lst [], .lst [g4, g9], .lst [g4, g9, w2, w1, .int 3, .int 0]]) ?_ rfl (by simp)
  show seqS _ _ [none, none, none, none] S = _
  refine seqS_of [some (.cell S.length), some (.lst [.bl true]), some (.lst []), none] (S ++ [.lst []]) (by simp [hcell]) ?_
  refine seqS_of [some (.cell (S.length + 1)), some (.lst [.bl true]), some (.lst []), none] (S ++ [.lst [], .lst [g4, g9]]) ?_ ?_
  · refine trySy_ex (x := ⟨"Open", [("other", g9), ("one", g4)]⟩) (e := [some (.cell S.length), some (.lst [.bl true]), some (.lst []), none]) (S1 := S ++ [.lst []]) (by simp [raiseFS, permA, permG]) nO (by decide +kernel) fun a dd => ?_
    have h1 := xf a dd ⟨"Open", [("other", g9), ("one", g4)]⟩ "one" g4 rfl
    have h2 := xf a dd ⟨"Open", [("other", g9), ("one", g4)]⟩ "other" g9 rfl
    have hc := addCV_cell (k := S.length) (xs := []) (ys := [g4, g9]) (S := S ++ [.lst []]) (by simp) (by simp) rfl
    simp [h1, h2, hc]
  refine seqS_of [some (.cell (S.length + 2)), some (.lst [.bl true]), some (.lst []), none] (S ++ [.lst [], .lst [g4, g9], .lst [g4, g9, w2, w1]]) ?_ ?_
  · refine trySy_ex (x := ⟨"Open", [("other", w1), ("one", w2)]⟩) (e := [some (.cell (S.length + 1)), some (.lst [.bl true]), some (.lst []), none]) (S1 := S ++ [.lst [], .lst [g4, g9]]) (by simp [raiseFS, permA, permG]) nO (by decide +kernel) fun a dd => ?_
    have h1 := xf a dd ⟨"Open", [("other", w1), ("one", w2)]⟩ "one" w2 rfl
    have h2 := xf a dd ⟨"Open", [("other", w1), ("one", w2)]⟩ "other" w1 rfl
    have hc := addCV_cell (k := S.length + 1) (xs := [g4, g9]) (ys := [w2, w1]) (S := S ++ [.lst [], .lst [g4, g9]]) (by simp) (by simp) rfl
    simp [h1, h2, hc]
  refine seqS_of [some (.cell (S.length + 2)), some (.lst [.bl true]), some (.lst []), none] (S ++ [.lst [], .lst [g4, g9], .lst [g4, g9, w2, w1, .int 3]]) ?_ ?_
  · refine trySy_ex (x := ⟨"NotFitting", [("index", .int 3)]⟩) (e := [some (.cell (S.length + 2)), some (.lst [.bl true]), some (.lst []), none]) (S1 := S ++ [.lst [], .lst [g4, g9], .lst [g4, g9, w2, w1]]) (by simp [raiseFS, permA, permG]) nN (by decide +kernel) fun a dd => ?_
    have h1 := xf a dd ⟨"NotFitting", [("index", .int 3)]⟩ "index" (.int 3) rfl
    have hT : (S ++ [.lst [], .lst [g4, g9], .lst [g4, g9, w2, w1]])[S.length + 2]? = some (.lst [g4, g9, w2, w1]) := by simp
    have ha := appG_of (f := xfE 3 (exP a dd ⟨"NotFitting", [("index", .int 3)]⟩) ⟨"NotFitting", [("index", .int 3)]⟩ "index") (env := [some (.cell (S.length + 2)), some (.lst [.bl true]), some (.lst []), some (exP a dd ⟨"NotFitting", [("index", .int 3)]⟩)]) hT
    have hp := pushC_of (y := .int 3) hT (by simp) rfl
    simp [h1, ha, hp]
  refine seqS_of [some (.cell (S.length + 2)), some (.lst [.bl true]), some (.lst []), none] (S ++ [.lst [], .lst [g4, g9], .lst [g4, g9, w2, w1, .int 3, .int 0]]) ?_ ?_
  · refine trySy_ex (x := ⟨"NotFitting", [("index", .int 0)]⟩) (e := [some (.cell (S.length + 2)), some (.lst [.bl true]), some (.lst []), none]) (S1 := S ++ [.lst [], .lst [g4, g9], .lst [g4, g9, w2, w1, .int 3]]) (by simp [raiseFS, permA, permG]) nN (by decide +kernel) fun a dd => ?_
    have h1 := xf a dd ⟨"NotFitting", [("index", .int 0)]⟩ "index" (.int 0) rfl
    have hT : (S ++ [.lst [], .lst [g4, g9], .lst [g4, g9, w2, w1, .int 3]])[S.length + 2]? = some (.lst [g4, g9, w2, w1, .int 3]) := by simp
    have ha := appG_of (f := xfE 3 (exP a dd ⟨"NotFitting", [("index", .int 0)]⟩) ⟨"NotFitting", [("index", .int 0)]⟩ "index") (env := [some (.cell (S.length + 2)), some (.lst [.bl true]), some (.lst []), some (exP a dd ⟨"NotFitting", [("index", .int 0)]⟩)]) hT
    have hp := pushC_of (y := .int 0) hT (by simp) rfl
    simp [h1, ha, hp]
  generalize hTT : S ++ [.lst [], .lst [g4, g9], .lst [g4, g9, w2, w1, .int 3, .int 0]] = T
  have hT : T[S.length + 2]? = some (.lst [g4, g9, w2, w1, .int 3, .int 0]) := by rw [← hTT]; simp
  refine seqS_of [some (.cell (S.length + 2)), some (.lst (mrk ⟨"LimitError", []⟩)), some (.lst []), none] T ?_ ?_
  · refine trySy_ex (x := ⟨"LimitError", []⟩) (e := [some (.cell (S.length + 2)), some (.lst [.bl true]), some (.lst []), none]) (S1 := T) (by simp) nL (by decide +kernel) fun a dd => ?_
    simp [mk]
  refine seqS_of [some (.cell (S.length + 2)), some (.lst (mrk ⟨"LimitError", []⟩)), some (.lst (mrk ⟨"InvalidRule", []⟩)), none] T ?_ ?_
  · refine trySy_ex (x := ⟨"InvalidRule", []⟩) (e := [some (.cell (S.length + 2)), some (.lst (mrk ⟨"LimitError", []⟩)), some (.lst []), none]) (S1 := T) (by simp [answers_err]) nR (by decide +kernel) fun a dd => ?_
    simp [mk]
  have hne : LH.neV (.cell (S.length + 2)) (.lst [g4, g9, w2, w1, .int 3, .int 0]) T = .ok (.bl false) T := by
    rw [neq_lst_of (lstOf_cell hT) (by decide +kernel) (by decide +kernel)]
    refine congrArg (fun b : Bool => Res.ok (PV.bl b) T) ?_
    decide +kernel
  have hin : LH.inV (.bl true) (.lst (mrk ⟨"LimitError", []⟩)) T = .ok (.bl false) T := rfl
  have hlist : listK [g4, g9, w2, w1, .int 3, .int 0] T = .ok (.lst [g4, g9, w2, w1, .int 3, .int 0]) T := listK_ok (by simp)
  have hc : ∀ e0 e1 e3 (S : Sto), countE (vE 2) (cE (.bl true)) [e0, e1, some (.lst (mrk ⟨"InvalidRule", []⟩)), e3] S = .ok (.int 1) S := fun e0 e1 e3 S => by
    exact rfl
  have hi : itemV (.lst (mrk ⟨"InvalidRule", []⟩)) (.int 12) T = .ok (.bl true) T := rfl
  refine seqS_of [some (.cell (S.length + 2)), some (.lst (mrk ⟨"LimitError", []⟩)), some (.lst (mrk ⟨"InvalidRule", []⟩)), none] T (by simp [hlist, hne, hin]) ?_
  simp [hc, hi]
theorem spot_ok (ns : List Int) (x3 : Option PV) : ∃ w : Nat, w < 26 ∧ asgS (.nm 2) (iteE (tstE (binE LH.neV (vE 0) (listE nilA))) (binE modV (bE intB (consA (binE itemV (vE 0) (cE (.int 0))) nilA)) (vE 1)) (cE (.int 0))) [some (.ro (ns.map .int)), some (.int 26), none, x3] [] = .ok (.nx [some (.ro (ns.map .int)), some (.int 26), some (.int (w : Int)), x3]) [] := by
  have hl : listK [] ([] : Sto) = .ok (.lst []) [] := listK_ok (by simp)
  have hc : chks 59 (ns.map PV.int) = true := chk_enc ns
  have hne := ne_nil_of (S := []) (x := .ro (ns.map .int)) rfl hc
  cases ns with
  | nil =>
    refine ⟨0, by omega, ?_⟩
    simp at hne
    simp [hl, hne]
  | cons n r =>
    have h0 : 0 ≤ n % 26 := Int.emod_nonneg _ (by decide)
    have h1 : n % 26 < 26 := Int.emod_lt_of_pos _ (by decide)
    obtain ⟨w, hw⟩ := Int.eq_ofNat_of_zero_le h0
    refine ⟨w, by omega, ?_⟩
    have hi : itemV (.ro ((n :: r).map .int)) (.int 0) ([] : Sto) = .ok (.int n) [] := itemV_of (xs := (n :: r).map .int) rfl (by simp [ixP])
    simp at hne hi
    simp [hl, hne, hi, modV_i, hw]
theorem law_ok (ns : List Int) (h : ns.length ≤ 63) : ∃ S, d_law_T [.ro (ns.map .int)] [] = .ok (.bl true) S := by
  obtain ⟨w, hw, hs⟩ := spot_ok ns none
  refine ⟨[], ?_⟩
  unfold d_law_T
  rw [fnD1]
  refine fnK_of ?_
  show seqS _ _ [some (.ro (ns.map .int)), none, none, none] [] = _
  refine seqS_of [some (.ro (ns.map .int)), some (.int 26), none, none] [] (by simp) ?_
  refine seqS_of _ [] hs ?_
  refine seqS_of [some (.ro (ns.map .int)), some (.int 26), some (.int (w : Int)), none] [] (by simp [way_ok hw, kept_ok]) ?_
  have hr : rg1K (.int 26) ([] : Sto) = .ok (none, rangeP 0 26) [] := rg1K_nat (n := 26) (by omega)
  have hcomp : ∀ env0 : PEnv, (∃ a c, env0 = [a, some (.int 26), c, none]) → compL none (rangeP 0 26) (.nm 3) G_law_T_0 X_law_T_0 env0 (rangeP 0 26) [] [] = .ok (.lst []) [] := by
    rintro env0 ⟨a, c, rfl⟩
    have := comp_filterA (l := List.range 26) (f := fun i => .int ((i : Nat) : Int)) (t := .nm 3) (tst := G_law_T_0) (el := X_law_T_0) (env0 := [a, some (.int 26), c, none]) (S := []) (fun _ => false) (fun i => .int ((i : Nat) : Int)) fun i hi => by
      have hi := List.mem_range.mp hi
      exact ⟨[a, some (.int 26), c, some (.int (i : Int))], by simp [Tg.bind], by simp [G_law_T_0, way_ok hi], fun z => Bool.noConfusion z⟩
    have e : rangeP 0 26 = (List.range 26).map (fun i => PV.int ((i : Nat) : Int)) := rfl
    rw [e, this]
    rfl
  have hl : listK [] ([] : Sto) = .ok (.lst []) [] := listK_ok (by simp)
  have he : LH.eqV (.lst []) (.lst []) ([] : Sto) = .ok (.bl true) [] := rfl
  have hcw := hcomp (wipeE [some (.ro (ns.map .int)), some (.int 26), some (.int (w : Int)), none] [3]) ⟨_, _, rfl⟩
  simp [hr, hcw, hl, he]
end LW

theorem PySem.Challenge.cw_limiterheard_k00_error_classes_holds : PySem.Challenge.rw_limiterheard_k00_error_classes.Holds :=
  LW.holds_of LW.law_ok
