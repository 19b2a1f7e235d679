import PyProof.Rows.All
import Wide.All
import OpenK.AllK
import Wide.FinOn
import KE.KStateDown
import KE.KIsAll
import HandS.ExcIs
import HandS.Head0
import HandS.Head1
import HandS.Head2
import HandS.HeadEnd
import HandS.HeadHook1
import HandS.HeadHook2
import HandS.Base
import HandS.Call
import HandS.Property
import HandS.Defaults
import HandS.Ends
import HandS.More
import HandS.Words
import HandS.WordsExc
import HandS.ForMost
import HandS.ForExc
import HandS.IsInst
import HandS.CallSlots
import HandS.Wide
import HandS.TupAny
import HandS.Zip
import HandS.Rev
import HandS.SortInts
import HandS.TupSets
import KE.SortData
import HandS.Text
import HandS.Star
import HandS.Style
import KE.GoesMore
import KE.GoesEnum
import PyProof.ListNew
import HandS.SetFor
import HandS.Strs
import HandS.Comp
import HandS.Dict
import HandS.Conv
import KE.DatumOrd
import KE.KDictZip
import KE.KDictItemsList
import HandS.ListItems
import HandS.List
import OpenK.KMake
import HandS.CallLocal
import PyProof.MeetsIn
import PyProof.NeKinds
import PySem.Challenge.RW_limiterheard_k01_rules_and_logs_judged
set_option Elab.async false
set_option linter.all false
set_option maxRecDepth 100000
set_option maxHeartbeats 0
/-! LOQB: what the kernel looks up of a class whose instances are only passed on. -/
namespace LH
open PySem PySem.Spec PyProof.Rows L2
def opcB (K : PySem.W.Frag) (c : Str) : Bool :=
  decide (PySem.W.findIn K (.ref (He.ga K c)) "__class__" = some (some (.builtin "object.__class__"))) && (decide (PySem.W.specialIn K (.builtin "object.__class__") "__get__" = some (some (.builtin "getset_descriptor.__get__"))) && (decide (PySem.W.takesIn K (.builtin "object.__class__") = some true) &&
    (decide (PySem.W.mroIn K (He.ga K c) (.type "object") = some true) && (["int", "bool", "str", "tuple", "list"] : List String).all fun T => decide (PySem.W.kitOne K (.ref (He.ga K c)) (.type T) = some false))))
end LH

/-! LHA: the head of a law with own classes, what the kernel runs (leans on the kit alone). -/
namespace LH
open PySem PySem.Spec PyProof.Rows L2
/-! ### the text: a class's defs -/
def clsBody : Stmt → List Stmt
  | .ClassDef _ _ _ b _ _ _ _ _ _ _ => b
  | _ => []
def inCls (st : Stmt) (i : Nat) : Stmt := (clsBody st).getD i (.Pass ⟨0, 0, 0, 0⟩)
/-! ### a part of the heap that holds the classes' defs -/
def nsOfC (K : PySem.W.Frag) (x : Str) : List Addr := match K.lookup (He.ga K x) with
  | some ⟨_, _, .cls cd, _⟩ => [cd.ns]
  | _ => []
def asFrom (g : Addr → Option Obj) : Nat → List Addr → List Addr
  | 0, as => as
  | n + 1, as => asFrom g n (He.growD g as)
def asC (cs : List Str) (g : Addr → Option Obj) : List Addr := He.asD g 2 ++ asFrom g 3 (cs.flatMap fun x => nsOfC (He.frG g (He.asD g 2)) x)
def obsC (cs : List Str) (fa : List He.Fa) (fn : List He.DefD) (ex : PySem.W.Frag → Bool) (g : Addr → Option Obj) : He.AlD × Bool := (He.obsD fa fn (He.frG g (asC cs g)), ex (He.frG g (asC cs g)))
def hookC (cs : List Str) (fa : List He.Fa) (fn : List He.DefD) (ex : PySem.W.Frag → Bool) : PySem.W.Hook where
  α := He.AlD × Bool
  obs := fun s => obsC cs fa fn ex s.heap.get?
  val := fun _ => (He.valD fn, true)
  says := fun _ h => ∃ K : PySem.W.Frag, K.In h ∧ He.SaysD fa fn K ∧ ex K = true
  of := fun _ _ e => ⟨_, He.frG_in, congrArg Prod.fst e, congrArg Prod.snd e⟩
  keeps := fun _ _ _ ⟨K, hK, c⟩ k => ⟨K, PySem.W.Frag.In.keeps hK k, c⟩
theorem obsC_eq {cs : List Str} {fa : List He.Fa} {fn : List He.DefD} {ex : PySem.W.Frag → Bool} {g : Addr → Option Obj} {s : Shared} (h : ∀ a, g a = s.heap.get? a) : obsC cs fa fn ex g = (hookC cs fa fn ex).obs s := by
  have e : g = s.heap.get? := funext h
  rw [e] <;> rfl
end LH

namespace LH
end LH
namespace LW
open PySem PySem.Spec PyProof.Rows L2 LH
/-! the text: its defs by their places -/
def top (i : Nat) : Stmt := PySem.Challenge.pw_limiterheard_k01_rules_and_logs_judged.main.body.getD i (.Pass ⟨0, 0, 0, 0⟩)
abbrev s__law_case : Stmt := top 118
abbrev s__law_take : Stmt := top 119
abbrev s__law_common : Stmt := top 121
abbrev s__law_lowest : Stmt := top 122
abbrev s__law_fraction : Stmt := top 123
abbrev s__law_rule : Stmt := top 124
abbrev s_is_integer : Stmt := top 25
abbrev s_is_at_least : Stmt := top 26
abbrev s_greatest_divisor : Stmt := top 27
abbrev s_is_fraction : Stmt := top 28
abbrev s_is_rule : Stmt := top 35
abbrev s__law_same : Stmt := top 120
abbrev s__law_no_rule : Stmt := top 127
abbrev s__law_is_whole : Stmt := top 128
abbrev s__law_is_rule : Stmt := top 129
abbrev s__law_requests : Stmt := top 125
abbrev s__law_draws : Stmt := top 126
abbrev s_is_request : Stmt := top 30
abbrev s_is_entry : Stmt := top 31
abbrev s_is_rising : Stmt := top 32
abbrev s_is_log : Stmt := top 34
abbrev s_is_row : Stmt := top 33
abbrev s__law_no_log : Stmt := top 130
abbrev s__law_is_log : Stmt := top 132
abbrev s__law_no_row : Stmt := top 131
abbrev s_check_kind : Stmt := top 40
abbrev s_check_log : Stmt := top 37
abbrev s_Heard___init__ : Stmt := inCls (top 116) 0
abbrev s_check_rule : Stmt := top 36
abbrev s_Door___init__ : Stmt := inCls (top 115) 0
abbrev s_law : Stmt := top 133
/-! the head -/
def D__law_case : He.DefD := ⟨("_law_case", none), "_law_case", "_law_case", defArgs s__law_case, defBody s__law_case, defScope s__law_case, [], []⟩
def D__law_take : He.DefD := ⟨("_law_take", none), "_law_take", "_law_take", defArgs s__law_take, defBody s__law_take, defScope s__law_take, [], []⟩
def D__law_common : He.DefD := ⟨("_law_common", none), "_law_common", "_law_common", defArgs s__law_common, defBody s__law_common, defScope s__law_common, [], []⟩
def D__law_lowest : He.DefD := ⟨("_law_lowest", none), "_law_lowest", "_law_lowest", defArgs s__law_lowest, defBody s__law_lowest, defScope s__law_lowest, [], []⟩
def D__law_fraction : He.DefD := ⟨("_law_fraction", none), "_law_fraction", "_law_fraction", defArgs s__law_fraction, defBody s__law_fraction, defScope s__law_fraction, [], []⟩
def D__law_rule : He.DefD := ⟨("_law_rule", none), "_law_rule", "_law_rule", defArgs s__law_rule, defBody s__law_rule, defScope s__law_rule, [], []⟩
def D_is_integer : He.DefD := ⟨("is_integer", none), "is_integer", "is_integer", defArgs s_is_integer, defBody s_is_integer, defScope s_is_integer, [], []⟩
def D_is_at_least : He.DefD := ⟨("is_at_least", none), "is_at_least", "is_at_least", defArgs s_is_at_least, defBody s_is_at_least, defScope s_is_at_least, [], []⟩
def D_greatest_divisor : He.DefD := ⟨("greatest_divisor", none), "greatest_divisor", "greatest_divisor", defArgs s_greatest_divisor, defBody s_greatest_divisor, defScope s_greatest_divisor, [], []⟩
def D_is_fraction : He.DefD := ⟨("is_fraction", none), "is_fraction", "is_fraction", defArgs s_is_fraction, defBody s_is_fraction, defScope s_is_fraction, [], []⟩
def D_is_rule : He.DefD := ⟨("is_rule", none), "is_rule", "is_rule", defArgs s_is_rule, defBody s_is_rule, defScope s_is_rule, [], []⟩
def D__law_same : He.DefD := ⟨("_law_same", none), "_law_same", "_law_same", defArgs s__law_same, defBody s__law_same, defScope s__law_same, [], []⟩
def D__law_no_rule : He.DefD := ⟨("_law_no_rule", none), "_law_no_rule", "_law_no_rule", defArgs s__law_no_rule, defBody s__law_no_rule, defScope s__law_no_rule, [], []⟩
def D__law_is_whole : He.DefD := ⟨("_law_is_whole", none), "_law_is_whole", "_law_is_whole", defArgs s__law_is_whole, defBody s__law_is_whole, defScope s__law_is_whole, [], []⟩
def D__law_is_rule : He.DefD := ⟨("_law_is_rule", none), "_law_is_rule", "_law_is_rule", defArgs s__law_is_rule, defBody s__law_is_rule, defScope s__law_is_rule, [], []⟩
def D__law_requests : He.DefD := ⟨("_law_requests", none), "_law_requests", "_law_requests", defArgs s__law_requests, defBody s__law_requests, defScope s__law_requests, [], []⟩
def D__law_draws : He.DefD := ⟨("_law_draws", none), "_law_draws", "_law_draws", defArgs s__law_draws, defBody s__law_draws, defScope s__law_draws, [], []⟩
def D_is_request : He.DefD := ⟨("is_request", none), "is_request", "is_request", defArgs s_is_request, defBody s_is_request, defScope s_is_request, [], []⟩
def D_is_entry : He.DefD := ⟨("is_entry", none), "is_entry", "is_entry", defArgs s_is_entry, defBody s_is_entry, defScope s_is_entry, [], []⟩
def D_is_rising : He.DefD := ⟨("is_rising", none), "is_rising", "is_rising", defArgs s_is_rising, defBody s_is_rising, defScope s_is_rising, [], []⟩
def D_is_log : He.DefD := ⟨("is_log", none), "is_log", "is_log", defArgs s_is_log, defBody s_is_log, defScope s_is_log, [], []⟩
def D_is_row : He.DefD := ⟨("is_row", none), "is_row", "is_row", defArgs s_is_row, defBody s_is_row, defScope s_is_row, [], []⟩
def D__law_no_log : He.DefD := ⟨("_law_no_log", none), "_law_no_log", "_law_no_log", defArgs s__law_no_log, defBody s__law_no_log, defScope s__law_no_log, [], []⟩
def D__law_is_log : He.DefD := ⟨("_law_is_log", none), "_law_is_log", "_law_is_log", defArgs s__law_is_log, defBody s__law_is_log, defScope s__law_is_log, [], []⟩
def D__law_no_row : He.DefD := ⟨("_law_no_row", none), "_law_no_row", "_law_no_row", defArgs s__law_no_row, defBody s__law_no_row, defScope s__law_no_row, [], []⟩
def D_check_kind : He.DefD := ⟨("check_kind", none), "check_kind", "check_kind", defArgs s_check_kind, defBody s_check_kind, defScope s_check_kind, [], []⟩
def D_check_log : He.DefD := ⟨("check_log", none), "check_log", "check_log", defArgs s_check_log, defBody s_check_log, defScope s_check_log, [], []⟩
def D_Heard___init__ : He.DefD := ⟨("Heard", some "__init__"), "__init__", "Heard.__init__", defArgs s_Heard___init__, defBody s_Heard___init__, defScope s_Heard___init__, [], []⟩
def D_check_rule : He.DefD := ⟨("check_rule", none), "check_rule", "check_rule", defArgs s_check_rule, defBody s_check_rule, defScope s_check_rule, [], []⟩
def D_Door___init__ : He.DefD := ⟨("Door", some "__init__"), "__init__", "Door.__init__", defArgs s_Door___init__, defBody s_Door___init__, defScope s_Door___init__, [], []⟩
def D_law : He.DefD := ⟨("law", none), "law", "law", defArgs s_law, defBody s_law, defScope s_law, [], []⟩
def fn : List He.DefD := [D__law_case, D__law_take, D__law_common, D__law_lowest, D__law_fraction, D__law_rule, D_is_integer, D_is_at_least, D_greatest_divisor, D_is_fraction, D_is_rule, D__law_same, D__law_no_rule, D__law_is_whole, D__law_is_rule, D__law_requests, D__law_draws, D_is_request, D_is_entry, D_is_rising, D_is_log, D_is_row, D__law_no_log, D__law_is_log, D__law_no_row, D_check_kind, D_check_log, D_Heard___init__, D_check_rule, D_Door___init__, D_law]
def fa : List He.Fa := [.glo "_law_case", .glo "_law_take", .glo "_law_common", .glo "_law_lowest", .glo "_law_fraction", .glo "_law_rule", .glo "is_integer", .glo "is_at_least", .glo "greatest_divisor", .glo "is_fraction", .glo "is_rule", .glo "_law_same", .glo "_law_no_rule", .glo "_law_is_whole", .glo "_law_is_rule", .glo "_law_requests", .glo "_law_draws", .glo "is_request", .glo "is_entry", .glo "is_rising", .glo "is_log", .glo "is_row", .glo "_law_no_log", .glo "_law_is_log", .glo "_law_no_row", .glo "check_kind", .glo "check_log", .glo "check_rule", .glo "law", .free "abs", .free "all", .free "bool", .free "int", .free "isinstance", .free "len", .free "list", .free "max", .free "min", .free "range", .free "str", .free "tuple", .free "zip", .str "GAP" "gap", .glo "FILLED", .glo "KINDS", .glo "SPANNED", .glo "Door", .cls "Door", .noat "Door" "door_rule", .noat "Door" "asked", .glo "Heard", .cls "Heard", .noat "Heard" "heard_kind", .noat "Heard" "heard_logs", .mkr "Door", .mkr "Heard"]
def ex (K : PySem.W.Frag) : Bool := He.tupB K "FILLED" [.str "bucket", .str "meter"] && He.tupB K "KINDS" [.str "bucket", .str "meter", .str "window", .str "frame", .str "gap"] && He.tupB K "SPANNED" [.str "window", .str "frame"] && opcB K "Door" && opcB K "Heard"
abbrev R : PySem.W.OpenRow := PySem.W.OpenLaw.row PySem.Challenge.rw_limiterheard_k01_rules_and_logs_judged
abbrev hk : PySem.W.Hook := hookC ["Door", "Heard"] fa fn ex
def ob (s : PySem.W.SharedT) : He.AlD × Bool := obsC ["Door", "Heard"] fa fn ex (HandSHeadRun.getT s)
theorem ob_eq (s : PySem.W.SharedT) : ob s = hk.obs s.abs := obsC_eq (HandSHeadRun.getT_eq s)
def loose : List Str := (["_wall", "LimitError", "InvalidRule", "InvalidLog", "InvalidTime", "InvalidCost", "InvalidKind", "InvalidEntry", "InvalidNumber", "InvalidRequest", "OtherKind", "TooEarly", "NoRule", "NotHeard", "Open", "BUCKET", "METER", "WINDOW", "FRAME", "GAP", "KINDS", "FILLED", "SPANNED", "is_integer", "is_at_least", "greatest_divisor", "is_fraction", "lowest", "is_request", "is_entry"] : List Str) ++ (["is_rising", "is_row", "is_log", "is_rule", "check_rule", "check_log", "check_time", "check_cost", "check_kind", "last_time", "levels", "counted", "answers_of", "row_in", "is_fitting", "level_in", "ZERO", "GROUND", "is_less", "lines_of", "value_in", "crossing", "highest", "cells", "parts", "is_below", "cells_uncrossed", "lesser_of", "conditions_in", "borders"] : List Str) ++ (["pieces_between", "pieces_of", "is_room", "stretches_of", "sizes_of", "marks_of", "marks_in", "spent_at", "mosts_at", "breaks_of", "spans_of", "distances_of", "distances_in", "gap_of", "widths_in", "gap_range_in", "answers_in", "rules_of", "is_possible", "has_rule", "simplest", "plainer", "plainest_gain", "plainest_size", "plainest_of", "plainest_in", "knows_in", "same_in", "PASSES", "REFUSED"] : List Str) ++ (["OPEN", "NONE", "with_entry", "can_be", "answer_in", "all_costs", "passed_in", "later_lines", "is_doubted", "is_hoped", "filled_costs", "spent_in", "sure_widths", "open_widths", "spanned_costs", "gap_costs", "sure_costs_in", "two_rules_in", "Door", "Heard", "_law_case", "_law_take", "_law_same", "_law_common", "_law_lowest", "_law_fraction", "_law_rule", "_law_requests", "_law_draws", "_law_no_rule"] : List Str) ++ (["_law_is_whole", "_law_is_rule", "_law_no_log", "_law_no_row", "_law_is_log"] : List Str)
theorem map3 {α β γ δ : Type} {x : Option α} {f : α → β} {g : α → γ} {h : α → δ} {a : β} {b : γ} {c : δ} (h1 : x.map f = some a) (h2 : x.map g = some b) (h3 : x.map h = some c) : x.map (fun s => (f s, g s, h s)) = some (a, b, c) := by
  cases x with
  | none => cases h1
  | some x => simp only [Option.map_some, Option.some.injEq] at h1 h2 h3 ⊢; rw [h1, h2, h3]
section
open PySem.W PySem.Calls HandSHeadRun
theorem run1 (w : World) (os : OsState) : (endF (stepQ (denQ tabQ) R.prog w) 40000 R.prog w os).map (fun s => looksF R.prog (boot_heap w.params) s.abs) = some true := by
  kernel_rfl
theorem run2 (w : World) (os : OsState) : (endF (stepQ (denQ tabQ) R.prog w) 40000 R.prog w os).map (fun s => seenQ (PySem.W.view R.prog [133]) loose (importedModules R.prog.main.body) (fun s => xlAt (PySem.W.view R.prog [133]) [] s && recOk R.toRowW.records s) s.abs) = some (openGood (PySem.W.view R.prog [133]) loose) := by
  kernel_rfl
theorem run3 (w : World) (os : OsState) : (endF (stepQ (denQ tabQ) R.prog w) 40000 R.prog w os).map (fun s => ob s) = some (hk.val w) := by
  kernel_rfl
end
theorem run (w : World) : HandSHeadRun.RunEq R (PySem.W.view R.prog [133]) hk ob 40000 loose w := fun os => map3 (run1 w os) (run2 w os) (run3 w os)
end LW

/-! LA: values as trees, a store of mutable lists, what stands for what. -/
namespace LH
open PySem PySem.Spec PyProof.Rows L2

/-- a value as a tree; ro: a list that is read alone (the script); cell n: the n-th mutable thing of the store; ty: a built-in type; opq: a thing of the type t that is only passed on and asked for its type -/
inductive PV where
  | non | bl (b : Bool) | int (i : Int) | str (s : Str) | ty (n : String) | tup (xs : List PV) | lst (xs : List PV) | ro (xs : List PV) | cell (n : Nat) | adr (a : Addr) | opq (t : Value)
  deriving Inhabited
/-- a mutable thing -/
inductive Cell where
  | lst (xs : List PV) | raw (o : HO) | dead | gen (two : Bool) (g : Addr → List V → HO) (xs : List PV)
abbrev Sto := List Cell
/-- an exception: its class's name, its fields -/
structure Exc where
  name : Str
  fields : List (Str × PV)
inductive Res (α : Type) where
  | ok (a : α) (S : Sto) | exc (x : Exc) (S : Sto) | stuck
def Res.bind {α β : Type} (r : Res α) (g : α → Sto → Res β) : Res β := match r with
  | .ok a S => g a S
  | .exc x S => .exc x S
  | .stuck => .stuck

/-- a thing of a type that is none of the five -/
structure OpqAt (K : PySem.W.Frag) (F : Hp) (a : Addr) (t : Value) : Prop where
  at_ : ∃ o, F a = some o
  ty : ∀ H : Hp, (∀ b o, F b = some o → H b = some o) → TyX K H (.ref a) t
  no : ∀ T ∈ ["int", "bool", "str", "tuple", "list"], PySem.W.kitOne K t (.type T) = some false
mutual
inductive Rp (K : PySem.W.Frag) (F : Hp) (ci : List Addr) : PV → V → Prop
  | non : Rp K F ci .non .non
  | bl (b : Bool) : Rp K F ci (.bl b) (.bl b)
  | int (i : Int) : Rp K F ci (.int i) (.int i)
  | str (x : Str) : Rp K F ci (.str x) (.str x)
  | ty (n : String) : Rp K F ci (.ty n) (.ty n)
  | tup {a : Addr} {ds : List PV} {vs : List V} : SqT K F a vs → ds.length ≤ sizeLine → Rps K F ci ds vs → Rp K F ci (.tup ds) (.ref a)
  | lst {a : Addr} {ds : List PV} {vs : List V} : F a = some (.lst vs) → ds.length ≤ sizeLine → Rps K F ci ds vs → Rp K F ci (.lst ds) (.ref a)
  | ro {a : Addr} {ds : List PV} {vs : List V} : SqL K F a vs → ds.length ≤ sizeLine → Rps K F ci ds vs → Rp K F ci (.ro ds) (.ref a)
  | cell {a : Addr} {n : Nat} : ci[n]? = some a → Rp K F ci (.cell n) (.ref a)
  | adr {a : Addr} : Rp K F ci (.adr a) (.ref a)
  | opq {a : Addr} {t : Value} : OpqAt K F a t → Rp K F ci (.opq t) (.ref a)
inductive Rps (K : PySem.W.Frag) (F : Hp) (ci : List Addr) : List PV → List V → Prop
  | nil : Rps K F ci [] []
  | cons {d : PV} {v : V} {ds : List PV} {vs : List V} : Rp K F ci d v → Rps K F ci ds vs → Rps K F ci (d :: ds) (v :: vs)
end

/-- what stood frozen stands -/
def Ext (F F' : Hp) : Prop := ∀ a o, F a = some o → F' a = some o
theorem Ext.refl (F : Hp) : Ext F F := fun _ _ h => h
theorem Ext.trans {F G H : Hp} (a : Ext F G) (b : Ext G H) : Ext F H := fun c o h => b c o (a c o h)
theorem Ext.rd {F F' : Hp} (e : Ext F F') {a : Addr} {u : HO} (h : Rd F a u) : Rd F' a u := by
  rcases h with h | ⟨o, h⟩
  · exact .inl (e _ _ h)
  · exact .inr ⟨o, e _ _ h⟩
theorem Ext.opq {K : PySem.W.Frag} {F F' : Hp} (e : Ext F F') {a : Addr} {t : Value} (h : OpqAt K F a t) : OpqAt K F' a t where
  at_ := by obtain ⟨o, q⟩ := h.at_; exact ⟨o, e _ _ q⟩
  ty := fun H q => h.ty H fun b o z => q b o (e _ _ z)
  no := h.no
theorem Ext.sqT {K : PySem.W.Frag} {F F' : Hp} (e : Ext F F') {a : Addr} {vs : List V} (h : SqT K F a vs) : SqT K F' a vs := by
  rcases h with h | h
  · exact .inl (e.rd h)
  · exact .inr h
theorem Ext.sqL {K : PySem.W.Frag} {F F' : Hp} (e : Ext F F') {a : Addr} {vs : List V} (h : SqL K F a vs) : SqL K F' a vs := by
  rcases h with h | h
  · exact .inl (e.rd h)
  · exact .inr h

section
variable {K : PySem.W.Frag} {F F' : Hp} {ci ci' : List Addr}
theorem pre_get {l l' : List Addr} (p : l <+: l') {n : Nat} {a : Addr} (h : l[n]? = some a) : l'[n]? = some a := by
  obtain ⟨t, rfl⟩ := p
  have hn : n < l.length := (List.getElem?_eq_some_iff.mp h).1
  rw [List.getElem?_append_left hn]; exact h
mutual
theorem Rp.mono (e : Ext F F') (p : ci <+: ci') : ∀ {d : PV} {v : V}, Rp K F ci d v → Rp K F' ci' d v
  | _, _, .non => .non
  | _, _, .bl b => .bl b
  | _, _, .int i => .int i
  | _, _, .str x => .str x
  | _, _, .ty n => .ty n
  | _, _, .tup h z r => .tup (e.sqT h) z (Rps.mono e p r)
  | _, _, .lst h z r => .lst (e _ _ h) z (Rps.mono e p r)
  | _, _, .ro h z r => .ro (e.sqL h) z (Rps.mono e p r)
  | _, _, .cell h => .cell (pre_get p h)
  | _, _, .adr => .adr
  | _, _, .opq h => .opq (e.opq h)
theorem Rps.mono (e : Ext F F') (p : ci <+: ci') : ∀ {ds : List PV} {vs : List V}, Rps K F ci ds vs → Rps K F' ci' ds vs
  | _, _, .nil => .nil
  | _, _, .cons h r => .cons (Rp.mono e p h) (Rps.mono e p r)
end
theorem Rps.length : ∀ {ds : List PV} {vs : List V}, Rps K F ci ds vs → ds.length = vs.length
  | _, _, .nil => rfl
  | _, _, .cons _ r => by simp [Rps.length r]
theorem Rps.get : ∀ {ds : List PV} {vs : List V} {i : Nat} {d : PV}, Rps K F ci ds vs → ds[i]? = some d → ∃ v, vs[i]? = some v ∧ Rp K F ci d v
  | _, _, _, _, .nil, h => by simp at h
  | _, _, 0, _, .cons h _, e => by simp at e; subst e; exact ⟨_, rfl, h⟩
  | _, _, i + 1, d, .cons _ r, e => by
    obtain ⟨v, h1, h2⟩ := Rps.get (i := i) r (by simpa using e)
    exact ⟨v, by simpa using h1, h2⟩
theorem Rps.append : ∀ {ds es : List PV} {vs ws : List V}, Rps K F ci ds vs → Rps K F ci es ws → Rps K F ci (ds ++ es) (vs ++ ws)
  | _, _, _, _, .nil, s => s
  | _, _, _, _, .cons h r, s => .cons h (Rps.append r s)
theorem Rps.take : ∀ {ds : List PV} {vs : List V} (n : Nat), Rps K F ci ds vs → Rps K F ci (ds.take n) (vs.take n)
  | _, _, 0, _ => by simp; exact .nil
  | _, _, _ + 1, .nil => by simp; exact .nil
  | _, _, n + 1, .cons h r => by simp only [List.take_succ_cons]; exact .cons h (Rps.take n r)
theorem Rps.drop : ∀ {ds : List PV} {vs : List V} (n : Nat), Rps K F ci ds vs → Rps K F ci (ds.drop n) (vs.drop n)
  | _, _, 0, r => by simpa using r
  | _, _, _ + 1, .nil => by simp; exact .nil
  | _, _, n + 1, .cons h r => by simp only [List.drop_succ_cons]; exact Rps.drop n r
theorem Rps.set : ∀ {ds : List PV} {vs : List V} (i : Nat) {d : PV} {v : V}, Rps K F ci ds vs → Rp K F ci d v → Rps K F ci (ds.set i d) (vs.set i v)
  | _, _, _, _, _, .nil, _ => by simp; exact .nil
  | _, _, 0, _, _, .cons _ r, q => by simp only [List.set_cons_zero]; exact .cons q r
  | _, _, i + 1, _, _, .cons h r, q => by simp only [List.set_cons_succ]; exact .cons h (Rps.set i r q)
theorem Rps.reverse : ∀ {ds : List PV} {vs : List V}, Rps K F ci ds vs → Rps K F ci ds.reverse vs.reverse
  | _, _, .nil => .nil
  | _, _, .cons h r => by rw [List.reverse_cons, List.reverse_cons]; exact Rps.append (Rps.reverse r) (.cons h .nil)
theorem Rps.nil_inv {vs : List V} (h : Rps K F ci [] vs) : vs = [] := by cases h; rfl
theorem Rps.cons_inv {d : PV} {ds : List PV} {vs : List V} (h : Rps K F ci (d :: ds) vs) : ∃ v ws, vs = v :: ws ∧ Rp K F ci d v ∧ Rps K F ci ds ws := by
  cases h with | cons h r => exact ⟨_, _, rfl, h, r⟩
end

mutual
/-- names no mutable thing from the m-th on -/
def bel (m : Nat) : PV → Bool
  | .cell n => decide (n < m)
  | .tup xs => bels m xs
  | .lst xs => bels m xs
  | .ro xs => bels m xs
  | _ => true
def bels (m : Nat) : List PV → Bool
  | [] => true
  | x :: xs => bel m x && bels m xs
end
section
variable {K : PySem.W.Frag} {F : Hp} {ci ci' : List Addr}
mutual
theorem Rp.down {m : Nat} (h : ∀ n, n < m → ∀ a, ci[n]? = some a → ci'[n]? = some a) : ∀ {d : PV} {v : V}, bel m d = true → Rp K F ci d v → Rp K F ci' d v
  | _, _, _, .non => .non
  | _, _, _, .bl b => .bl b
  | _, _, _, .int i => .int i
  | _, _, _, .str x => .str x
  | _, _, _, .ty n => .ty n
  | _, _, b, .tup e z r => .tup e z (Rps.down h (by simpa [bel] using b) r)
  | _, _, b, .lst e z r => .lst e z (Rps.down h (by simpa [bel] using b) r)
  | _, _, b, .ro e z r => .ro e z (Rps.down h (by simpa [bel] using b) r)
  | _, _, b, .cell e => .cell (h _ (by simpa [bel] using b) _ e)
  | _, _, _, .adr => .adr
  | _, _, _, .opq h => .opq h
theorem Rps.down {m : Nat} (h : ∀ n, n < m → ∀ a, ci[n]? = some a → ci'[n]? = some a) : ∀ {ds : List PV} {vs : List V}, bels m ds = true → Rps K F ci ds vs → Rps K F ci' ds vs
  | _, _, _, .nil => .nil
  | _, _, b, .cons r rs => by
    simp only [bels, Bool.and_eq_true] at b
    exact .cons (Rp.down h b.1 r) (Rps.down h b.2 rs)
end
end
theorem bels_append (m : Nat) : ∀ xs ys : List PV, bels m (xs ++ ys) = (bels m xs && bels m ys)
  | [], ys => by simp [bels]
  | x :: xs, ys => by simp [bels, bels_append m xs ys, Bool.and_assoc]
theorem bels_all (m : Nat) : ∀ xs : List PV, bels m xs = xs.all (bel m)
  | [] => rfl
  | x :: xs => by simp [bels, bels_all m xs]
theorem bels_set (m : Nat) : ∀ (xs : List PV) (j : Nat) (y : PV), bels m xs = true → bel m y = true → bels m (xs.set j y) = true
  | [], _, _, _, _ => rfl
  | x :: xs, 0, y, h, h' => by simp only [bels, Bool.and_eq_true, List.set_cons_zero] at h ⊢; exact ⟨h', h.2⟩
  | x :: xs, j + 1, y, h, h' => by simp only [bels, Bool.and_eq_true, List.set_cons_succ] at h ⊢; exact ⟨h.1, bels_set m xs j y h.2 h'⟩

/-- a thing made of values: its object, and where two, the dict that it owns -/
def GelAt (K : PySem.W.Frag) (F : Hp) (ci : List Addr) (H : Hp) (a : Addr) (two : Bool) (g : Addr → List V → HO) (xs : List PV) : Prop :=
  ∃ dx vs, F a = none ∧ H a = some (g dx vs) ∧ (xs.length ≤ sizeLine ∧ bels 0 xs = true) ∧ Rps K F ci xs vs ∧ (two = true → F dx = none ∧ dx ∉ ci ∧ H dx = some (.own a))
theorem GelAt.f {K : PySem.W.Frag} {F : Hp} {ci : List Addr} {H : Hp} {a : Addr} {two : Bool} {g : Addr → List V → HO} {xs : List PV} (h : GelAt K F ci H a two g xs) : F a = none := h.choose_spec.choose_spec.1
theorem GelAt.h {K : PySem.W.Frag} {F : Hp} {ci : List Addr} {H : Hp} {a : Addr} {two : Bool} {g : Addr → List V → HO} {xs : List PV} (h : GelAt K F ci H a two g xs) : ∃ o, H a = some o := ⟨_, h.choose_spec.choose_spec.2.1⟩
theorem GelAt.ne {K : PySem.W.Frag} {F : Hp} {ci : List Addr} {H : Hp} {a p : Addr} {two : Bool} {g : Addr → List V → HO} {xs : List PV} (h : GelAt K F ci H a two g xs) (hp : H p = none) : a ≠ p := fun e => by
  obtain ⟨o, q⟩ := h.h
  rw [e, hp] at q; cases q
/-- the store stands in the heap -/
structure SR (K : PySem.W.Frag) (F : Hp) (ci : List Addr) (S : Sto) (H : Hp) : Prop where
  le : ∀ a o, F a = some o → H a = some o
  len : ci.length = S.length
  nd : ci.Nodup
  there : ∀ a ∈ ci, ∃ o, H a = some o
  cel : ∀ (n : Nat) (xs : List PV), S[n]? = some (.lst xs) → ∃ a vs, ci[n]? = some a ∧ F a = none ∧ H a = some (.lst vs) ∧ (xs.length ≤ sizeLine ∧ bels 0 xs = true) ∧ Rps K F ci xs vs
  kel : ∀ (n : Nat) (u : HO), S[n]? = some (.raw u) → ∃ a, ci[n]? = some a ∧ F a = none ∧ H a = some u
  gel : ∀ (n : Nat) (two : Bool) (g : Addr → List V → HO) (xs : List PV), S[n]? = some (.gen two g xs) → ∃ a, ci[n]? = some a ∧ GelAt K F ci H a two g xs
/-- what has become of a state -/
structure Later (F : Hp) (ci : List Addr) (H : Hp) (F' : Hp) (ci' : List Addr) (H' : Hp) : Prop where
  ext : Ext F F'
  pre : ci <+: ci'
  keep : ∀ a o, H a = some o → a ∉ ci → H' a = some o
  new : ∀ a, a ∈ ci' → a ∉ ci → H a = none
  fz : ∀ a o, F' a = some o → F a = some o ∨ a ∈ ci ∨ H a = none
section
variable {K : PySem.W.Frag} {F F' F1 F2 : Hp} {ci ci' ci1 ci2 : List Addr} {H H' H1 H2 : Hp} {S S' : Sto}
theorem Later.refl : Later F ci H F ci H := ⟨.refl _, List.prefix_refl _, fun _ _ h _ => h, fun _ h n => absurd h n, fun _ _ h => .inl h⟩
theorem Later.trans (a : Later F ci H F1 ci1 H1) (b : Later F1 ci1 H1 F2 ci2 H2) : Later F ci H F2 ci2 H2 where
  ext := a.ext.trans b.ext
  pre := a.pre.trans b.pre
  keep := fun c o h n => by
    have h1 := a.keep c o h n
    refine b.keep c o h1 fun hm => ?_
    have := a.new c hm n
    rw [h] at this; cases this
  new := fun c hm n => by
    by_cases h1 : c ∈ ci1
    · exact a.new c h1 n
    · have h2 := b.new c hm h1
      cases e : H c with
      | none => rfl
      | some o => rw [a.keep c o e n] at h2; cases h2
  fz := fun c o h => by
    by_cases hc : c ∈ ci
    · exact .inr (.inl hc)
    · rcases b.fz c o h with h1 | h1 | h1
      · exact a.fz c o h1
      · exact .inr (.inr (a.new c h1 hc))
      · cases e : H c with
        | none => exact .inr (.inr rfl)
        | some u => rw [a.keep c u e hc] at h1; cases h1
theorem Later.rp (l : Later F ci H F' ci' H') {d : PV} {v : V} (h : Rp K F ci d v) : Rp K F' ci' d v := h.mono l.ext l.pre
theorem Later.gelat (l : Later F ci H F' ci' H') {a : Addr} {two : Bool} {g : Addr → List V → HO} {xs : List PV} (h : GelAt K F ci H a two g xs) (hF : F' a = none) (hH : H' a = H a) : GelAt K F' ci' H' a two g xs := by
  obtain ⟨dx, vs, h1, h2, h3, h4, h5⟩ := h
  refine ⟨dx, vs, hF, hH.trans h2, h3, h4.mono l.ext l.pre, fun t => ?_⟩
  obtain ⟨k1, k2, k3⟩ := h5 t
  have n1 : dx ∉ ci' := fun hm => by
    have := l.new dx hm k2
    rw [k3] at this; cases this
  refine ⟨?_, n1, l.keep dx _ k3 k2⟩
  cases e : F' dx with
  | none => rfl
  | some o =>
    rcases l.fz dx o e with q | q | q
    · rw [k1] at q; cases q
    · exact absurd q k2
    · rw [k3] at q; cases q
theorem Later.rps (l : Later F ci H F' ci' H') {d : List PV} {v : List V} (h : Rps K F ci d v) : Rps K F' ci' d v := h.mono l.ext l.pre
end

/-- what is wished of an outcome -/
def Out {α : Type} (K : PySem.W.Frag) (Z : Exc → Hp → List Addr → Sto → Hp → Prop) (F : Hp) (ci : List Addr) (H : Hp) (r : Res α) (P : α → Hp → List Addr → Sto → Hp → Prop) : Prop :=
  match r with
  | .ok d S' => ∀ F' ci' H', Later F ci H F' ci' H' → SR K F' ci' S' H' → P d F' ci' S' H'
  | .exc x S' => ∀ F' ci' H', Later F ci H F' ci' H' → SR K F' ci' S' H' → Z x F' ci' S' H'
  | .stuck => False
section
variable {α β : Type} {K : PySem.W.Frag} {Z : Exc → Hp → List Addr → Sto → Hp → Prop} {F F' : Hp} {ci ci' : List Addr} {H H' : Hp} {r : Res α} {P P' : α → Hp → List Addr → Sto → Hp → Prop}
theorem Out.later (h : Out K Z F ci H r P) (l : Later F ci H F' ci' H') : Out K Z F' ci' H' r P := by
  cases r with
  | ok d S' => exact fun F2 c2 H2 l2 s2 => h F2 c2 H2 (l.trans l2) s2
  | exc x S' => exact fun F2 c2 H2 l2 s2 => h F2 c2 H2 (l.trans l2) s2
  | stuck => exact h
theorem Out.bind {g : α → Sto → Res β} {P : β → Hp → List Addr → Sto → Hp → Prop} (h : Out K Z F ci H (r.bind g) P) : Out K Z F ci H r fun d F1 c1 S1 H1 => Out K Z F1 c1 H1 (g d S1) P := by
  cases r with
  | ok d S' => exact fun F2 c2 H2 l2 s2 => Out.later h l2
  | exc x S' => exact h
  | stuck => exact h
theorem Out.imp (h : Out K Z F ci H r P) (i : ∀ d F' ci' S' H', Later F ci H F' ci' H' → SR K F' ci' S' H' → P d F' ci' S' H' → P' d F' ci' S' H') : Out K Z F ci H r P' := by
  cases r with
  | ok d S' => exact fun F2 c2 H2 l2 s2 => i _ _ _ _ _ l2 s2 (h F2 c2 H2 l2 s2)
  | exc x S' => exact h
  | stuck => exact h
theorem Out.here {d : α} {S : Sto} (h : Out K Z F ci H (.ok d S) P) (s : SR K F ci S H) : P d F ci S H := h _ _ _ .refl s
end
end LH

/-! LB: what an expression, a test, an argument list, a statement, a def denotes. -/
namespace L2
open PySem PySem.Spec PyProof.Rows
theorem PE.imp {X : Cx} {e : Expr} {t t' : TE} (h : PE X e t) (i : ∀ σ H Q, t' σ H Q → t σ H Q) : PE X e t' := ⟨fun pins s σ H Q I q => h.run pins s σ H Q I (i σ H Q q)⟩
theorem PT.imp {X : Cx} {e : Expr} {t t' : TT} (h : PT X e t) (i : ∀ σ H Q, t' σ H Q → t σ H Q) : PT X e t' := ⟨fun pins s σ H Q I q => h.run pins s σ H Q I (i σ H Q q)⟩
theorem PW.imp {X : Cx} {e : Expr} {t t' : TT} (h : PW X e t) (i : ∀ σ H Q, t' σ H Q → t σ H Q) : PW X e t' := ⟨fun wh pins s σ H Q I q => h.run wh pins s σ H Q I (i σ H Q q)⟩
theorem PA.imp {X : Cx} {e : List Expr} {t t' : TA} (h : PA X e t) (i : ∀ σ H Q, t' σ H Q → t σ H Q) : PA X e t' := ⟨fun pos pins s σ H Q I q => h.run pos pins s σ H Q I (i σ H Q q)⟩
theorem PS.imp {X : Cx} {e : Stmt} {t t' : TS} (h : PS X e t) (i : ∀ D σ H, t' D σ H → t D σ H) : PS X e t' := ⟨fun pins s σ H D I q => h.run pins s σ H D I (i D σ H q)⟩
theorem PSs.imp {X : Cx} {e : List Stmt} {t t' : TS} (h : PSs X e t) (i : ∀ D σ H, t' D σ H → t D σ H) : PSs X e t' := ⟨fun pins s σ H D I q => h.run pins s σ H D I (i D σ H q)⟩

theorem PI.imp {X : Cx} {tg e : Expr} {wi wi' : TI} (h : PI X tg e wi) (i : ∀ σ H R, wi' σ H R → wi σ H R) : PI X tg e wi' := ⟨fun pins s σ H R I q => h.run pins s σ H R I (i σ H R q)⟩
end L2

namespace LH
open PySem PySem.Spec PyProof.Rows L2
abbrev St := L2.St

abbrev PEnv := List (Option PV)
abbrev ExprD := PEnv → Sto → Res PV
abbrev TestD := PEnv → Sto → Res Bool
abbrev ArgsD := PEnv → Sto → Res (List PV)
abbrev FnDen := List PV → Sto → Res PV
inductive Flow where
  | nx (e : PEnv) | rt (d : PV) | bk (e : PEnv) | ct (e : PEnv) | ex (x : Exc) (e : PEnv)
abbrev StmtD := PEnv → Sto → Res Flow

structure ER (K : PySem.W.Frag) (F : Hp) (ci : List Addr) (env : PEnv) (σ : St) : Prop where
  len : env.length = σ.length
  get : ∀ (i : Nat) (d : PV), env[i]? = some (some d) → ∃ v, σ[i]? = some (some v) ∧ Rp K F ci d v
section
variable {K : PySem.W.Frag} {F F' : Hp} {ci ci' : List Addr} {H H' : Hp} {env : PEnv} {σ : St}
theorem ER.later (r : ER K F ci env σ) (l : Later F ci H F' ci' H') : ER K F' ci' env σ := ⟨r.len, fun i d h => by
  obtain ⟨v, e, q⟩ := r.get i d h
  exact ⟨v, e, l.rp q⟩⟩
theorem ER.set (r : ER K F ci env σ) (i : Nat) {d : PV} {v : V} (q : Rp K F ci d v) : ER K F ci (env.set i (some d)) (σ.set i (some v)) := ⟨by simp [r.len], fun j e h => by
  by_cases hj : i = j
  · subst hj
    by_cases hl : i < env.length
    · rw [List.getElem?_set_self hl] at h
      cases h
      exact ⟨v, by rw [List.getElem?_set_self (by rw [← r.len]; exact hl)], q⟩
    · rw [List.getElem?_eq_none (by simp; omega)] at h; cases h
  · rw [List.getElem?_set_ne hj] at h ⊢
    exact r.get j e h⟩
theorem ER.unset (r : ER K F ci env σ) (i : Nat) : ER K F ci (env.set i none) (σ.set i none) := ⟨by simp [r.len], fun j e h => by
  by_cases hj : i = j
  · subst hj
    by_cases hl : i < env.length
    · rw [List.getElem?_set_self hl] at h; cases h
    · rw [List.getElem?_eq_none (by simp; omega)] at h; cases h
  · rw [List.getElem?_set_ne hj] at h ⊢
    exact r.get j e h⟩
end

/-- an exception that stands -/
def XRep (K : PySem.W.Frag) (mg : Str → Option Value) (F : Hp) (ci : List Addr) (x : Exc) (cls : Value) (d : Option Addr) : Prop :=
  ∃ C, mg x.name = some (.ref C) ∧ cls = .ref C ∧ ((x.fields = [] ∧ d = none) ∨ (x.fields ≠ [] ∧ ∃ dd fs, d = some dd ∧ F dd = some (.xd fs) ∧ Paired (fun (p : Str × PV) (q : Str × V) => p.1 = q.1 ∧ Rp K F ci p.2 q.2) x.fields fs))
def Zf (K : PySem.W.Frag) (mg : Str → Option Value) (E : XK) : Exc → Hp → List Addr → Sto → Hp → Prop := fun x F ci _ H => ∀ cls d, XRep K mg F ci x cls d → E cls d H

section
variable (K : PySem.W.Frag) (mg : Str → Option Value) (W : WX)
def tE (f : ExprD) : TE := fun σ H Q => ∃ env F ci S, SR K F ci S H ∧ ER K F ci env σ ∧ Out K (Zf K mg (WE W σ)) F ci H (f env S) fun d F' ci' S' H' => ∀ v, Rp K F' ci' d v → Q v H'
def tT (f : TestD) : TT := fun σ H Q => ∃ env F ci S, SR K F ci S H ∧ ER K F ci env σ ∧ Out K (Zf K mg (WE W σ)) F ci H (f env S) fun b F' ci' S' H' => Q b H'
def tA (f : ArgsD) : TA := fun σ H Q => ∃ env F ci S, SR K F ci S H ∧ ER K F ci env σ ∧ Out K (Zf K mg (WE W σ)) F ci H (f env S) fun ds F' ci' S' H' => ∀ vs, Rps K F' ci' ds vs → Q vs H'
def SW (D : Ends) (fl : Flow) (F : Hp) (ci : List Addr) (S : Sto) (H : Hp) : Prop := match fl with
  | .nx e => ∀ σ, ER K F ci e σ → D.nx σ H
  | .rt d => ∀ v, Rp K F ci d v → D.rt v H
  | .bk e => ∀ σ, ER K F ci e σ → D.bk σ H
  | .ct e => ∀ σ, ER K F ci e σ → D.ct σ H
  | .ex x e => ∀ σ, ER K F ci e σ → ∀ cls d, XRep K mg F ci x cls d → W cls d σ H
def tS (f : StmtD) : TS := fun D σ H => ∃ env F ci S, SR K F ci S H ∧ ER K F ci env σ ∧ Out K (fun _ _ _ _ _ => False) F ci H (f env S) (SW K mg W D)
/-- an operator's, a call's wish by values -/
def rD (W : XK) (g : PV → PV → Sto → Res PV) : R2 := fun x y H Q => ∃ F ci S dx dy, SR K F ci S H ∧ Rp K F ci dx x ∧ Rp K F ci dy y ∧ Out K (Zf K mg W) F ci H (g dx dy S) fun d F' ci' S' H' => ∀ v, Rp K F' ci' d v → Q v H'
def rU (W : XK) (g : PV → Sto → Res PV) : V → Hp → VK → Prop := fun x H Q => ∃ F ci S dx, SR K F ci S H ∧ Rp K F ci dx x ∧ Out K (Zf K mg W) F ci H (g dx S) fun d F' ci' S' H' => ∀ v, Rp K F' ci' d v → Q v H'
def rL (W : XK) (g : List PV → Sto → Res PV) : List V → Hp → VK → Prop := fun xs H Q => ∃ F ci S ds, SR K F ci S H ∧ Rps K F ci ds xs ∧ Out K (Zf K mg W) F ci H (g ds S) fun d F' ci' S' H' => ∀ v, Rp K F' ci' d v → Q v H'
end

/-! ### combinators -/
def vE (i : Nat) : ExprD := fun env S => match env[i]? with
  | some (some d) => .ok d S
  | _ => .stuck
def cE (d : PV) : ExprD := fun _ S => .ok d S
def binE (g : PV → PV → Sto → Res PV) (a b : ExprD) : ExprD := fun env S => (a env S).bind fun x S1 => (b env S1).bind fun y S2 => g x y S2
def unE (g : PV → Sto → Res PV) (a : ExprD) : ExprD := fun env S => (a env S).bind fun x S1 => g x S1
def boolOf (d : PV) (S : Sto) : Res Bool := match d with
  | .bl b => .ok b S
  | _ => .stuck
def tstE (a : ExprD) : TestD := fun env S => (a env S).bind boolOf
def notT (a : TestD) : TestD := fun env S => (a env S).bind fun b S1 => .ok (!b) S1
def andT (a b : TestD) : TestD := fun env S => (a env S).bind fun c S1 => if c = true then b env S1 else .ok false S1
def orT (a b : TestD) : TestD := fun env S => (a env S).bind fun c S1 => if c = true then .ok true S1 else b env S1
def andE (a b : ExprD) : ExprD := fun env S => (a env S).bind fun x S1 => (boolOf x S1).bind fun c S2 => if c = true then b env S2 else .ok (.bl false) S2
def orE (a b : ExprD) : ExprD := fun env S => (a env S).bind fun x S1 => (boolOf x S1).bind fun c S2 => if c = true then .ok (.bl true) S2 else b env S2
def notE (a : ExprD) : ExprD := fun env S => (a env S).bind fun x S1 => (boolOf x S1).bind fun c S2 => .ok (.bl (!c)) S2
def iteE (t : TestD) (a b : ExprD) : ExprD := fun env S => (t env S).bind fun c S1 => if c = true then a env S1 else b env S1
def nilA : ArgsD := fun _ S => .ok [] S
def consA (a : ExprD) (r : ArgsD) : ArgsD := fun env S => (a env S).bind fun x S1 => (r env S1).bind fun xs S2 => .ok (x :: xs) S2
def listE (a : ArgsD) : ExprD := fun env S => (a env S).bind fun xs S1 => if xs.length ≤ sizeLine then .ok (.lst xs) S1 else .stuck
def tupE (a : ArgsD) : ExprD := fun env S => (a env S).bind fun xs S1 => if xs.length ≤ sizeLine then .ok (.tup xs) S1 else .stuck
/-- a new list that is a mutable thing -/
def cellE (a : ArgsD) : ExprD := fun env S => (a env S).bind fun xs S1 => if xs.length ≤ sizeLine ∧ bels 0 xs = true then .ok (.cell S1.length) (S1 ++ [.lst xs]) else .stuck
def callE (f : FnDen) (a : ArgsD) : ExprD := fun env S => (a env S).bind fun xs S1 => f xs S1

def skipS : StmtD := fun env S => .ok (.nx env) S
def brkS : StmtD := fun env S => .ok (.bk env) S
def cntS : StmtD := fun env S => .ok (.ct env) S
/-- an expression's outcome, or its exception as the statement's -/
def runE (r : Res PV) (env : PEnv) (g : PV → Sto → Res Flow) : Res Flow := match r with
  | .ok d S => g d S
  | .exc x S => .ok (.ex x env) S
  | .stuck => .stuck
def runT (r : Res Bool) (env : PEnv) (g : Bool → Sto → Res Flow) : Res Flow := match r with
  | .ok d S => g d S
  | .exc x S => .ok (.ex x env) S
  | .stuck => .stuck
def retS (a : ExprD) : StmtD := fun env S => runE (a env S) env fun d S1 => .ok (.rt d) S1
def exprS (a : ExprD) : StmtD := fun env S => runE (a env S) env fun _ S1 => .ok (.nx env) S1
/-- targets: names and tuples of targets -/
inductive Tg where
  | nm (i : Nat) | tp (ts : List Tg)
mutual
def Tg.bind (S : Sto) : Tg → PV → PEnv → Option PEnv
  | .nm i, d, env => some (env.set i (some d))
  | .tp ts, d, env => match d with
    | .tup ds => Tg.binds S ts ds env
    | .lst ds => Tg.binds S ts ds env
    | _ => none
def Tg.binds (S : Sto) : List Tg → List PV → PEnv → Option PEnv
  | [], [], env => some env
  | t :: ts, d :: ds, env => (Tg.bind S t d env).bind fun env' => Tg.binds S ts ds env'
  | _, _, _ => none
end
def asgS (t : Tg) (a : ExprD) : StmtD := fun env S => runE (a env S) env fun d S1 => match t.bind S1 d env with
  | some env' => .ok (.nx env') S1
  | none => .stuck
def seqS (a b : StmtD) : StmtD := fun env S => match a env S with
  | .ok (.nx env') S1 => b env' S1
  | r => r
def ifS (t : TestD) (a b : StmtD) : StmtD := fun env S => runT (t env S) env fun c S1 => if c = true then a env S1 else b env S1
/-- n more turns of a while -/
def whileN (t : TestD) (b : StmtD) : Nat → StmtD
  | 0 => fun _ _ => .stuck
  | n + 1 => fun env S => runT (t env S) env fun c S1 => if c = true then (match b env S1 with
      | .ok (.nx env') S2 => whileN t b n env' S2
      | .ok (.ct env') S2 => whileN t b n env' S2
      | .ok (.bk env') S2 => .ok (.nx env') S2
      | r => r) else .ok (.nx env) S1
def neverS : StmtD := fun _ _ => .stuck
/-- a def by its body: as many parameters, as many names -/
def fnD (np nn : Nat) (b : StmtD) : FnDen := fun ds S => if ds.length = np then (match b (ds.map some ++ List.replicate (nn - ds.length) none) S with
    | .ok (.nx _) S1 => .ok .non S1
    | .ok (.rt d) S1 => .ok d S1
    | .ok (.ex x _) S1 => .exc x S1
    | _ => .stuck) else .stuck

/-! ### the rules -/
section
variable {X : Cx} {W : WX} {a b c e : Expr} {es : List Expr} {pos : Pos} {f fa fb : ExprD} {g : PV → PV → Sto → Res PV}

theorem de_v (i : Nat) {x : Str} {pos : Pos} (hN : X.N[i]? = some x := by rfl) (hv : Vis X.env.scope x := by first | exact Or.inl rfl | exact Or.inr (Or.inl rfl) | exact Or.inr (Or.inr rfl)) (hd : (x == ("__debug__" : Str)) = false := by decide)
    (hcd : (x == ("__classdict__" : Str)) = false := by decide) : PE X (.Name x pos) (tE X.K X.mg W (vE i)) := (pe_var hN hv hd hcd).imp fun σ H Q h => by
  obtain ⟨env, F, ci, S, sr, er, h⟩ := h
  unfold vE at h
  split at h
  · rename_i d q
    obtain ⟨v, e1, r⟩ := er.get i d q
    exact ⟨v, e1, h.here sr v r⟩
  · exact h.elim
/-- a written constant -/
theorem de_c {v : V} {d : PV} (h : PE X e (tC v)) (hd : ∀ F ci, Rp X.K F ci d v) : PE X e (tE X.K X.mg W (cE d)) := h.imp fun σ H Q h => by
  obtain ⟨env, F, ci, S, sr, er, h⟩ := h
  exact h.here sr v (hd _ _)
theorem de_int {i : Int} {j pos} : PE X (.Constant (.int i) j pos) (tE X.K X.mg W (cE (.int i))) := de_c pe_int fun _ _ => .int i
theorem de_bl {b : Bool} {j pos} : PE X (.Constant (.bool b) j pos) (tE X.K X.mg W (cE (.bl b))) := de_c pe_bl fun _ _ => .bl b
theorem de_non {j pos} : PE X (.Constant .none j pos) (tE X.K X.mg W (cE .non)) := de_c pe_non fun _ _ => .non
theorem de_str {x : Str} {j pos} : PE X (.Constant (.str x) j pos) (tE X.K X.mg W (cE (.str x))) := de_c pe_str fun _ _ => .str x

theorem out2 {K : PySem.W.Frag} {mg : Str → Option Value} {σ : St} {H : Hp} {env : PEnv} {F : Hp} {ci : List Addr} {S : Sto} {Q : VK} {r : R2} (sr : SR K F ci S H) (er : ER K F ci env σ)
    (h : Out K (Zf K mg (WE W σ)) F ci H (binE g fa fb env S) fun d F' ci' S' H' => ∀ v, Rp K F' ci' d v → Q v H')
    (hr : ∀ x y H2, rD K mg (WE W σ) g x y H2 Q → r x y H2 Q) :
    tE K mg W fa σ H fun x H1 => tE K mg W fb σ H1 fun y H2 => r x y H2 Q := by
  refine ⟨env, F, ci, S, sr, er, (Out.bind h).imp fun dx F1 c1 S1 H1 l1 s1 h1 v1 r1 => ⟨env, F1, c1, S1, s1, er.later l1, (Out.bind h1).imp fun dy F2 c2 S2 H2 l2 s2 h2 v2 r2 => hr _ _ _ ⟨F2, c2, S2, dx, dy, s2, l2.rp r1, r2, h2⟩⟩⟩
theorem de_op {op : Operator} (ho : ∀ σ, OpR X (binaryOp op) (rD X.K X.mg (WE W σ) g)) (ha : PE X a (tE X.K X.mg W fa)) (hb : PE X b (tE X.K X.mg W fb)) : PE X (.BinOp a op b pos) (tE X.K X.mg W (binE g fa fb)) := by
  refine ⟨fun pins s σ H Q I h => ?_⟩
  obtain ⟨env, F, ci, S, sr, er, h⟩ := h
  exact (pe_op (ho σ) ha hb).run pins s σ H Q I (out2 sr er h fun _ _ _ z => z)
theorem de_cmp {op : CmpOp} (ho : ∀ σ, OpR X (compareOp op) (rD X.K X.mg (WE W σ) g)) (ha : PE X a (tE X.K X.mg W fa)) (hb : PE X b (tE X.K X.mg W fb)) (hm : behindInMarks op b = false) : PE X (.Compare a [op] [b] pos) (tE X.K X.mg W (binE g fa fb)) := by
  refine ⟨fun pins s σ H Q I h => ?_⟩
  obtain ⟨env, F, ci, S, sr, er, h⟩ := h
  exact (pe_cmpR (ho σ) ha hb hm).run pins s σ H Q I (out2 sr er h fun _ _ _ z => z)
theorem de_un {op : UnaryOp} {g : PV → Sto → Res PV} (ho : ∀ σ, UnR X (unaryOp op) (rU X.K X.mg (WE W σ) g)) (ha : PE X a (tE X.K X.mg W fa)) : PE X (.UnaryOp op a pos) (tE X.K X.mg W (unE g fa)) := by
  refine ⟨fun pins s σ H Q I h => ?_⟩
  obtain ⟨env, F, ci, S, sr, er, h⟩ := h
  exact (pe_un (ho σ) ha).run pins s σ H Q I ⟨env, F, ci, S, sr, er, (Out.bind h).imp fun dx F1 c1 S1 H1 l1 s1 h1 v1 r1 => ⟨F1, c1, S1, dx, s1, r1, h1⟩⟩

/-! tests -/
theorem Rp.bl_inv {K : PySem.W.Frag} {F : Hp} {ci : List Addr} {b : Bool} {v : V} (h : Rp K F ci (.bl b) v) : v = .bl b := by cases h; rfl
theorem out_bool {K : PySem.W.Frag} {Z : Exc → Hp → List Addr → Sto → Hp → Prop} {F : Hp} {ci : List Addr} {H : Hp} {d : PV} {S : Sto} {P : Bool → Hp → List Addr → Sto → Hp → Prop} {v : V} (h : Out K Z F ci H (boolOf d S) P) (s : SR K F ci S H) (r : Rp K F ci d v) :
    ∃ b, v = .bl b ∧ d = .bl b ∧ P b F ci S H := by
  unfold boolOf at h
  split at h
  · exact ⟨_, r.bl_inv, rfl, h.here s⟩
  · exact h.elim
theorem dt_val (ha : PE X a (tE X.K X.mg W fa)) (he : ∀ whole, isTrue a X.env whole = (do let v ← whole; standAt a.pos; holding [v] (truthy v)) := by intro _; rfl) : PT X a (tT X.K X.mg W (tstE fa)) := (pt_val ha he).imp fun σ H Q h => by
  obtain ⟨env, F, ci, S, sr, er, h⟩ := h
  refine ⟨env, F, ci, S, sr, er, (Out.bind h).imp fun dx F1 c1 S1 H1 l1 s1 h1 v1 r1 => ?_⟩
  obtain ⟨b, e1, _, h2⟩ := out_bool h1 s1 r1
  exact ⟨b, e1, h2⟩
theorem dt_cmp {op : CmpOp} (ho : ∀ σ, OpR X (compareOp op) (rD X.K X.mg (WE W σ) g)) (ha : PE X a (tE X.K X.mg W fa)) (hb : PE X b (tE X.K X.mg W fb)) (hm : behindInMarks op b = false) : PT X (.Compare a [op] [b] pos) (tT X.K X.mg W (tstE (binE g fa fb))) := by
  refine ⟨fun pins s σ H Q I h => ?_⟩
  obtain ⟨env, F, ci, S, sr, er, h⟩ := h
  have h' := (Out.bind h)
  refine (pt_cmpR (ho σ) ha hb hm).run pins s σ H Q I (out2 sr er (h'.imp fun dx F1 c1 S1 H1 l1 s1 h1 v1 r1 => ?_) fun _ _ _ z => z)
  obtain ⟨b, e1, _, h2⟩ := out_bool h1 s1 r1
  exact ⟨b, e1, h2⟩
theorem dt_not {t : TestD} (ha : PT X a (tT X.K X.mg W t)) : PT X (.UnaryOp .Not a pos) (tT X.K X.mg W (notT t)) := (pt_not ha).imp fun σ H Q h => by
  obtain ⟨env, F, ci, S, sr, er, h⟩ := h
  exact ⟨env, F, ci, S, sr, er, (Out.bind h).imp fun b F1 c1 S1 H1 l1 s1 h1 => h1.here s1⟩
theorem dw_and1 {t : TestD} (ha : PT X a (tT X.K X.mg W t)) : PW X (.BoolOp .And [a] pos) (tT X.K X.mg W t) := pw_and1 ha
theorem dw_or1 {t : TestD} (ha : PT X a (tT X.K X.mg W t)) : PW X (.BoolOp .Or [a] pos) (tT X.K X.mg W t) := pw_or1 ha
theorem dw_and {t u : TestD} {rest : List Expr} (ha : PT X a (tT X.K X.mg W t)) (hb : PW X (.BoolOp .And (b :: rest) pos) (tT X.K X.mg W u)) : PW X (.BoolOp .And (a :: b :: rest) pos) (tT X.K X.mg W (andT t u)) := (pw_and ha hb).imp fun σ H Q h => by
  obtain ⟨env, F, ci, S, sr, er, h⟩ := h
  refine ⟨env, F, ci, S, sr, er, (Out.bind h).imp fun b F1 c1 S1 H1 l1 s1 h1 => ?_⟩
  cases b with
  | true => exact ⟨env, F1, c1, S1, s1, er.later l1, h1⟩
  | false => exact h1.here s1
theorem dw_or {t u : TestD} {rest : List Expr} (ha : PT X a (tT X.K X.mg W t)) (hb : PW X (.BoolOp .Or (b :: rest) pos) (tT X.K X.mg W u)) : PW X (.BoolOp .Or (a :: b :: rest) pos) (tT X.K X.mg W (orT t u)) := (pw_or ha hb).imp fun σ H Q h => by
  obtain ⟨env, F, ci, S, sr, er, h⟩ := h
  refine ⟨env, F, ci, S, sr, er, (Out.bind h).imp fun b F1 c1 S1 H1 l1 s1 h1 => ?_⟩
  cases b with
  | true => exact h1.here s1
  | false => exact ⟨env, F1, c1, S1, s1, er.later l1, h1⟩
/-! and, or, not as values -/
theorem de_one {op : PySem.BoolOp} (ha : PE X a (tE X.K X.mg W fa)) : PE X (.BoolOp op [a] pos) (tE X.K X.mg W fa) := pe_one ha
theorem de_and {rest : List Expr} (ha : PE X a (tE X.K X.mg W fa)) (hb : PE X (.BoolOp .And (b :: rest) pos) (tE X.K X.mg W fb)) : PE X (.BoolOp .And (a :: b :: rest) pos) (tE X.K X.mg W (andE fa fb)) := (pe_and ha hb).imp fun σ H Q h => by
  obtain ⟨env, F, ci, S, sr, er, h⟩ := h
  refine ⟨env, F, ci, S, sr, er, (Out.bind h).imp fun dx F1 c1 S1 H1 l1 s1 h1 v1 r1 => ?_⟩
  obtain ⟨c, e1, _, h2⟩ := out_bool (Out.bind h1) s1 r1
  refine ⟨c, e1, ?_⟩
  cases c with
  | true => exact ⟨env, F1, c1, S1, s1, er.later l1, h2⟩
  | false => exact h2.here s1 _ (.bl false)
theorem de_not (ha : PE X a (tE X.K X.mg W fa)) : PE X (.UnaryOp .Not a pos) (tE X.K X.mg W (notE fa)) := (pe_not ha).imp fun σ H Q h => by
  obtain ⟨env, F, ci, S, sr, er, h⟩ := h
  refine ⟨env, F, ci, S, sr, er, (Out.bind h).imp fun dx F1 c1 S1 H1 l1 s1 h1 v1 r1 => ?_⟩
  obtain ⟨c, e1, _, h2⟩ := out_bool (Out.bind h1) s1 r1
  exact ⟨c, e1, h2.here s1 _ (.bl _)⟩
theorem de_ite {t : TestD} (hc : PT X c (tT X.K X.mg W t)) (ha : PE X a (tE X.K X.mg W fa)) (hb : PE X b (tE X.K X.mg W fb)) : PE X (.IfExp c a b pos) (tE X.K X.mg W (iteE t fa fb)) := (pe_ifExp hc ha hb).imp fun σ H Q h => by
  obtain ⟨env, F, ci, S, sr, er, h⟩ := h
  refine ⟨env, F, ci, S, sr, er, (Out.bind h).imp fun b F1 c1 S1 H1 l1 s1 h1 => ?_⟩
  cases b with
  | true => exact ⟨env, F1, c1, S1, s1, er.later l1, h1⟩
  | false => exact ⟨env, F1, c1, S1, s1, er.later l1, h1⟩

/-! arguments, displays -/
variable {r : ArgsD}
theorem da_nil : PA X [] (tA X.K X.mg W nilA) := pa_nil.imp fun σ H Q h => by
  obtain ⟨env, F, ci, S, sr, er, h⟩ := h
  exact h.here sr [] .nil
theorem da_cons (ha : PE X e (tE X.K X.mg W fa)) (hr : PA X es (tA X.K X.mg W r)) (hs : starEach (e :: es) X.env = (false, eval e X.env) :: starEach es X.env := by rfl) : PA X (e :: es) (tA X.K X.mg W (consA fa r)) := (pa_cons ha hr hs).imp fun σ H Q h => by
  obtain ⟨env, F, ci, S, sr, er, h⟩ := h
  exact ⟨env, F, ci, S, sr, er, (Out.bind h).imp fun dx F1 c1 S1 H1 l1 s1 h1 v1 r1 => ⟨env, F1, c1, S1, s1, er.later l1, (Out.bind h1).imp fun ds F2 c2 S2 H2 l2 s2 h2 vs rs => h2.here s2 (v1 :: vs) (.cons (l2.rp r1) rs)⟩⟩
end

/-! ### a new object -/
section
variable {K : PySem.W.Frag} {F : Hp} {ci : List Addr} {S : Sto} {H : Hp}
theorem ext_new {p : Addr} {o : HO} (h : F p = none) : Ext F (upd F p o) := fun a u q => by rw [upd_ne (ne_of_none q h)]; exact q
theorem SR.free (s : SR K F ci S H) {p : Addr} (h : H p = none) : F p = none := by
  cases e : F p with
  | none => rfl
  | some o => rw [s.le p o e] at h; cases h
theorem SR.notIn (s : SR K F ci S H) {p : Addr} (h : H p = none) : p ∉ ci := fun hm => by
  obtain ⟨o, e⟩ := s.there p hm
  rw [h] at e; cases e
/-- a new frozen thing -/
theorem SR.laid (s : SR K F ci S H) {p : Addr} {o : HO} (h : H p = none) : SR K (upd F p o) ci S (upd H p o) ∧ Later F ci H (upd F p o) ci (upd H p o) := by
  have hF := s.free h
  have hx : Ext F (upd F p o) := ext_new hF
  have l : Later F ci H (upd F p o) ci (upd H p o) := by
    refine ⟨hx, List.prefix_refl _, fun a u q _ => ?_, fun a hm hn => absurd hm hn, fun a u q => ?_⟩
    · rw [upd_ne (ne_of_none q h)]; exact q
    · by_cases ha : a = p
      · subst ha; exact .inr (.inr h)
      · rw [upd_ne ha] at q; exact .inl q
  refine ⟨⟨fun a u q => ?_, s.len, s.nd, fun a hm => ?_, fun n xs e => ?_, fun n u e => by
    obtain ⟨a, e1, e2, e3⟩ := s.kel n u e
    have ha : a ≠ p := ne_of_none e3 h
    exact ⟨a, e1, by rw [upd_ne ha]; exact e2, by rw [upd_ne ha]; exact e3⟩, fun n two g xs e => by
    obtain ⟨a, e1, hg⟩ := s.gel n two g xs e
    exact ⟨a, e1, l.gelat hg (by rw [upd_ne (hg.ne h)]; exact hg.f) (upd_ne (hg.ne h))⟩⟩, l⟩
  · by_cases ha : a = p
    · subst ha; rw [upd_same] at q ⊢; exact q
    · rw [upd_ne ha] at q ⊢; exact s.le a u q
  · obtain ⟨u, e⟩ := s.there a hm
    exact ⟨u, by rw [upd_ne (ne_of_none e h)]; exact e⟩
  · obtain ⟨a, vs, e1, e2, e3, z, e4⟩ := s.cel n xs e
    have ha : a ≠ p := ne_of_none e3 h
    exact ⟨a, vs, e1, by rw [upd_ne ha]; exact e2, by rw [upd_ne ha]; exact e3, z, e4.mono hx (List.prefix_refl _)⟩
theorem GelAt.upd {a D : Addr} {o : HO} {two : Bool} {g : Addr → List V → HO} {xs : List PV} (h : GelAt K F ci H a two g xs) (ha : a ≠ D) (hd : ∀ b, H D ≠ some (.own b)) : GelAt K F ci (upd H D o) a two g xs := by
  obtain ⟨dx, vs, h1, h2, h3, h4, h5⟩ := h
  refine ⟨dx, vs, h1, by rw [upd_ne ha]; exact h2, h3, h4, fun t => ?_⟩
  obtain ⟨k1, k2, k3⟩ := h5 t
  have : dx ≠ D := fun e => by subst e; exact hd _ k3
  exact ⟨k1, k2, by rw [upd_ne this]; exact k3⟩
theorem GelAt.updc {a D : Addr} {o : HO} {two : Bool} {g : Addr → List V → HO} {xs : List PV} (h : GelAt K F ci H a two g xs) (ha : a ≠ D) (hd : D ∈ ci) : GelAt K F ci (L2.upd H D o) a two g xs := by
  obtain ⟨dx, vs, h1, h2, h3, h4, h5⟩ := h
  refine ⟨dx, vs, h1, by rw [upd_ne ha]; exact h2, h3, h4, fun t => ?_⟩
  obtain ⟨k1, k2, k3⟩ := h5 t
  have : dx ≠ D := fun e => k2 (e ▸ hd)
  exact ⟨k1, k2, by rw [upd_ne this]; exact k3⟩
theorem GelAt.frz {a D : Addr} {o : HO} {two : Bool} {g : Addr → List V → HO} {xs : List PV} (h : GelAt K F ci H a two g xs) (ha : a ≠ D) (hf : F D = none) (hd : ∀ b, H D ≠ some (.own b)) : GelAt K (L2.upd F D o) ci H a two g xs := by
  obtain ⟨dx, vs, h1, h2, h3, h4, h5⟩ := h
  refine ⟨dx, vs, by rw [upd_ne ha]; exact h1, h2, h3, h4.mono (ext_new hf) (List.prefix_refl _), fun t => ?_⟩
  obtain ⟨k1, k2, k3⟩ := h5 t
  have : dx ≠ D := fun e => by subst e; exact hd _ k3
  exact ⟨by rw [upd_ne this]; exact k1, k2, k3⟩
theorem GelAt.same {a : Addr} {H' : Hp} {two : Bool} {g : Addr → List V → HO} {xs : List PV} (h : GelAt K F ci H a two g xs) (ha : H' a = H a) (hd : ∀ c b, H c = some (.own b) → H' c = some (.own b)) : GelAt K F ci H' a two g xs := by
  obtain ⟨dx, vs, h1, h2, h3, h4, h5⟩ := h
  refine ⟨dx, vs, h1, ha.trans h2, h3, h4, fun t => ?_⟩
  obtain ⟨k1, k2, k3⟩ := h5 t
  exact ⟨k1, k2, hd _ _ k3⟩
/-- a new mutable list -/
theorem SR.celled (s : SR K F ci S H) {p : Addr} {xs : List PV} {vs : List V} (h : H p = none) (z : xs.length ≤ sizeLine ∧ bels 0 xs = true) (r : Rps K F ci xs vs) :
    SR K F (ci ++ [p]) (S ++ [.lst xs]) (upd H p (.lst vs)) ∧ Later F ci H F (ci ++ [p]) (upd H p (.lst vs)) ∧ (ci ++ [p])[S.length]? = some p := by
  have hp : ci <+: ci ++ [p] := List.prefix_append _ _
  have hg : (ci ++ [p])[S.length]? = some p := by rw [← s.len, List.getElem?_append_right (Nat.le_refl _), Nat.sub_self]; rfl
  have l : Later F ci H F (ci ++ [p]) (upd H p (.lst vs)) := by
    refine ⟨.refl _, hp, fun a u q _ => ?_, fun a hm hn => ?_, fun _ _ q => .inl q⟩
    · rw [upd_ne (ne_of_none q h)]; exact q
    · rcases List.mem_append.mp hm with hm | hm
      · exact absurd hm hn
      · have : a = p := by simpa using hm
        subst this; exact h
  refine ⟨⟨fun a u q => ?_, by simp [s.len], ?_, fun a hm => ?_, fun n ys e => ?_, fun n u e => by
    by_cases hn : n < S.length
    · rw [List.getElem?_append_left hn] at e
      obtain ⟨a, e1, e2, e3⟩ := s.kel n u e
      exact ⟨a, pre_get hp e1, e2, by rw [upd_ne (ne_of_none e3 h)]; exact e3⟩
    · have hn' : n = S.length := by
        have := (List.getElem?_eq_some_iff.mp e).1
        simp at this; omega
      subst hn'
      rw [List.getElem?_append_right (Nat.le_refl _), Nat.sub_self] at e
      simp at e, fun n two g ys e => by
    by_cases hn : n < S.length
    · rw [List.getElem?_append_left hn] at e
      obtain ⟨a, e1, hg⟩ := s.gel n two g ys e
      exact ⟨a, pre_get hp e1, l.gelat hg hg.f (upd_ne (hg.ne h))⟩
    · have hn' : n = S.length := by
        have := (List.getElem?_eq_some_iff.mp e).1
        simp at this; omega
      subst hn'
      rw [List.getElem?_append_right (Nat.le_refl _), Nat.sub_self] at e
      simp at e⟩, l, hg⟩
  · have := s.le a u q
    rw [upd_ne (ne_of_none this h)]; exact this
  · rw [List.nodup_append]
    refine ⟨s.nd, by simp, fun a ha b hb => ?_⟩
    have : b = p := by simpa using hb
    subst this
    rintro rfl
    exact s.notIn h ha
  · rcases List.mem_append.mp hm with hm | hm
    · obtain ⟨u, e⟩ := s.there a hm
      exact ⟨u, by rw [upd_ne (ne_of_none e h)]; exact e⟩
    · have : a = p := by simpa using hm
      subst this
      exact ⟨_, upd_same⟩
  · by_cases hn : n < S.length
    · rw [List.getElem?_append_left hn] at e
      obtain ⟨a, ws, e1, e2, e3, z', e4⟩ := s.cel n ys e
      exact ⟨a, ws, pre_get hp e1, e2, by rw [upd_ne (ne_of_none e3 h)]; exact e3, z', e4.mono (.refl _) hp⟩
    · have hn' : n = S.length := by
        have := (List.getElem?_eq_some_iff.mp e).1
        simp at this; omega
      subst hn'
      rw [List.getElem?_append_right (Nat.le_refl _), Nat.sub_self] at e
      have e' : ys = xs := by simpa using e.symm
      subst e'
      exact ⟨p, vs, hg, s.free h, upd_same, z, r.mono (.refl _) hp⟩
theorem rd_new {p : Addr} {o : HO} : Rd (upd F p o) p o := .inl upd_same
end

section
variable {X : Cx} {W : WX} {es : List Expr} {pos : Pos} {r : ArgsD}
theorem de_list (h : PA X es (tA X.K X.mg W r)) : PE X (.List es pos) (tE X.K X.mg W (listE r)) := (pe_lst h).imp fun σ H Q h => by
  obtain ⟨env, F, ci, S, sr, er, h⟩ := h
  refine ⟨env, F, ci, S, sr, er, (Out.bind h).imp fun ds F1 c1 S1 H1 l1 s1 h1 vs rs => ?_⟩
  split at h1
  · rename_i z
    refine ⟨by rw [← rs.length]; exact z, fun p hp => ?_⟩
    obtain ⟨s2, l2⟩ := s1.laid (o := .lst vs) hp
    exact h1 _ _ _ l2 s2 _ (.lst upd_same z (l2.rps rs))
  · exact h1.elim
theorem de_tup {k : Nat} (h : PA X es (tA X.K X.mg W r)) : PE X (.Tuple es k pos) (tE X.K X.mg W (tupE r)) := (pe_tup h).imp fun σ H Q h => by
  obtain ⟨env, F, ci, S, sr, er, h⟩ := h
  refine ⟨env, F, ci, S, sr, er, (Out.bind h).imp fun ds F1 c1 S1 H1 l1 s1 h1 vs rs => ?_⟩
  split at h1
  · rename_i z
    refine ⟨by rw [← rs.length]; exact z, fun p hp => ?_⟩
    obtain ⟨s2, l2⟩ := s1.laid (o := .tup vs) hp
    exact h1 _ _ _ l2 s2 _ (.tup (.inl rd_new) z (l2.rps rs))
  · exact h1.elim
theorem de_cell (h : PA X es (tA X.K X.mg W r)) : PE X (.List es pos) (tE X.K X.mg W (cellE r)) := (pe_lst h).imp fun σ H Q h => by
  obtain ⟨env, F, ci, S, sr, er, h⟩ := h
  refine ⟨env, F, ci, S, sr, er, (Out.bind h).imp fun ds F1 c1 S1 H1 l1 s1 h1 vs rs => ?_⟩
  split at h1
  · rename_i z
    refine ⟨by rw [← rs.length]; exact z.1, fun p hp => ?_⟩
    obtain ⟨s2, l2, g⟩ := s1.celled hp z rs
    exact h1 _ _ _ l2 s2 _ (.cell g)
  · exact h1.elim
end
end LH

/-! LC: statements, calls, defs. -/
namespace LH
open PySem PySem.Spec PyProof.Rows L2

section
variable {X : Cx} {W : WX} {st : Stmt} {rest : List Stmt} {e c : Expr} {pos : Pos} {f : ExprD} {p q : StmtD}
abbrev tSX (X : Cx) (W : WX) (p : StmtD) : TS := tS X.K X.mg W p

theorem runE_out {K : PySem.W.Frag} {mg : Str → Option Value} {F : Hp} {ci : List Addr} {H : Hp} {D : Ends} {r : Res PV} {env : PEnv} {g : PV → Sto → Res Flow} {σ : St} (er : ER K F ci env σ)
    (h : Out K (fun _ _ _ _ _ => False) F ci H (runE r env g) (SW K mg W D)) : Out K (Zf K mg (WE W σ)) F ci H r fun d F1 c1 S1 H1 => Out K (fun _ _ _ _ _ => False) F1 c1 H1 (g d S1) (SW K mg W D) := by
  cases r with
  | ok d S' => exact fun F1 c1 H1 l1 s1 => Out.later h l1
  | exc x S' => exact fun F1 c1 H1 l1 s1 cls d xr => h F1 c1 H1 l1 s1 σ (er.later l1) cls d xr
  | stuck => exact h
theorem runT_out {K : PySem.W.Frag} {mg : Str → Option Value} {F : Hp} {ci : List Addr} {H : Hp} {D : Ends} {r : Res Bool} {env : PEnv} {g : Bool → Sto → Res Flow} {σ : St} (er : ER K F ci env σ)
    (h : Out K (fun _ _ _ _ _ => False) F ci H (runT r env g) (SW K mg W D)) : Out K (Zf K mg (WE W σ)) F ci H r fun d F1 c1 S1 H1 => Out K (fun _ _ _ _ _ => False) F1 c1 H1 (g d S1) (SW K mg W D) := by
  cases r with
  | ok d S' => exact fun F1 c1 H1 l1 s1 => Out.later h l1
  | exc x S' => exact fun F1 c1 H1 l1 s1 cls d xr => h F1 c1 H1 l1 s1 σ (er.later l1) cls d xr
  | stuck => exact h

theorem dss_nil : PSs X [] (tSX X W skipS) := pss_nil.imp fun D σ H h => by
  obtain ⟨env, F, ci, S, sr, er, h⟩ := h
  exact h.here sr σ er
theorem seq_out {K : PySem.W.Frag} {mg : Str → Option Value} {F : Hp} {ci : List Addr} {S : Sto} {H : Hp} {D : Ends} {env : PEnv}
    (h : Out K (fun _ _ _ _ _ => False) F ci H (seqS p q env S) (SW K mg W D)) : Out K (fun _ _ _ _ _ => False) F ci H (p env S) (SW K mg W { D with nx := tS K mg W q D }) := by
  unfold seqS at h
  split at h
  · rename_i e' S1 h1
    rw [h1]
    exact fun F1 c1 H1 l1 s1 σ er => ⟨e', F1, c1, S1, s1, er, Out.later h l1⟩
  · rename_i r hr
    cases hp : p env S with
    | ok fl S1 =>
      rw [hp] at h
      cases fl with
      | nx e' => exact absurd hp (hr e' S1)
      | rt d => exact h
      | bk e' => exact h
      | ct e' => exact h
      | ex x e' => exact h
    | exc x S1 => rw [hp] at h; exact h
    | stuck => rw [hp] at h; exact h
theorem dss_cons (h1 : PS X st (tSX X W p)) (h2 : PSs X rest (tSX X W q)) : PSs X (st :: rest) (tSX X W (seqS p q)) := (pss_cons h1 h2).imp fun D σ H h => by
  obtain ⟨env, F, ci, S, sr, er, h⟩ := h
  exact ⟨env, F, ci, S, sr, er, seq_out h⟩
theorem dss_one (h1 : PS X st (tSX X W p)) : PSs X [st] (tSX X W p) := pss_one h1
theorem ds_never : PS X st (tSX X W neverS) := ps_never.imp fun D σ H h => by
  obtain ⟨env, F, ci, S, sr, er, h⟩ := h
  exact h
theorem ds_ret (h : PE X e (tE X.K X.mg W f)) : PS X (.Return (some e) pos) (tSX X W (retS f)) := (ps_ret h).imp fun D σ H h => by
  obtain ⟨env, F, ci, S, sr, er, h⟩ := h
  exact ⟨env, F, ci, S, sr, er, (runE_out er h).imp fun d F1 c1 S1 H1 l1 s1 h1 v1 r1 => h1.here s1 v1 r1⟩
theorem ds_expr (h : PE X e (tE X.K X.mg W f)) (hs : swapsWith e none pos.line X.env = pure false := by rfl) : PS X (.Expr e pos) (tSX X W (exprS f)) := (ps_expr h hs).imp fun D σ H h => by
  obtain ⟨env, F, ci, S, sr, er, h⟩ := h
  exact ⟨env, F, ci, S, sr, er, (runE_out er h).imp fun d F1 c1 S1 H1 l1 s1 h1 v1 r1 => h1.here s1 σ (er.later l1)⟩
theorem ds_if {t : TestD} {a b : List Stmt} (hc : PT X c (tT X.K X.mg W t)) (ha : PSs X a (tSX X W p)) (hb : PSs X b (tSX X W q)) : PS X (.If c a b pos) (tSX X W (ifS t p q)) := (ps_if hc ha hb).imp fun D σ H h => by
  obtain ⟨env, F, ci, S, sr, er, h⟩ := h
  refine ⟨env, F, ci, S, sr, er, (runT_out er h).imp fun d F1 c1 S1 H1 l1 s1 h1 => ?_⟩
  cases d with
  | true => exact ⟨env, F1, c1, S1, s1, er.later l1, h1⟩
  | false => exact ⟨env, F1, c1, S1, s1, er.later l1, h1⟩

/-! targets -/
mutual
def Tg.slots : Tg → List Nat
  | .nm i => [i]
  | .tp ts => Tg.slotss ts
def Tg.slotss : List Tg → List Nat
  | [] => []
  | t :: ts => Tg.slots t ++ Tg.slotss ts
end
def Only (is : List Nat) (σ σ' : St) : Prop := ∀ ws : List Nat, (∀ i ∈ is, i ∈ ws) → wipe σ' ws = wipe σ ws
theorem wipe_set_out : ∀ (ws : List Nat) (σ : St) (i : Nat) (x : Option V), i ∉ ws → wipe (σ.set i x) ws = (wipe σ ws).set i x
  | [], _, _, _, _ => rfl
  | v :: vs, σ, i, x, h => by
    simp only [List.mem_cons, not_or] at h
    unfold wipe
    rw [wipe_set_out vs σ i x h.2, List.set_comm _ _ h.1]
theorem wipe_set_in : ∀ (ws : List Nat) (σ : St) (i : Nat) (x : Option V), i ∈ ws → wipe (σ.set i x) ws = wipe σ ws
  | [], _, _, _, h => by cases h
  | v :: vs, σ, i, x, h => by
    unfold wipe
    by_cases hi : i ∈ vs
    · rw [wipe_set_in vs σ i x hi]
    · have : i = v := by
        rcases List.mem_cons.mp h with e | e
        · exact e
        · exact absurd e hi
      subst this
      rw [wipe_set_out vs σ i x hi, List.set_set]
def gD (K : PySem.W.Frag) (t : Tg) : TG := fun v σ H Q => ∃ env F ci S d, SR K F ci S H ∧ ER K F ci env σ ∧ Rp K F ci d v ∧ ∃ env', t.bind S d env = some env' ∧ ∀ σ', ER K F ci env' σ' → Only t.slots σ σ' → Q σ' H
def gDs (K : PySem.W.Frag) (ts : List Tg) : TGs := fun vs σ H Q => ∃ env F ci S ds, SR K F ci S H ∧ ER K F ci env σ ∧ Rps K F ci ds vs ∧ ∃ env', Tg.binds S ts ds env = some env' ∧ ∀ σ', ER K F ci env' σ' → Only (Tg.slotss ts) σ σ' → Q σ' H
theorem PG.imp {tg : Expr} {t t' : TG} (h : PG X tg t) (i : ∀ v σ H Q, t' v σ H Q → t v σ H Q) : PG X tg t' := ⟨fun pins s σ H v u Q I r q => h.run pins s σ H v u Q I r (i v σ H Q q)⟩
theorem PGs.imp {tg : List Expr} {t t' : TGs} (h : PGs X tg t) (i : ∀ v σ H Q, t' v σ H Q → t v σ H Q) : PGs X tg t' := ⟨fun pins s σ H v u Q I r q => h.run pins s σ H v u Q I r (i v σ H Q q)⟩
theorem dg_name (i : Nat) {x : Str} {pos : Pos} (hN : X.N.Nodup) (hi : X.N[i]? = some x := by rfl) (hx : Loc X.env.scope x := by first | exact Or.inl rfl | exact Or.inr rfl) (hf : X.fn x = true ∨ X.env.scope.names.lookup x = some .local := by first | exact .inl rfl | exact .inr rfl) :
    PG X (.Name x pos) (gD X.K (.nm i)) := PG.imp (pg_name hN hi hx hf) fun v σ H Q h => by
  obtain ⟨env, F, ci, S, d, sr, er, r, env', e, h⟩ := h
  have e' : env.set i (some d) = env' := by simpa [Tg.bind] using e
  subst e'
  exact h _ (er.set i r) fun ws hw => wipe_set_in ws σ i _ (hw i (by simp [Tg.slots]))
theorem dgs_nil : PGs X [] (gDs X.K []) := PGs.imp pgs_nil fun v σ H Q h => by
  obtain ⟨env, F, ci, S, ds, sr, er, r, env', e, h⟩ := h
  cases ds with
  | nil =>
    have e' : env = env' := by simpa [Tg.binds] using e
    subst e'
    exact ⟨r.nil_inv, h _ er fun _ _ => rfl⟩
  | cons d ds => simp [Tg.binds] at e
theorem dgs_cons {e : Expr} {es : List Expr} {t : Tg} {ts : List Tg} (h1 : PG X e (gD X.K t)) (h2 : PGs X es (gDs X.K ts)) (hs : (assignEach (e :: es) X.env).map (·.2) = assign e X.env :: (assignEach es X.env).map (·.2) := by rfl) : PGs X (e :: es) (gDs X.K (t :: ts)) := PGs.imp (pgs_cons h1 h2 hs) fun v σ H Q h => by
  obtain ⟨env, F, ci, S, ds, sr, er, r, env', e, h⟩ := h
  cases ds with
  | nil => simp [Tg.binds] at e
  | cons d ds =>
    obtain ⟨v1, ws, rfl, r1, r2⟩ := r.cons_inv
    simp only [Tg.binds, Option.bind_eq_some_iff] at e
    obtain ⟨env1, e1, e2⟩ := e
    exact ⟨v1, ws, rfl, env, F, ci, S, d, sr, er, r1, env1, e1, fun σ1 er1 o1 => ⟨env1, F, ci, S, ds, sr, er1, r2, env', e2, fun σ2 er2 o2 => h σ2 er2 fun ws hw => (o2 ws fun i hi => hw i (by simp [Tg.slotss, hi])).trans (o1 ws fun i hi => hw i (by simp [Tg.slotss, hi]))⟩⟩
theorem SR.sqT {K : PySem.W.Frag} {F : Hp} {ci : List Addr} {S : Sto} {H : Hp} (s : SR K F ci S H) {a : Addr} {vs : List V} (h : SqT K F a vs) : SqT K H a vs := Ext.sqT s.le h
theorem SR.sqL {K : PySem.W.Frag} {F : Hp} {ci : List Addr} {S : Sto} {H : Hp} (s : SR K F ci S H) {a : Addr} {vs : List V} (h : SqL K F a vs) : SqL K H a vs := Ext.sqL s.le h
theorem Tg.binds_len : ∀ {S : Sto} {ts : List Tg} {ds : List PV} {env env' : PEnv}, Tg.binds S ts ds env = some env' → ds.length = ts.length
  | _, [], [], _, _, _ => rfl
  | _, [], _ :: _, _, _, h => by simp [Tg.binds] at h
  | _, _ :: _, [], _, _, h => by simp [Tg.binds] at h
  | S, t :: ts, d :: ds, env, env', h => by
    simp only [Tg.binds, Option.bind_eq_some_iff] at h
    obtain ⟨_, _, h2⟩ := h
    simp [Tg.binds_len h2]
theorem dg_tup {es : List Expr} {k : Nat} {ts : List Tg} (hc : X.calm = true) (h : PGs X es (gDs X.K ts))
    (hn : (assignEach es X.env).length = ts.length := by rfl) (hst : (assignEach es X.env).findIdx? (·.1) = none := by rfl) : PG X (.Tuple es k pos) (gD X.K (.tp ts)) := by
  refine ⟨fun pins s σ H v u Q I rv h' => ?_⟩
  obtain ⟨env, F, ci, S, d, sr, er, r, env', e, hq⟩ := h'
  cases d with
  | tup ds =>
    cases r with
    | tup hs hz rs =>
      have e' : Tg.binds S ts ds env = some env' := by simpa [Tg.bind] using e
      exact (pg_tup hc h hn hst).run pins s σ H _ u Q I rv ⟨_, _, rfl, sr.sqT hs, by rw [← rs.length]; exact Tg.binds_len e', env, F, ci, S, ds, sr, er, rs, env', e', fun σ' er' o => hq σ' er' (by simpa [Tg.slots] using o)⟩
  | lst ds =>
    cases r with
    | lst hs hz rs =>
      have e' : Tg.binds S ts ds env = some env' := by simpa [Tg.bind] using e
      exact (pg_lst hc h hn hst).run pins s σ H _ u Q I rv ⟨_, _, rfl, .inl (.inl (sr.le _ _ hs)), by rw [← rs.length]; exact Tg.binds_len e', env, F, ci, S, ds, sr, er, rs, env', e', fun σ' er' o => hq σ' er' (by simpa [Tg.slots] using o)⟩
  | _ => simp [Tg.bind] at e
theorem ds_set (i : Nat) {x : Str} {pos' : Pos} (hN : X.N.Nodup) (he : PE X e (tE X.K X.mg W f)) (hi : X.N[i]? = some x := by rfl) (hx : Loc X.env.scope x := by first | exact Or.inl rfl | exact Or.inr rfl) (hs : swapsWith e (some (.Name x pos')) pos.line X.env = pure false := by rfl)
    (hf : X.fn x = true ∨ X.env.scope.names.lookup x = some .local := by first | exact .inl rfl | exact .inr rfl) :
    PS X (.Assign [.Name x pos'] e pos) (tSX X W (asgS (.nm i) f)) := (ps_set hN hi hx he hs hf).imp fun D σ H h => by
  obtain ⟨env, F, ci, S, sr, er, h⟩ := h
  refine ⟨env, F, ci, S, sr, er, (runE_out er h).imp fun d F1 c1 S1 H1 l1 s1 h1 v1 r1 => ?_⟩
  exact h1.here s1 _ ((er.later l1).set i r1)
end

/-! ### while -/
section
variable {X : Cx} {W : WX} {c : Expr} {body : List Stmt} {pos : Pos} {t : TestD} {p : StmtD}
/-- a while of at most n turns -/
theorem ds_while (n : PEnv → Sto → Nat) (hp : PassesOwn (model X.prog X.w) X.A X.env X.xe) (hc : PT X c (tT X.K X.mg W t)) (hb : PSs X body (tSX X W p)) : PS X (.While c body [] pos) (tSX X W fun env S => whileN t p (n env S) env S) := (ps_while hp hc hb).imp fun D σ H h => by
  obtain ⟨env, F, ci, S, sr, er, h⟩ := h
  refine ⟨fun m σ H => ∃ env F ci S, SR X.K F ci S H ∧ ER X.K F ci env σ ∧ Out X.K (fun _ _ _ _ _ => False) F ci H (whileN t p m env S) (SW X.K X.mg W D), ⟨_, env, F, ci, S, sr, er, h⟩, ?_⟩
  rintro m σ H ⟨env, F, ci, S, sr, er, h⟩
  cases m with
  | zero => exact h.elim
  | succ m =>
    unfold whileN at h
    refine ⟨env, F, ci, S, sr, er, (runT_out er h).imp fun b F1 c1 S1 H1 l1 s1 h1 => ?_⟩
    cases b with
    | false => exact h1.here s1 σ (er.later l1)
    | true =>
      rw [if_pos rfl] at h1 ⊢
      refine ⟨fun σ' H' => ∃ env F ci S, SR X.K F ci S H' ∧ ER X.K F ci env σ' ∧ Out X.K (fun _ _ _ _ _ => False) F ci H' (whileN t p m env S) (SW X.K X.mg W D), fun σ' H' z => ⟨m, Nat.lt_succ_self m, z⟩, env, F1, c1, S1, s1, er.later l1, ?_⟩
      cases hq : p env S1 with
      | ok fl S2 =>
        rw [hq] at h1
        cases fl with
        | nx e' => exact fun F2 c2 H2 l2 s2 σ2 er2 => ⟨e', F2, c2, S2, s2, er2, Out.later h1 l2⟩
        | ct e' => exact fun F2 c2 H2 l2 s2 σ2 er2 => ⟨e', F2, c2, S2, s2, er2, Out.later h1 l2⟩
        | bk e' => exact h1
        | rt d => exact h1
        | ex x e' => exact h1
      | exc x S2 => rw [hq] at h1; exact h1
      | stuck => rw [hq] at h1; exact h1
end

/-! ### defs and their calls -/
def spF (K : PySem.W.Frag) (mg : Str → Option Value) (n : Nat) (f : FnDen) : Sp := fun vs H Q E => vs.length = n ∧ ∃ F ci S ds, SR K F ci S H ∧ Rps K F ci ds vs ∧ Out K (Zf K mg E) F ci H (f ds S) fun d F' ci' S' H' => ∀ v, Rp K F' ci' d v → Q v H'
/-- a def that may be called by its name -/
structure Callee (P : Program) (w : World) (K : PySem.W.Frag) (mg : Str → Option Value) (base : Heap) (k : Nat) (x : Str) (ps : List Str) (f : FnDen) : Prop where
  ex : ∃ fa fd, FnOk P w K mg base (L2.CX P w) k fa fd ps (spF K mg ps.length f) ∧ mg x = some (.ref fa) ∧ PySem.W.keepIn K (.ref fa) = true ∧ Binds K fd ps []
/-- what is raised by a callee is taken -/
def Lets (X : Cx) (W : WX) : Prop := ∀ σ, PassesAt (L2.CX X.prog X.w) X σ (WE W σ)
theorem lets_of {X : Cx} {W : WX} (tk : Takes X W) : Lets X W := fun σ => passAt tk σ
theorem lets0 {X : Cx} : Lets X (fun _ _ _ _ => False) := fun σ pins H s e s' I h => by
  obtain ⟨_, _, _, _, _, _, _, _, _, _, _, _, z⟩ := h
  exact z.elim
section
variable {X : Cx} {W : WX} {k j : Nat} {x : Str} {ps : List Str} {f : FnDen} {e : Expr} {es : List Expr} {r : ArgsD} {p pos : Pos}
theorem de_call (cl : Callee X.prog X.w X.K X.mg X.base k x ps f) (hl : Lets X W) (hr : Room j X.A) (ha : PA X (e :: es) (tA X.K X.mg W r)) (hk : k ≤ j := by decide) (hg : Gl X x := by rfl)
    (hn : (e :: es).length = ps.length := by rfl) (hrl : ∀ env S ds S', r env S = .ok ds S' → ds.length = (e :: es).length) (hdb : (x == ("__debug__" : Str)) = false := by decide) (he : starEach (e :: es) X.env = (false, eval e X.env) :: starEach es X.env := by rfl) (hpl : (backTo pos (starEach es X.env)).any (·.1) = false := by rfl) :
    PE X (.Call (.Name x p) (e :: es) [] pos) (tE X.K X.mg W (callE f r)) := by
  obtain ⟨fa, fd, F, hm, hkp, hb⟩ := cl.ex
  refine (pe_callSD (E := WE W) F (hr.mono hk) hg hm hkp hb .nil hl ha hdb he hpl).imp fun σ H Q h => ?_
  obtain ⟨env, F0, ci, S, sr, er, h⟩ := h
  refine ⟨env, F0, ci, S, sr, er, ?_⟩
  have hx := Out.bind h
  cases hq : r env S with
  | ok ds S1 =>
    rw [hq] at hx
    refine fun F1 c1 H1 l1 s1 vs rs => ⟨?_, F1, c1, S1, ds, s1, by rw [List.append_nil]; exact rs, hx F1 c1 H1 l1 s1⟩
    rw [List.append_nil, ← rs.length, hrl _ _ _ _ hq, hn]
  | exc x S1 => rw [hq] at hx; exact hx
  | stuck => rw [hq] at hx; exact hx
end
theorem len_nilA : ∀ env S ds S', nilA env S = .ok ds S' → ds.length = 0 := fun env S ds S' h => by
  unfold nilA at h; injection h with h1 _; subst h1; rfl
theorem len_consA {a : ExprD} {r : ArgsD} {n : Nat} (hr : ∀ env S ds S', r env S = .ok ds S' → ds.length = n) : ∀ env S ds S', consA a r env S = .ok ds S' → ds.length = n + 1 := fun env S ds S' h => by
  unfold consA at h
  cases ha : a env S with
  | ok x S1 =>
    rw [ha] at h
    cases hq : r env S1 with
    | ok xs S2 =>
      have h' : (r env S1).bind (fun xs S2 => Res.ok (x :: xs) S2) = .ok ds S' := h
      rw [hq] at h'
      injection h' with h1 _
      subst h1
      simp [hr _ _ _ _ hq]
    | exc y S2 =>
      have h' : (r env S1).bind (fun xs S2 => Res.ok (x :: xs) S2) = .ok ds S' := h
      rw [hq] at h'; cases h'
    | stuck =>
      have h' : (r env S1).bind (fun xs S2 => Res.ok (x :: xs) S2) = .ok ds S' := h
      rw [hq] at h'; cases h'
  | exc y S1 => rw [ha] at h; cases h
  | stuck => rw [ha] at h; cases h

/-! ### THE RULE for a def -/
theorem er_start {K : PySem.W.Frag} {F : Hp} {ci : List Addr} {ds : List PV} {vs : List V} (r : Rps K F ci ds vs) (N : List Str) : ER K F ci (ds.map some ++ List.replicate (N.length - ds.length) none) (L2.start N vs) := by
  have hl := r.length
  refine ⟨by unfold L2.start; simp [hl], fun i d h => ?_⟩
  by_cases hi : i < ds.length
  · rw [List.getElem?_append_left (by simpa using hi), List.getElem?_map] at h
    cases e : ds[i]? with
    | none => rw [e] at h; cases h
    | some d' =>
      rw [e] at h
      have e' : d' = d := by simpa using h
      subst e'
      obtain ⟨v, hv, rv⟩ := r.get e
      refine ⟨v, ?_, rv⟩
      unfold L2.start
      rw [List.getElem?_append_left (by rw [List.length_map]; omega), List.getElem?_map, hv]
      rfl
  · rw [List.getElem?_append_right (by simpa using Nat.le_of_not_lt hi), List.getElem?_replicate] at h
    split at h <;> cases h
theorem fn_ok {P : Program} {w : World} {K : PySem.W.Frag} {mg : Str → Option Value} {base : Heap} {x qual : Str} {params : Arguments} {body : List Stmt} {scope : Scope} {dvs : List V} {kws : List (Str × V)} {fa : Addr} {fd : FuncData} {N ps : List Str} {k : Nat} {b : StmtD}
    (F : FunD K x qual params body scope dvs kws fa fd) (S : FnScope N ps scope)
    (hbody : ∀ (cdv : Value) (A : Around) (outer : List Env) (s : Shared) (H : Hp) (E : XK), Room k (A.deeper (envOfC qual scope s.heap.objs.size fa cdv)) → Lets (cxOf (L2.CX P w) P w K mg base N qual scope fa cdv A outer s H E) (fun c d _ H => E c d H) →
      PassesOwn (model P w) (A.deeper (envOfC qual scope s.heap.objs.size fa cdv)) (envOfC qual scope s.heap.objs.size fa cdv) (cxOf (L2.CX P w) P w K mg base N qual scope fa cdv A outer s H E).xe →
      Takes (cxOf (L2.CX P w) P w K mg base N qual scope fa cdv A outer s H E) (fun c d _ H => E c d H) →
      PSs (cxOf (L2.CX P w) P w K mg base N qual scope fa cdv A outer s H E) body (tS K mg (fun c d _ H => E c d H) b)) :
    FnOk P w K mg base (L2.CX P w) (k + 1) fa fd ps (spF K mg ps.length (fnD ps.length N.length b)) := by
  refine F.ok S (fun vs H Q E h => h.1) fun cdv A outer s H vs Q E hr h => ?_
  have tk : Takes (cxOf (L2.CX P w) P w K mg base N qual scope fa cdv A outer s H E) (fun c d _ H => E c d H) := takes_of rfl rfl rfl rfl
  refine ⟨_, hbody cdv A outer s H E hr (lets_of tk) (passes_of rfl) tk, ?_⟩
  obtain ⟨hl, F0, ci, S0, ds, sr, rs, h⟩ := h
  have hd : ds.length = ps.length := by rw [rs.length, hl]
  refine ⟨ds.map some ++ List.replicate (N.length - ds.length) none, F0, ci, S0, sr, er_start rs N, ?_⟩
  unfold fnD at h
  rw [if_pos hd] at h
  cases hb : b (ds.map some ++ List.replicate (N.length - ds.length) none) S0 with
  | ok fl S1 =>
    rw [hb] at h
    cases fl with
    | nx e' => exact fun F1 c1 H1 l1 s1 σ _ => h F1 c1 H1 l1 s1 _ .non
    | rt d => exact fun F1 c1 H1 l1 s1 v r => h F1 c1 H1 l1 s1 v r
    | ex y e' => exact fun F1 c1 H1 l1 s1 σ _ cls d xr => h F1 c1 H1 l1 s1 cls d xr
    | bk e' => exact h.elim
    | ct e' => exact h.elim
  | exc y S1 => rw [hb] at h; exact h.elim
  | stuck => rw [hb] at h; exact h.elim
end LH

/-! LD: operators by values. -/
namespace LH
open PySem PySem.Spec PyProof.Rows L2

def lstOf (S : Sto) : PV → Option (List PV)
  | .lst xs => some xs
  | .ro xs => some xs
  | .cell n => match S[n]? with
    | some (.lst xs) => some xs
    | _ => none
  | _ => none
def catOf (S : Sto) : PV → Option (List PV)
  | .lst xs => some xs
  | .cell n => match S[n]? with
    | some (.lst xs) => some xs
    | _ => none
  | _ => none
/-- the items of a list or a tuple -/
def seqOf (S : Sto) : PV → Option (List PV)
  | .tup xs => some xs
  | d => lstOf S d
section
variable {K : PySem.W.Frag} {F : Hp} {ci : List Addr} {S : Sto} {H : Hp} {d : PV} {v : V} {xs : List PV}
theorem lst_rd (s : SR K F ci S H) (r : Rp K F ci d v) (h : lstOf S d = some xs) : ∃ a vs, v = .ref a ∧ SqL K H a vs ∧ Rps K F ci xs vs ∧ xs.length ≤ sizeLine := by
  cases r with
  | lst e z rs => cases h; exact ⟨_, _, rfl, .inl (.inl (s.le _ _ e)), rs, z⟩
  | ro e z rs => cases h; exact ⟨_, _, rfl, Ext.sqL s.le e, rs, z⟩
  | @cell a n e =>
    have h' : (match S[n]? with | some (.lst xs) => some xs | _ => none) = some xs := h
    split at h'
    · rename_i ys q
      cases h'
      obtain ⟨b, vs, e1, _, e3, z, rs⟩ := s.cel n _ q
      rw [e] at e1; cases e1
      exact ⟨_, vs, rfl, .inl (.inl e3), rs, z.1⟩
    · cases h'
  | _ => cases h
theorem cat_lst (s : SR K F ci S H) (r : Rp K F ci d v) (h : catOf S d = some xs) : ∃ a vs, v = .ref a ∧ H a = some (.lst vs) ∧ Rps K F ci xs vs ∧ xs.length ≤ sizeLine := by
  cases r with
  | lst e z rs => cases h; exact ⟨_, _, rfl, s.le _ _ e, rs, z⟩
  | @cell a n e =>
    have h' : (match S[n]? with | some (.lst xs) => some xs | _ => none) = some xs := h
    split at h'
    · rename_i ys q
      cases h'
      obtain ⟨b, vs, e1, _, e3, z, rs⟩ := s.cel n _ q
      rw [e] at e1; cases e1
      exact ⟨_, vs, rfl, e3, rs, z.1⟩
    · cases h'
  | _ => cases h
theorem seq_sq (s : SR K F ci S H) (r : Rp K F ci d v) (h : seqOf S d = some xs) : ∃ a vs, v = .ref a ∧ (SqL K H a vs ∨ SqT K H a vs) ∧ Rps K F ci xs vs ∧ xs.length ≤ sizeLine := by
  cases r with
  | tup e z rs => cases h; exact ⟨_, _, rfl, .inr (s.sqT e), rs, z⟩
  | lst e z rs => obtain ⟨a, vs, h1, h2, h3⟩ := lst_rd s (.lst e z rs) h; exact ⟨a, vs, h1, .inl h2, h3⟩
  | ro e z rs => obtain ⟨a, vs, h1, h2, h3⟩ := lst_rd s (.ro e z rs) h; exact ⟨a, vs, h1, .inl h2, h3⟩
  | cell e => obtain ⟨a, vs, h1, h2, h3⟩ := lst_rd s (.cell e) h; exact ⟨a, vs, h1, .inl h2, h3⟩
  | _ => cases h
end

/-! ### arithmetic -/
def intF (C : Int → Int → Prop) [∀ i j, Decidable (C i j)] (g : Int → Int → Int) : PV → PV → Sto → Res PV := fun x y S => match x, y with
  | .int i, .int j => if C i j then .ok (.int (g i j)) S else .stuck
  | _, _ => .stuck
def mulC (i j : Int) : Prop := i.natAbs.log2 + j.natAbs.log2 < 1000000
def divC (i j : Int) : Prop := 0 < j ∧ (j.natAbs.log2 < 9000 ∨ i.natAbs.log2 ≤ j.natAbs.log2 + 3000)
def modC (_ j : Int) : Prop := 0 < j
def powC (i j : Int) : Prop := 0 ≤ j ∧ j ≤ 1000 ∧ i.natAbs.log2 < 100000
instance (i j : Int) : Decidable (mulC i j) := by unfold mulC; infer_instance
instance (i j : Int) : Decidable (divC i j) := by unfold divC; infer_instance
instance (i j : Int) : Decidable (modC i j) := by unfold modC; infer_instance
instance (i j : Int) : Decidable (powC i j) := by unfold powC; infer_instance
def subV : PV → PV → Sto → Res PV := intF (fun _ _ => True) fun i j => i - j
def mulV : PV → PV → Sto → Res PV := intF mulC fun i j => i * j
def fdivV : PV → PV → Sto → Res PV := intF divC fun i j => i / j
def modV : PV → PV → Sto → Res PV := intF modC fun i j => i % j
def powV : PV → PV → Sto → Res PV := intF powC fun i j => i ^ j.toNat
def andV : PV → PV → Sto → Res PV := intF (fun _ _ => True) fun i j => Builtin.bitAnd i j
def addV : PV → PV → Sto → Res PV := fun x y S => match x, y with
  | .int i, .int j => .ok (.int (i + j)) S
  | .str a, .str b => if a.length + b.length ≤ sizeLine then .ok (.str (a ++ b)) S else .stuck
  | .tup a, .tup b => if a.length + b.length ≤ sizeLine then .ok (.tup (a ++ b)) S else .stuck
  | a, b => match catOf S a, catOf S b with
    | some a, some b => if a.length + b.length ≤ sizeLine then .ok (.lst (a ++ b)) S else .stuck
    | _, _ => .stuck
def negV : PV → Sto → Res PV := fun x S => match x with
  | .int i => .ok (.int (-i)) S
  | _ => .stuck
section
variable {X : Cx} {E : XK}
theorem od_int {f : Value → Value → Sem Value} {C C' : Int → Int → Prop} [∀ i j, Decidable (C i j)] {g : Int → Int → Int} (h : OpR X f (rI C' fun i j => .int (g i j))) (hC : ∀ i j, C i j → C' i j) : OpR X f (rD X.K X.mg E (intF C g)) := by
  intro pins s σ H x y v u Q I rx ry q
  obtain ⟨F, ci, S, dx, dy, sr, r1, r2, q⟩ := q
  unfold intF at q
  split at q
  · rename_i i j
    split at q
    · rename_i hc
      cases r1; cases r2
      exact h pins s σ H _ _ v u Q I rx ry ⟨i, j, rfl, rfl, hC _ _ hc, q.here sr _ (.int _)⟩
    · exact q.elim
  · exact q.elim
theorem rI0_I {f : Value → Value → Sem Value} {g : Int → Int → V} (h : OpR X f (rI0 g)) : OpR X f (rI (fun _ _ => True) g) := by
  intro pins s σ H x y v u Q I rx ry ⟨i, j, e1, e2, _, q⟩
  exact h pins s σ H x y v u Q I rx ry ⟨i, j, e1, e2, q⟩
theorem od_sub : OpR X (binaryOp .Sub) (rD X.K X.mg E subV) := od_int (rI0_I op_sub) fun _ _ h => h
theorem od_mul : OpR X (binaryOp .Mult) (rD X.K X.mg E mulV) := od_int op_mulW fun _ _ h => h
theorem noPy_near {x y : Int} (hy : 0 < y) (h : x.natAbs.log2 ≤ y.natAbs.log2 + 3000) : Builtin.divisionGoesByPylong x y = false := by
  have e1 : (y == 0) = false := by simp; omega
  have key : (if x == 0 then 0 else x.natAbs.log2 / 30 + 1) ≤ (if y == 0 then 0 else y.natAbs.log2 / 30 + 1) + 150 := by
    rw [e1]
    simp only [Bool.false_eq_true, if_false]
    split <;> omega
  show (_ && decide ((if x == 0 then 0 else x.natAbs.log2 / 30 + 1) > (if y == 0 then 0 else y.natAbs.log2 / 30 + 1) + 150)) = false
  rw [decide_eq_false (Nat.not_lt.mpr key), Bool.and_false]
theorem op_fdivX : OpR X (binaryOp .FloorDiv) (rI divC fun i j => .int (i / j)) := opI fun i j _ _ _ _ _ hc q => by
  have h1 : (0 : Int) < j := hc.1
  exact floordiv_int (by omega) (by rw [Int.fdiv_eq_ediv_of_nonneg i (by omega)]; exact q) (.inl (hc.2.elim (fun h => PyProof.noPylong_of_log2 h) fun h => noPy_near h1 h))
theorem od_fdiv : OpR X (binaryOp .FloorDiv) (rD X.K X.mg E fdivV) := od_int op_fdivX fun _ _ h => h
theorem od_mod : OpR X (binaryOp .Mod) (rD X.K X.mg E modV) := od_int op_mod fun _ _ h => h
theorem od_pow : OpR X (binaryOp .Pow) (rD X.K X.mg E powV) := od_int (C' := powC) (opI fun i j t u Q' E' s hc q => by
  refine PyProof.Rows.pow_int hc.1 ?_ q
  have hb : Builtin.Int.intBits i ≤ i.natAbs.log2 + 1 := by unfold Builtin.Int.intBits; split <;> omega
  have h1 : (Builtin.Int.intBits i : Int) ≤ 100000 := by have := hc.2.2; omega
  have h2 : (Builtin.Int.intBits i : Int) * j ≤ 100000 * 1000 := Int.mul_le_mul h1 hc.2.1 hc.1 (by decide)
  exact Int.le_trans h2 (by decide)) fun _ _ h => h
theorem od_add : OpR X (binaryOp .Add) (rD X.K X.mg E addV) := by
  intro pins s σ H x y v u Q I rx ry q
  obtain ⟨F, ci, S, dx, dy, sr, r1, r2, q⟩ := q
  have lists : ∀ a b, catOf S dx = some a → catOf S dy = some b → a.length + b.length ≤ sizeLine → (Out X.K (Zf X.K X.mg E) F ci H (.ok (.lst (a ++ b)) S) fun d F' ci' S' H' => ∀ v, Rp X.K F' ci' d v → Q v H') →
      wpAny (model X.prog X.w) X.A (binaryOp .Add v u) (EP X pins σ Q) X.xe s := fun a b h1 h2 z q => by
    obtain ⟨l, vs, rfl, e1, rs1, _⟩ := cat_lst sr r1 h1
    obtain ⟨m, ws, rfl, e2, rs2, _⟩ := cat_lst sr r2 h2
    refine op_cat pins s σ H _ _ v u Q I rx ry ⟨l, m, vs, ws, rfl, rfl, e1, e2, by rw [← rs1.length, ← rs2.length]; exact z, fun p hp => ?_⟩
    obtain ⟨s2, l2⟩ := sr.laid (o := .lst (vs ++ ws)) hp
    exact q _ _ _ l2 s2 _ (.lst upd_same (by rw [List.length_append]; exact z) (l2.rps (rs1.append rs2)))
  unfold addV at q
  split at q
  · cases r1; cases r2
    exact op_add pins s σ H _ _ v u Q I rx ry ⟨_, _, rfl, rfl, q.here sr _ (.int _)⟩
  · split at q
    · cases r1; cases r2
      exact op_add_str pins s σ H _ _ v u Q I rx ry ⟨_, _, rfl, rfl, by assumption, q.here sr _ (.str _)⟩
    · exact q.elim
  · rename_i a b
    split at q
    · rename_i z
      cases r1 with
      | tup e1 z1 rs1 =>
        cases r2 with
        | tup e2 z2 rs2 =>
          refine op_catA pins s σ H _ _ v u Q I rx ry ⟨_, _, _, _, rfl, rfl, sr.sqT e1, sr.sqT e2, by rw [← rs1.length, ← rs2.length]; exact z, fun e => ?_, fun _ e => ?_, fun _ e p hp => ?_⟩
          · subst e
            have ha : a = [] := List.length_eq_zero_iff.mp (by simpa using rs1.length)
            subst ha
            exact q.here sr _ (.tup e2 z2 rs2)
          · subst e
            have hb : b = [] := List.length_eq_zero_iff.mp (by simpa using rs2.length)
            subst hb
            rw [List.append_nil] at q
            exact q.here sr _ (.tup e1 z1 rs1)
          · obtain ⟨s2, l2⟩ := sr.laid (o := .tup _) hp
            exact q _ _ _ l2 s2 _ (.tup (.inl rd_new) (by rw [List.length_append]; exact z) (l2.rps (rs1.append rs2)))
    · exact q.elim
  · rename_i a b _ _ _
    split at q
    · rename_i a' b' h1 h2
      split at q
      · exact lists _ _ h1 h2 (by assumption) q
      · exact q.elim
    · exact q.elim
theorem ud_neg : UnR X (unaryOp .USub) (rU X.K X.mg E negV) := by
  intro pins s σ H x v Q I rx q
  obtain ⟨F, ci, S, dx, sr, r1, q⟩ := q
  unfold negV at q
  split at q
  · cases r1
    exact un_neg pins s σ H _ v Q I rx ⟨_, rfl, q.here sr _ (.int _)⟩
  · exact q.elim
end

/-! ### comparisons -/
def cmpF (g : Int → Int → Bool) : PV → PV → Sto → Res PV := fun x y S => match x, y with
  | .int i, .int j => .ok (.bl (g i j)) S
  | _, _ => .stuck
def ltV : PV → PV → Sto → Res PV := cmpF fun i j => decide (i < j)
def leV : PV → PV → Sto → Res PV := cmpF fun i j => decide (i ≤ j)
def gtV : PV → PV → Sto → Res PV := cmpF fun i j => decide (j < i)
def geV : PV → PV → Sto → Res PV := cmpF fun i j => decide (j ≤ i)
def isNonB : PV → Bool
  | .non => true
  | _ => false
def isV : PV → PV → Sto → Res PV := fun x y S => match y with
  | .non => .ok (.bl (isNonB x)) S
  | _ => .stuck
def isNotV : PV → PV → Sto → Res PV := fun x y S => match y with
  | .non => .ok (.bl (!isNonB x)) S
  | _ => .stuck
/-- == of two flat values -/
def feq : PV → PV → Bool
  | .non, .non => true
  | .bl a, .bl b => a == b
  | .bl a, .int b => (if a then 1 else 0) == b
  | .int a, .bl b => a == (if b then 1 else 0)
  | .int a, .int b => a == b
  | .str a, .str b => a == b
  | _, _ => false
def flat : PV → Bool
  | .non => true
  | .bl _ => true
  | .int _ => true
  | .str _ => true
  | _ => false
mutual
/-- == -/
def peq : PV → PV → Bool
  | .tup xs, .tup ys => peqs xs ys
  | .lst xs, .lst ys => peqs xs ys
  | .lst xs, .ro ys => peqs xs ys
  | .ro xs, .lst ys => peqs xs ys
  | .ro xs, .ro ys => peqs xs ys
  | x, y => feq x y
def peqs : List PV → List PV → Bool
  | [], [] => true
  | x :: xs, y :: ys => peq x y && peqs xs ys
  | _, _ => false
end
mutual
/-- may be compared: depth, signs, nothing mutable within -/
def chk : Nat → PV → Bool
  | _, .non => true
  | _, .bl _ => true
  | _, .int _ => true
  | _, .str x => x.cps.all (· < 0x110000)
  | n + 1, .tup xs => chks n xs
  | n + 1, .lst xs => chks n xs
  | n + 1, .ro xs => chks n xs
  | _, _ => false
def chks : Nat → List PV → Bool
  | _, [] => true
  | n, x :: xs => chk n x && chks n xs
end
mutual
def toD : PV → PyData
  | .non => .none
  | .bl b => .bool b
  | .int i => .int i
  | .str x => .str x
  | .tup xs => .tuple (toDs xs)
  | .lst xs => .list (toDs xs)
  | .ro xs => .list (toDs xs)
  | _ => .none
def toDs : List PV → List PyData
  | [] => []
  | x :: xs => toD x :: toDs xs
end
section
variable {K : PySem.W.Frag} {F : Hp} {ci : List Addr} {S : Sto} {H : Hp}
mutual
theorem dp_of (s : SR K F ci S H) : ∀ (n : Nat) (d : PV) (v : V), chk n d = true → Rp K F ci d v → Dp K H v (toD d)
  | n, .non, _, _, r => by cases r; simp only [toD]; exact .non
  | n, .bl b, _, _, r => by cases r; simp only [toD]; exact .bl b
  | n, .int i, _, _, r => by cases r; simp only [toD]; exact .int i
  | n, .str x, _, _, r => by cases r; simp only [toD]; exact .str x
  | n, .ty x, _, h, _ => by simp [chk] at h
  | n, .cell x, _, h, _ => by simp [chk] at h
  | 0, .tup xs, _, h, r => by simp [chk] at h
  | 0, .lst xs, _, h, r => by simp [chk] at h
  | 0, .ro xs, _, h, r => by simp [chk] at h
  | n + 1, .tup xs, _, h, r => by
    simp only [chk] at h
    cases r with
    | tup e z rs => simp only [toD]; exact .tup (s.sqT e) (dps_of s n xs _ h rs)
  | n + 1, .lst xs, _, h, r => by
    simp only [chk] at h
    cases r with
    | lst e z rs => simp only [toD]; exact .lst (.inl (.inl (s.le _ _ e))) (dps_of s n xs _ h rs)
  | n + 1, .ro xs, _, h, r => by
    simp only [chk] at h
    cases r with
    | ro e z rs => simp only [toD]; exact .lst (Ext.sqL s.le e) (dps_of s n xs _ h rs)
theorem dps_of (s : SR K F ci S H) : ∀ (n : Nat) (ds : List PV) (vs : List V), chks n ds = true → Rps K F ci ds vs → DpAll K H vs (toDs ds)
  | _, [], _, _, r => by cases r; simp only [toDs]; exact .nil
  | n, d :: ds, _, h, r => by
    simp only [chks, Bool.and_eq_true] at h
    cases r with
    | cons r1 r2 => simp only [toDs]; exact .cons (dp_of s n d _ h.1 r1) (dps_of s n ds _ h.2 r2)
end
end
mutual
theorem chk_lay : ∀ (n : Nat) (d : PV), chk n d = true → (toD d).canLay0 = true ∧ (toD d).depth ≤ n
  | n, .non, _ => by simp [toD, PyData.canLay0, PyData.depth]
  | n, .bl b, _ => by simp [toD, PyData.canLay0, PyData.depth]
  | n, .int i, _ => by simp [toD, PyData.canLay0, PyData.depth]
  | n, .str x, h => by
    simp only [toD, PyData.canLay0, PyData.depth]
    simp only [chk] at h
    exact ⟨h, Nat.zero_le _⟩
  | n, .ty x, h => by simp [chk] at h
  | n, .cell x, h => by simp [chk] at h
  | 0, .tup xs, h => by simp [chk] at h
  | 0, .lst xs, h => by simp [chk] at h
  | 0, .ro xs, h => by simp [chk] at h
  | n + 1, .tup xs, h => by
    simp only [chk] at h
    obtain ⟨h1, h2⟩ := chks_lay n xs h
    simp only [toD, PyData.canLay0, PyData.depth]
    exact ⟨h1, by omega⟩
  | n + 1, .lst xs, h => by
    simp only [chk] at h
    obtain ⟨h1, h2⟩ := chks_lay n xs h
    simp only [toD, PyData.canLay0, PyData.depth]
    exact ⟨h1, by omega⟩
  | n + 1, .ro xs, h => by
    simp only [chk] at h
    obtain ⟨h1, h2⟩ := chks_lay n xs h
    simp only [toD, PyData.canLay0, PyData.depth]
    exact ⟨h1, by omega⟩
theorem chks_lay : ∀ (n : Nat) (ds : List PV), chks n ds = true → PyData.canLayAll0 (toDs ds) = true ∧ PyData.depthAll (toDs ds) ≤ n
  | n, [], _ => by simp [toDs, PyData.canLayAll0, PyData.depthAll]
  | n, d :: ds, h => by
    simp only [chks, Bool.and_eq_true] at h
    obtain ⟨h1, h2⟩ := chk_lay n d h.1
    obtain ⟨h3, h4⟩ := chks_lay n ds h.2
    simp only [toDs, PyData.canLayAll0, PyData.depthAll, h1, h3]
    exact ⟨rfl, Nat.max_le.mpr ⟨h2, h4⟩⟩
end
theorem shaped_of {d : PV} (h : chk 60 d = true) : SeqAt.shaped (toD d) = true := by
  obtain ⟨h1, h2⟩ := chk_lay 60 d h
  unfold SeqAt.shaped
  rw [h1, decide_eq_true (Nat.le_trans h2 (by decide))]
  rfl
mutual
theorem eqv_peq : ∀ (n : Nat) (x y : PV), chk n x = true → chk n y = true → PyData.eqv (toD x) (toD y) = peq x y
  | n, .tup xs, y, h, h' => by
    cases n with
    | zero => simp [chk] at h
    | succ n => cases y <;> simp only [chk] at h h' <;> first | (simp only [toD, PyData.eqv, peq]; exact eqvs_peqs n _ _ h h') | (simp [toD, PyData.eqv, peq, feq]; done) | cases h'
  | n, .lst xs, y, h, h' => by
    cases n with
    | zero => simp [chk] at h
    | succ n => cases y <;> simp only [chk] at h h' <;> first | (simp only [toD, PyData.eqv, peq]; exact eqvs_peqs n _ _ h h') | (simp [toD, PyData.eqv, peq, feq]; done) | cases h'
  | n, .ro xs, y, h, h' => by
    cases n with
    | zero => simp [chk] at h
    | succ n => cases y <;> simp only [chk] at h h' <;> first | (simp only [toD, PyData.eqv, peq]; exact eqvs_peqs n _ _ h h') | (simp [toD, PyData.eqv, peq, feq]; done) | cases h'
  | n, .non, y, h, h' => by cases y <;> simp_all [toD, PyData.eqv, peq, feq, chk]
  | n, .bl b, y, h, h' => by cases y <;> simp_all [toD, PyData.eqv, peq, feq, chk]
  | n, .int i, y, h, h' => by cases y <;> simp_all [toD, PyData.eqv, peq, feq, chk]
  | n, .str x, y, h, h' => by cases y <;> simp_all [toD, PyData.eqv, peq, feq, chk]
  | n, .ty x, y, h, h' => by simp [chk] at h
  | n, .cell x, y, h, h' => by simp [chk] at h
theorem eqvs_peqs : ∀ (n : Nat) (xs ys : List PV), chks n xs = true → chks n ys = true → PyData.eqvAll (toDs xs) (toDs ys) = peqs xs ys
  | n, [], [], _, _ => by simp [toDs, PyData.eqvAll, peqs]
  | n, [], y :: ys, _, _ => by simp [toDs, PyData.eqvAll, peqs]
  | n, x :: xs, [], _, _ => by simp [toDs, PyData.eqvAll, peqs]
  | n, x :: xs, y :: ys, h, h' => by
    simp only [chks, Bool.and_eq_true] at h h'
    simp only [toDs, PyData.eqvAll, peqs]
    rw [eqv_peq n x y h.1 h'.1, eqvs_peqs n xs ys h.2 h'.2]
end
/-- a mutable list as it stands -/
def topV (S : Sto) : PV → PV
  | .cell n => match S[n]? with
    | some (.lst xs) => .lst xs
    | _ => .cell n
  | d => d
def eqV : PV → PV → Sto → Res PV := fun x y S => if chk 60 (topV S x) = true ∧ chk 60 (topV S y) = true then .ok (.bl (peq (topV S x) (topV S y))) S else .stuck
def neV : PV → PV → Sto → Res PV := fun x y S => if chk 60 (topV S x) = true ∧ chk 60 (topV S y) = true then .ok (.bl (!peq (topV S x) (topV S y))) S else .stuck
theorem dp_top {K : PySem.W.Frag} {F : Hp} {ci : List Addr} {S : Sto} {H : Hp} (s : SR K F ci S H) {d : PV} {v : V} (h : chk 60 (topV S d) = true) (r : Rp K F ci d v) : Dp K H v (toD (topV S d)) := by
  cases d with
  | cell n =>
    cases r with
    | @cell a _ e =>
      have e0 : topV S (.cell n) = (match S[n]? with | some (.lst xs) => .lst xs | _ => .cell n) := rfl
      rw [e0] at h ⊢
      split at h
      · rename_i xs q
        obtain ⟨b, vs, e1, _, e3, z, rs⟩ := s.cel n _ q
        rw [e] at e1; cases e1
        simp only [chk] at h
        simp only [toD]
        exact .lst (.inl (.inl e3)) (dps_of s 59 xs _ h rs)
      · simp [chk] at h
  | _ => exact dp_of s 60 _ _ h r
section
variable {X : Cx} {E : XK}
theorem od_cmp {f : Value → Value → Sem Value} {g : Int → Int → Bool} (h : OpR X f (rI0 fun i j => .bl (g i j))) : OpR X f (rD X.K X.mg E (cmpF g)) := by
  intro pins s σ H x y v u Q I rx ry q
  obtain ⟨F, ci, S, dx, dy, sr, r1, r2, q⟩ := q
  unfold cmpF at q
  split at q
  · cases r1; cases r2
    exact h pins s σ H _ _ v u Q I rx ry ⟨_, _, rfl, rfl, q.here sr _ (.bl _)⟩
  · exact q.elim
theorem od_lt : OpR X (compareOp .Lt) (rD X.K X.mg E ltV) := od_cmp op_lt
theorem od_le : OpR X (compareOp .LtE) (rD X.K X.mg E leV) := od_cmp op_le
theorem od_gt : OpR X (compareOp .Gt) (rD X.K X.mg E gtV) := od_cmp op_gt
theorem od_ge : OpR X (compareOp .GtE) (rD X.K X.mg E geV) := od_cmp op_ge
theorem od_eq (hu : X.A.units + 64 < cLine) : OpR X (compareOp .Eq) (rD X.K X.mg E eqV) := by
  intro pins s σ H x y v u Q I rx ry q
  obtain ⟨F, ci, S, dx, dy, sr, r1, r2, q⟩ := q
  unfold eqV at q
  split at q
  · rename_i h
    refine op_eqD hu pins s σ H x y v u Q I rx ry ⟨_, _, dp_top sr h.1 r1, dp_top sr h.2 r2, shaped_of h.1, shaped_of h.2, ?_⟩
    rw [eqv_peq 60 _ _ h.1 h.2]
    exact q.here sr _ (.bl _)
  · exact q.elim
theorem od_ne (hu : X.A.units + 64 < cLine) : OpR X (compareOp .NotEq) (rD X.K X.mg E neV) := by
  intro pins s σ H x y v u Q I rx ry q
  obtain ⟨F, ci, S, dx, dy, sr, r1, r2, q⟩ := q
  unfold neV at q
  split at q
  · rename_i h
    refine op_neD hu pins s σ H x y v u Q I rx ry ⟨_, _, dp_top sr h.1 r1, dp_top sr h.2 r2, shaped_of h.1, shaped_of h.2, ?_⟩
    rw [eqv_peq 60 _ _ h.1 h.2]
    exact q.here sr _ (.bl _)
  · exact q.elim
end
/-! in, not in: flat things in a list or a tuple of flat things -/
def inB (x : PV) (xs : List PV) : Bool := xs.any fun y => feq y x
def inV : PV → PV → Sto → Res PV := fun x y S => match seqOf S y with
  | some ys => if flat x = true ∧ ys.all flat = true then .ok (.bl (inB x ys)) S else .stuck
  | none => .stuck
def notInV : PV → PV → Sto → Res PV := fun x y S => match seqOf S y with
  | some ys => if flat x = true ∧ ys.all flat = true then .ok (.bl (!inB x ys)) S else .stuck
  | none => .stuck
section
variable {K : PySem.W.Frag} {F : Hp} {ci : List Addr}
theorem flat_v {d : PV} {v : V} (r : Rp K F ci d v) (h : flat d = true) : flatV v = true := by cases r <;> first | rfl | cases h
theorem flats_v : ∀ {ds : List PV} {vs : List V}, Rps K F ci ds vs → ds.all flat = true → vs.all flatV = true
  | _, _, .nil, _ => rfl
  | _, _, .cons r rs, h => by
    simp only [List.all_cons, Bool.and_eq_true] at h ⊢
    exact ⟨flat_v r h.1, flats_v rs h.2⟩
theorem feq_v {d e : PV} {v u : V} (r : Rp K F ci d v) (q : Rp K F ci e u) (h : flat d = true) (h' : flat e = true) : L2.eqV v u = feq d e := by
  cases r <;> first | (cases h; done) | (cases q <;> first | rfl | (cases h'; done))
theorem inB_v {d : PV} {v : V} (r : Rp K F ci d v) (h : flat d = true) : ∀ {ds : List PV} {vs : List V}, Rps K F ci ds vs → ds.all flat = true → L2.inV v vs = inB d ds
  | _, _, .nil, _ => rfl
  | _, _, .cons q qs, h' => by
    simp only [List.all_cons, Bool.and_eq_true] at h'
    have ih := inB_v r h qs h'.2
    unfold L2.inV inB at ih ⊢
    rw [List.any_cons, List.any_cons, ih, feq_v q r h'.1 h]
end
section
variable {X : Cx} {E : XK}
theorem od_in : OpR X (compareOp .In) (rD X.K X.mg E inV) := by
  intro pins s σ H x y v u Q I rx ry q
  obtain ⟨F, ci, S, dx, dy, sr, r1, r2, q⟩ := q
  unfold inV at q
  split at q
  · rename_i ys hy
    split at q
    · rename_i h
      obtain ⟨a, vs, rfl, hs, rs, _⟩ := seq_sq sr r2 hy
      refine op_in_seq pins s σ H _ _ v u Q I rx ry ⟨a, vs, rfl, hs, flat_v r1 h.1, flats_v rs h.2, ?_⟩
      rw [if_neg (by decide), inB_v r1 h.1 rs h.2]
      exact q.here sr _ (.bl _)
    · exact q.elim
  · exact q.elim
theorem od_notIn : OpR X (compareOp .NotIn) (rD X.K X.mg E notInV) := by
  intro pins s σ H x y v u Q I rx ry q
  obtain ⟨F, ci, S, dx, dy, sr, r1, r2, q⟩ := q
  unfold notInV at q
  split at q
  · rename_i ys hy
    split at q
    · rename_i h
      obtain ⟨a, vs, rfl, hs, rs, _⟩ := seq_sq sr r2 hy
      refine op_notIn_seq pins s σ H _ _ v u Q I rx ry ⟨a, vs, rfl, hs, flat_v r1 h.1, flats_v rs h.2, ?_⟩
      rw [if_pos rfl, inB_v r1 h.1 rs h.2]
      exact q.here sr _ (.bl _)
    · exact q.elim
  · exact q.elim
end
end LH

/-! LE: what is walked; for; list comprehensions. -/
namespace LH
open PySem PySem.Spec PyProof.Rows L2

/-- what is walked: a mutable list's place (it is to stand while it is walked), the items -/
abbrev IterD := PEnv → Sto → Res (Option Nat × List PV)
def wok (o : Option Nat) (ds : List PV) (S : Sto) : Prop := match o with
  | none => True
  | some n => S[n]? = some (.lst ds)
open Classical in
noncomputable def guardW {α : Type} (o : Option Nat) (ds : List PV) (S : Sto) (r : Res α) : Res α := match o with
  | none => r
  | some n => if S[n]? = some (.lst ds) then r else .stuck
theorem guardW_none {α : Type} {ds : List PV} {S : Sto} {r : Res α} : guardW none ds S r = r := rfl
theorem guardW_some {α : Type} {n : Nat} {ds : List PV} {S : Sto} {r : Res α} (h : S[n]? = some (.lst ds)) : guardW (some n) ds S r = r := by unfold guardW; simp [h]
theorem Out.guard {α : Type} {K : PySem.W.Frag} {Z : Exc → Hp → List Addr → Sto → Hp → Prop} {F : Hp} {ci : List Addr} {H : Hp} {o : Option Nat} {ds : List PV} {S : Sto} {r : Res α} {P : α → Hp → List Addr → Sto → Hp → Prop}
    (h : Out K Z F ci H (guardW o ds S r) P) : wok o ds S ∧ Out K Z F ci H r P := by
  cases o with
  | none => exact ⟨True.intro, h⟩
  | some n =>
    by_cases e : S[n]? = some (.lst ds)
    · rw [guardW_some e] at h; exact ⟨e, h⟩
    · unfold guardW at h
      simp only [e, if_false] at h
      exact h.elim
/-- J walks ds -/
def Wk (K : PySem.W.Frag) (F : Hp) (ci : List Addr) (o : Option Nat) (ds : List PV) (J : It) : Prop := ∀ (i : Nat) (F1 : Hp) (c1 : List Addr) (S1 : Sto) (H1 : Hp), Ext F F1 → ci <+: c1 → SR K F1 c1 S1 H1 → wok o ds S1 →
  (i < ds.length → J.go i H1 ∧ ∀ x H2, J.yld i H1 x H2 → ∃ F2, Later F1 c1 H1 F2 c1 H2 ∧ SR K F2 c1 S1 H2 ∧ ∃ d, ds[i]? = some d ∧ Rp K F2 c1 d x) ∧ (i = ds.length → J.stop i H1)
def tI (K : PySem.W.Frag) (mg : Str → Option Value) (W : WX) (f : IterD) : TI := fun σ H R => ∃ env F ci S, SR K F ci S H ∧ ER K F ci env σ ∧ Out K (Zf K mg (WE W σ)) F ci H (f env S) fun p F' ci' S' H' => ∀ J, Wk K F' ci' p.1 p.2 J → p.2.length ≤ sizeLine → R J H'

section
variable {K : PySem.W.Frag} {F : Hp} {ci : List Addr}
/-- a list that stands frozen, or a mutable one while it stands -/
structure LAt (K : PySem.W.Frag) (F : Hp) (ci : List Addr) (o : Option Nat) (ds : List PV) (a : Addr) : Prop where
  at_ : ∀ (F1 : Hp) (c1 : List Addr) (S1 : Sto) (H1 : Hp), Ext F F1 → ci <+: c1 → SR K F1 c1 S1 H1 → wok o ds S1 → ∃ vs, SqL K H1 a vs ∧ Rps K F1 c1 ds vs
structure TAt (K : PySem.W.Frag) (F : Hp) (ci : List Addr) (ds : List PV) (a : Addr) : Prop where
  at_ : ∀ (F1 : Hp) (c1 : List Addr) (S1 : Sto) (H1 : Hp), Ext F F1 → ci <+: c1 → SR K F1 c1 S1 H1 → ∃ vs, SqT K H1 a vs ∧ Rps K F1 c1 ds vs
theorem wk_list {o : Option Nat} {ds : List PV} {a : Addr} (l : LAt K F ci o ds a) : Wk K F ci o ds (Itl K a) := fun i F1 c1 S1 H1 e p s w => by
  obtain ⟨vs, h, rs⟩ := l.at_ F1 c1 S1 H1 e p s w
  refine ⟨fun hi => ?_, fun hi0 => have hi := Nat.le_of_eq hi0.symm; ⟨vs, h, by rw [← rs.length]; exact hi⟩⟩
  obtain ⟨v, hv, rv⟩ := rs.get (List.getElem?_eq_getElem hi)
  refine ⟨⟨vs, v, h, hv⟩, fun x H2 ⟨e2, hx⟩ => ?_⟩
  subst e2
  have hxv := hx vs h
  rw [hv] at hxv; cases hxv
  exact ⟨F1, .refl, s, _, List.getElem?_eq_getElem hi, rv⟩
theorem wk_tup {ds : List PV} {a : Addr} (l : TAt K F ci ds a) : Wk K F ci none ds (Itt K a) := fun i F1 c1 S1 H1 e p s w => by
  obtain ⟨vs, h, rs⟩ := l.at_ F1 c1 S1 H1 e p s
  refine ⟨fun hi => ?_, fun hi0 => have hi := Nat.le_of_eq hi0.symm; ⟨vs, h, by rw [← rs.length]; exact hi⟩⟩
  obtain ⟨v, hv, rv⟩ := rs.get (List.getElem?_eq_getElem hi)
  refine ⟨⟨vs, v, h, hv⟩, fun x H2 ⟨e2, hx⟩ => ?_⟩
  subst e2
  have hxv := hx vs h
  rw [hv] at hxv; cases hxv
  exact ⟨F1, .refl, s, _, List.getElem?_eq_getElem hi, rv⟩
def zipP : List PV → List PV → List PV
  | x :: xs, y :: ys => .tup [x, y] :: zipP xs ys
  | _, _ => []
theorem zipP_len : ∀ xs ys : List PV, (zipP xs ys).length = min xs.length ys.length
  | [], ys => by simp [zipP]
  | _ :: _, [] => by simp [zipP]
  | x :: xs, y :: ys => by simp only [zipP, List.length_cons, zipP_len xs ys]; omega
theorem zipP_get : ∀ (xs ys : List PV) (i : Nat) (x y : PV), xs[i]? = some x → ys[i]? = some y → (zipP xs ys)[i]? = some (.tup [x, y])
  | [], _, _, _, _, h, _ => by simp at h
  | _ :: _, [], _, _, _, _, h => by simp at h
  | a :: xs, b :: ys, 0, x, y, h, h' => by simp at h h'; subst h; subst h'; simp [zipP]
  | a :: xs, b :: ys, i + 1, x, y, h, h' => by simp only [zipP, List.getElem?_cons_succ] at h h' ⊢; exact zipP_get xs ys i x y h h'
theorem pair_new {S1 : Sto} {F1 : Hp} {c1 : List Addr} {H1 : Hp} {T : Addr} {x y : V} {dx dy : PV} (s : SR K F1 c1 S1 H1) (n : H1 T = none) (rx : Rp K F1 c1 dx x) (ry : Rp K F1 c1 dy y) :
    ∃ F2, Later F1 c1 H1 F2 c1 (upd H1 T (.tup [x, y])) ∧ SR K F2 c1 S1 (upd H1 T (.tup [x, y])) ∧ Rp K F2 c1 (.tup [dx, dy]) (.ref T) := by
  obtain ⟨s2, l2⟩ := s.laid (o := .tup [x, y]) n
  exact ⟨_, l2, s2, .tup (.inl rd_new) (by show 2 ≤ sizeLine; decide) (l2.rps (.cons rx (.cons ry .nil)))⟩
def enumP : Nat → List PV → List PV
  | _, [] => []
  | n, x :: xs => .tup [.int n, x] :: enumP (n + 1) xs
def rangeP (lo : Int) : Nat → List PV
  | 0 => []
  | n + 1 => .int lo :: rangeP (lo + 1) n
theorem rangeP_len : ∀ (n : Nat) (lo : Int), (rangeP lo n).length = n
  | 0, _ => rfl
  | n + 1, lo => by simp [rangeP, rangeP_len n]
theorem rangeP_get : ∀ (n : Nat) (lo : Int) (i : Nat), i < n → (rangeP lo n)[i]? = some (.int (lo + i))
  | 0, _, _, h => by omega
  | n + 1, lo, 0, _ => by simp [rangeP]
  | n + 1, lo, i + 1, h => by
    simp only [rangeP, List.getElem?_cons_succ]
    rw [rangeP_get n (lo + 1) i (by omega)]
    congr 2
    omega
theorem wk_range {lo : Int} {n : Nat} : Wk K F ci none (rangeP lo n) (Itr lo n) := fun i F1 c1 S1 H1 e p s w => by
  rw [rangeP_len]
  refine ⟨fun hi => ⟨hi, fun x H2 ⟨e2, hx⟩ => ?_⟩, fun hi => Nat.le_of_eq hi.symm⟩
  subst e2 hx
  exact ⟨F1, .refl, s, _, rangeP_get n lo i hi, .int _⟩
end

/-! ### the iterators -/
/-- the items of a list or a tuple -/
def itemsOf (d : PV) (S : Sto) : Res (Option Nat × List PV) := match d with
  | .tup xs => .ok (none, xs) S
  | .lst xs => .ok (none, xs) S
  | .ro xs => .ok (none, xs) S
  | .cell n => match S[n]? with
    | some (.lst xs) => .ok (some n, xs) S
    | _ => .stuck
  | _ => .stuck
def seqI (f : ExprD) : IterD := fun env S => (f env S).bind itemsOf
/-- a list or a tuple that is not a mutable one: is it a tuple, its items -/
def frozen : PV → Option (Bool × List PV)
  | .tup xs => some (true, xs)
  | .lst xs => some (false, xs)
  | .ro xs => some (false, xs)
  | _ => none
def zipI (a b : ExprD) : IterD := fun env S => (a env S).bind fun x S1 => (b env S1).bind fun y S2 => match frozen x, frozen y with
  | some (t, xs), some (u, ys) => if t = u then .ok (none, zipP xs ys) S2 else .stuck
  | _, _ => .stuck
def enumI (a : ExprD) : IterD := fun env S => (a env S).bind fun x S1 => match frozen x with
  | some (false, xs) => .ok (none, enumP 0 xs) S1
  | _ => .stuck
def revI (a : ExprD) : IterD := fun env S => (a env S).bind fun x S1 => match frozen x with
  | some (_, xs) => .ok (none, xs.reverse) S1
  | _ => .stuck
def smallI (i : Int) : Prop := -8000000 ≤ i ∧ i ≤ 8000000
instance (i : Int) : Decidable (smallI i) := by unfold smallI; infer_instance
def range1I (a : ExprD) : IterD := fun env S => (a env S).bind fun x S1 => match x with
  | .int j => if smallI j then .ok (none, rangeP 0 j.toNat) S1 else .stuck
  | _ => .stuck
def range2I (a b : ExprD) : IterD := fun env S => (a env S).bind fun x S1 => (b env S1).bind fun y S2 => match x, y with
  | .int i, .int j => if smallI i ∧ smallI j then .ok (none, rangeP i (j - i).toNat) S2 else .stuck
  | _, _ => .stuck
section
variable {K : PySem.W.Frag} {F : Hp} {ci : List Addr} {S : Sto} {H : Hp}
theorem lat_lst {a : Addr} {ds : List PV} {vs : List V} (e : F a = some (.lst vs)) (rs : Rps K F ci ds vs) : LAt K F ci none ds a := ⟨fun F1 c1 S1 H1 x p s _ => ⟨vs, .inl (.inl (s.le _ _ (x _ _ e))), rs.mono x p⟩⟩
theorem lat_ro {a : Addr} {ds : List PV} {vs : List V} (e : SqL K F a vs) (rs : Rps K F ci ds vs) : LAt K F ci none ds a := ⟨fun F1 c1 S1 H1 x p s _ => ⟨vs, s.sqL (x.sqL e), rs.mono x p⟩⟩
theorem tat_tup {a : Addr} {ds : List PV} {vs : List V} (e : SqT K F a vs) (rs : Rps K F ci ds vs) : TAt K F ci ds a := ⟨fun F1 c1 S1 H1 x p s => ⟨vs, s.sqT (x.sqT e), rs.mono x p⟩⟩
theorem lat_cell {a : Addr} {n : Nat} {ds : List PV} (e : ci[n]? = some a) : LAt K F ci (some n) ds a := ⟨fun F1 c1 S1 H1 x p s w => by
  obtain ⟨b, vs, e1, _, e3, _, rs⟩ := s.cel n ds w
  rw [pre_get p e] at e1; cases e1
  exact ⟨vs, .inl (.inl e3), rs⟩⟩
/-- a list or a tuple at an address, to be walked -/
theorem at_frozen {d : PV} {v : V} {t : Bool} {xs : List PV} (s : SR K F ci S H) (r : Rp K F ci d v) (h : frozen d = some (t, xs)) : xs.length ≤ sizeLine ∧ ∃ a, v = .ref a ∧ ((t = true ∧ TAt K F ci xs a ∧ ∃ vs, SqT K H a vs ∧ Rps K F ci xs vs) ∨ (t = false ∧ LAt K F ci none xs a ∧ ∃ vs, SqL K H a vs ∧ Rps K F ci xs vs)) := by
  cases r with
  | tup e z rs => cases h; exact ⟨z, _, rfl, .inl ⟨rfl, tat_tup e rs, _, s.sqT e, rs⟩⟩
  | lst e z rs => cases h; exact ⟨z, _, rfl, .inr ⟨rfl, lat_lst e rs, _, .inl (.inl (s.le _ _ e)), rs⟩⟩
  | ro e z rs => cases h; exact ⟨z, _, rfl, .inr ⟨rfl, lat_ro e rs, _, s.sqL e, rs⟩⟩
  | _ => cases h
end
section
variable {X : Cx} {W : WX} {tg e e2 : Expr} {p pos : Pos} {f fa fb : ExprD}
theorem pi_seq {te : TE} (he : PE X e te) : PI X tg e (fun σ H R => te σ H fun x H1 => ∃ a, x = .ref a ∧ ((∃ xs, SqL X.K H1 a xs ∧ R (Itl X.K a) H1) ∨ (∃ xs, SqT X.K H1 a xs ∧ R (Itt X.K a) H1))) := by
  refine ⟨fun pins s σ H R I h => ?_⟩
  refine thn (he.run pins s σ H _ I h) fun v s1 ⟨x, H1, I1, r1, q1⟩ => ?_
  obtain ⟨a, e, q⟩ := q1
  subst e
  cases r1
  rcases q with ⟨xs, hq, q⟩ | ⟨xs, hq, q⟩
  · obtain ⟨its, rv, p, hz⟩ := I1.list hq
    refine wpAny_pyIter_list p.isList ?_
    refine ⟨s1.heap.objs.size, [s1.heap.objs.size], _, _, H1, rfl, I1.kept (t' := s1.toks) fun b o e => Heap.get?_push_of_some _ e, turn_list a _, ⟨_, Heap.get?_push_size _ rfl, rfl, rfl⟩, fun b hb => ?_, q⟩
    have e : b = s1.heap.objs.size := by simpa using hb
    subst e
    exact I1.fpOk (Nat.le_refl _) (I1.hok.fresh (Nat.le_refl _))
  · obtain ⟨its, rv, p, hz⟩ := I1.tuple hq
    refine wpAny_pyIter_tuple (show s1.heap.IsTuple a its.toArray from p) ?_
    refine ⟨s1.heap.objs.size, [s1.heap.objs.size], _, _, H1, rfl, I1.kept (t' := s1.toks) fun b o e => Heap.get?_push_of_some _ e, turn_tuple a _, ⟨_, Heap.get?_push_size _ rfl, rfl, rfl⟩, fun b hb => ?_, q⟩
    have e : b = s1.heap.objs.size := by simpa using hb
    subst e
    exact I1.fpOk (Nat.le_refl _) (I1.hok.fresh (Nat.le_refl _))
theorem di_seq (he : PE X e (tE X.K X.mg W f)) : PI X tg e (tI X.K X.mg W (seqI f)) := (pi_seq he).imp fun σ H R h => by
  obtain ⟨env, F, ci, S, sr, er, h⟩ := h
  refine ⟨env, F, ci, S, sr, er, (Out.bind h).imp fun d F1 c1 S1 H1 l1 s1 h1 v r => ?_⟩
  cases r with
  | tup e z rs => exact ⟨_, rfl, .inr ⟨_, s1.sqT e, (Out.here (d := ((none : Option Nat), _)) h1 s1) _ (wk_tup (tat_tup e rs)) z⟩⟩
  | lst e z rs => exact ⟨_, rfl, .inl ⟨_, .inl (.inl (s1.le _ _ e)), (Out.here (d := ((none : Option Nat), _)) h1 s1) _ (wk_list (lat_lst e rs)) z⟩⟩
  | ro e z rs => exact ⟨_, rfl, .inl ⟨_, s1.sqL e, (Out.here (d := ((none : Option Nat), _)) h1 s1) _ (wk_list (lat_ro e rs)) z⟩⟩
  | @cell a n e =>
    have h1' : Out X.K (Zf X.K X.mg (WE W σ)) F1 c1 H1 (match S1[n]? with | some (.lst xs) => .ok (some n, xs) S1 | _ => .stuck) fun p F' ci' S' H' => ∀ J, Wk X.K F' ci' p.1 p.2 J → p.2.length ≤ sizeLine → R J H' := h1
    split at h1'
    · rename_i xs q
      obtain ⟨b, vs, e1, _, e3, z, rs⟩ := s1.cel n xs q
      rw [e] at e1; cases e1
      exact ⟨_, rfl, .inl ⟨_, .inl (.inl e3), (Out.here (d := (some n, xs)) h1' s1) _ (wk_list (lat_cell e)) z.1⟩⟩
    · exact h1'.elim
  | _ => exact h1.elim
theorem args2 {K : PySem.W.Frag} {mg : Str → Option Value} {σ : St} {H : Hp} {env : PEnv} {F : Hp} {ci : List Addr} {S : Sto} {α : Type} {g : PV → PV → Sto → Res α} {P : α → Hp → List Addr → Sto → Hp → Prop} {Q : List V → Hp → Prop} (sr : SR K F ci S H) (er : ER K F ci env σ)
    (h : Out K (Zf K mg (WE W σ)) F ci H ((fa env S).bind fun x S1 => (fb env S1).bind fun y S2 => g x y S2) P)
    (hq : ∀ F2 c2 S2 H2 x y dx dy, Later F ci H F2 c2 H2 → SR K F2 c2 S2 H2 → Rp K F2 c2 dx x → Rp K F2 c2 dy y → Out K (Zf K mg (WE W σ)) F2 c2 H2 (g dx dy S2) P → Q [x, y] H2) :
    tCons (tE K mg W fa) (tCons (tE K mg W fb) tNil) σ H Q := by
  refine ⟨env, F, ci, S, sr, er, (Out.bind h).imp fun dx F1 c1 S1 H1 l1 s1 h1 v1 r1 => ⟨env, F1, c1, S1, s1, er.later l1, (Out.bind h1).imp fun dy F2 c2 S2 H2 l2 s2 h2 v2 r2 => ?_⟩⟩
  exact hq F2 c2 S2 H2 v1 v2 dx dy (l1.trans l2) s2 (l2.rp r1) r2 h2
theorem args1 {K : PySem.W.Frag} {mg : Str → Option Value} {σ : St} {H : Hp} {env : PEnv} {F : Hp} {ci : List Addr} {S : Sto} {α : Type} {g : PV → Sto → Res α} {P : α → Hp → List Addr → Sto → Hp → Prop} {Q : List V → Hp → Prop} (sr : SR K F ci S H) (er : ER K F ci env σ)
    (h : Out K (Zf K mg (WE W σ)) F ci H ((fa env S).bind fun x S1 => g x S1) P)
    (hq : ∀ F2 c2 S2 H2 x dx, Later F ci H F2 c2 H2 → SR K F2 c2 S2 H2 → Rp K F2 c2 dx x → Out K (Zf K mg (WE W σ)) F2 c2 H2 (g dx S2) P → Q [x] H2) :
    tCons (tE K mg W fa) tNil σ H Q := by
  refine ⟨env, F, ci, S, sr, er, (Out.bind h).imp fun dx F1 c1 S1 H1 l1 s1 h1 v1 r1 => ?_⟩
  exact hq F1 c1 S1 H1 v1 dx l1 s1 r1 h1
theorem di_range1 (ha : PE X e (tE X.K X.mg W fa)) (hm : X.mg "range" = none) (hg : Gl X "range" := by rfl) (hs : starEach [e] X.env = [(false, eval e X.env)] := by rfl) (hs' : starEach [e] X.env = (false, eval e X.env) :: starEach [] X.env := by rfl) :
    PI X tg (.Call (.Name "range" p) [e] [] pos) (tI X.K X.mg W (range1I fa)) := (pi_range1 hg hm (pa_cons ha pa_nil hs') hs).imp fun σ H R h => by
  obtain ⟨env, F, ci, S, sr, er, h⟩ := h
  refine args1 (g := fun x S1 => match x with | .int j => if smallI j then .ok (none, rangeP 0 j.toNat) S1 else .stuck | _ => .stuck) sr er h fun F2 c2 S2 H2 x dx l2 s2 rx h2 => ?_
  split at h2
  · rename_i j
    split at h2
    · rename_i hj
      cases rx
      have h1 := hj.1
      have h3 := hj.2
      exact ⟨j, rfl, by omega, by omega, (Out.here (d := ((none : Option Nat), _)) h2 s2) _ wk_range (by rw [rangeP_len, sizeLine_eq]; omega)⟩
    · exact h2.elim
  · exact h2.elim
theorem di_range2 (ha : PE X e (tE X.K X.mg W fa)) (hb : PE X e2 (tE X.K X.mg W fb)) (hm : X.mg "range" = none) (hg : Gl X "range" := by rfl) (hs : starEach [e, e2] X.env = [(false, eval e X.env), (false, eval e2 X.env)] := by rfl) (hs2 : starEach [e2] X.env = [(false, eval e2 X.env)] := by rfl)
    (h1 : starEach [e, e2] X.env = (false, eval e X.env) :: starEach [e2] X.env := by rfl) (h2 : starEach [e2] X.env = (false, eval e2 X.env) :: starEach [] X.env := by rfl) :
    PI X tg (.Call (.Name "range" p) [e, e2] [] pos) (tI X.K X.mg W (range2I fa fb)) := (pi_range2 hg hm (pa_cons ha (pa_cons hb pa_nil h2) h1) hs hs2).imp fun σ H R h => by
  obtain ⟨env, F, ci, S, sr, er, h⟩ := h
  refine args2 (g := fun x y S2 => match x, y with | .int i, .int j => if smallI i ∧ smallI j then .ok (none, rangeP i (j - i).toNat) S2 else .stuck | _, _ => .stuck) sr er h fun F2 c2 S2 H2 x y dx dy l2 s2 rx ry h2 => ?_
  split at h2
  · rename_i i j
    split at h2
    · rename_i hj
      cases rx; cases ry
      have a1 := hj.1.1
      have a2 := hj.1.2
      have a3 := hj.2.1
      have a4 := hj.2.2
      exact ⟨i, j, rfl, ⟨by omega, by omega, by omega, by omega⟩, (Out.here (d := ((none : Option Nat), _)) h2 s2) _ wk_range (by rw [rangeP_len, sizeLine_eq]; omega)⟩
    · exact h2.elim
  · exact h2.elim
end

/-! ### for -/
noncomputable def forL (o : Option Nat) (ds : List PV) (t : Tg) (b : StmtD) : List PV → StmtD
  | [], env, S => guardW o ds S (.ok (.nx env) S)
  | d :: r, env, S => guardW o ds S (match t.bind S d env with
    | none => .stuck
    | some env1 => match b env1 S with
      | .ok (.nx env2) S2 => forL o ds t b r env2 S2
      | .ok (.ct env2) S2 => forL o ds t b r env2 S2
      | .ok (.bk env2) S2 => .ok (.nx env2) S2
      | q => q)
def runI (r : Res (Option Nat × List PV)) (env : PEnv) (g : Option Nat × List PV → Sto → Res Flow) : Res Flow := match r with
  | .ok d S => g d S
  | .exc x S => .ok (.ex x env) S
  | .stuck => .stuck
noncomputable def forS (it : IterD) (t : Tg) (b : StmtD) : StmtD := fun env S => runI (it env S) env fun p S1 => forL p.1 p.2 t b p.2 env S1
section
variable {X : Cx} {W : WX} {tg iter : Expr} {body : List Stmt} {pos : Pos} {it : IterD} {t : Tg} {b : StmtD}
theorem runI_out {K : PySem.W.Frag} {mg : Str → Option Value} {F : Hp} {ci : List Addr} {H : Hp} {D : Ends} {r : Res (Option Nat × List PV)} {env : PEnv} {g : Option Nat × List PV → Sto → Res Flow} {σ : St} (er : ER K F ci env σ)
    (h : Out K (fun _ _ _ _ _ => False) F ci H (runI r env g) (SW K mg W D)) : Out K (Zf K mg (WE W σ)) F ci H r fun d F1 c1 S1 H1 => Out K (fun _ _ _ _ _ => False) F1 c1 H1 (g d S1) (SW K mg W D) := by
  cases r with
  | ok d S' => exact fun F1 c1 H1 l1 s1 => Out.later h l1
  | exc x S' => exact fun F1 c1 H1 l1 s1 cls d xr => h F1 c1 H1 l1 s1 σ (er.later l1) cls d xr
  | stuck => exact h
theorem ds_for (hp : PassesOwn (model X.prog X.w) X.A X.env X.xe) (hi : PI X tg iter (tI X.K X.mg W it)) (hg : PG X tg (gD X.K t)) (hb : PSs X body (tSX X W b)) (hc : X.calm = true := by rfl)
    (hs : ∀ x, foldedSetIterable iter X.env x = pure x := by intro _; rfl) : PS X (.For tg iter body [] pos) (tSX X W (forS it t b)) := (ps_for hp hc hi hg hb hs).imp fun D σ H h => by
  obtain ⟨env, F, ci, S, sr, er, h⟩ := h
  refine ⟨env, F, ci, S, sr, er, (runI_out er h).imp fun p F1 c1 S1 H1 l1 s1 h1 J wk _ => ?_⟩
  obtain ⟨o, ds⟩ := p
  refine ⟨fun i m σ H => m = ds.length - i ∧ i ≤ ds.length ∧ ∃ env F2 c2 S2, Ext F1 F2 ∧ c1 <+: c2 ∧ SR X.K F2 c2 S2 H ∧ ER X.K F2 c2 env σ ∧ Out X.K (fun _ _ _ _ _ => False) F2 c2 H (forL o ds t b (ds.drop i) env S2) (SW X.K X.mg W D),
    ⟨ds.length, by simp, Nat.zero_le _, env, F1, c1, S1, .refl _, List.prefix_refl _, s1, er.later l1, h1⟩, ?_⟩
  rintro i m σ H ⟨rfl, hi, env, F2, c2, S2, x2, p2, s2, er2, h2⟩
  by_cases hlt : i < ds.length
  · rw [List.drop_eq_getElem_cons hlt] at h2
    unfold forL at h2
    obtain ⟨wo, h2⟩ := h2.guard
    obtain ⟨q1, q2⟩ := (wk i F2 c2 S2 H x2 p2 s2 wo).1 hlt
    refine .inr ⟨q1, fun σ' H' => i + 1 ≤ ds.length ∧ ∃ env F2 c2 S2, Ext F1 F2 ∧ c1 <+: c2 ∧ SR X.K F2 c2 S2 H' ∧ ER X.K F2 c2 env σ' ∧ Out X.K (fun _ _ _ _ _ => False) F2 c2 H' (forL o ds t b (ds.drop (i + 1)) env S2) (SW X.K X.mg W D),
      fun σ' H' z => ⟨ds.length - (i + 1), by omega, rfl, z.1, z.2⟩, fun x H' y => ?_⟩
    obtain ⟨F3, l3, s3, d, hd, rd⟩ := q2 x H' y
    have e : d = ds[i] := by rw [List.getElem?_eq_getElem hlt] at hd; exact (Option.some.inj hd).symm
    subst e
    split at h2
    · exact h2.elim
    · rename_i env1 eb
      refine ⟨env, F3, c2, S2, _, s3, er2.later l3, rd, env1, eb, fun σ4 er4 _ => ?_⟩
      refine ⟨env1, F3, c2, S2, s3, er4, ?_⟩
      have h3 := Out.later h2 l3
      cases hq : b env1 S2 with
      | ok fl S4 =>
        rw [hq] at h3
        cases fl with
        | nx e' => exact fun F5 c5 H5 l5 s5 σ5 er5 => ⟨hlt, e', F5, c5, S4, (x2.trans l3.ext).trans l5.ext, p2.trans (l3.pre.trans l5.pre), s5, er5, Out.later h3 l5⟩
        | ct e' => exact fun F5 c5 H5 l5 s5 σ5 er5 => ⟨hlt, e', F5, c5, S4, (x2.trans l3.ext).trans l5.ext, p2.trans (l3.pre.trans l5.pre), s5, er5, Out.later h3 l5⟩
        | bk e' => exact h3
        | rt d => exact h3
        | ex y e' => exact h3
      | exc y S4 => rw [hq] at h3; exact h3
      | stuck => rw [hq] at h3; exact h3
  · have e : i = ds.length := by omega
    subst e
    rw [List.drop_length] at h2
    unfold forL at h2
    obtain ⟨wo, h2⟩ := h2.guard
    exact .inl ⟨(wk ds.length F2 c2 S2 H x2 p2 s2 wo).2 rfl, h2.here s2 σ er2⟩
end

/-! ### list comprehensions -/
def nox {α : Type} : Res α → Res α
  | .ok d S => .ok d S
  | _ => .stuck
def wipeE (env : PEnv) : List Nat → PEnv
  | [] => env
  | v :: vs => (wipeE env vs).set v none
noncomputable def compL (o : Option Nat) (ds : List PV) (t : Tg) (tst : TestD) (el : ExprD) (env0 : PEnv) : List PV → List PV → Sto → Res PV
  | [], acc, S => guardW o ds S (.ok (.lst acc) S)
  | d :: r, acc, S => guardW o ds S (match t.bind S d env0 with
    | none => .stuck
    | some env1 => (nox (tst env1 S)).bind fun b S1 => if b = true then (nox (el env1 S1)).bind fun y S2 => compL o ds t tst el env0 r (acc ++ [y]) S2 else compL o ds t tst el env0 r acc S1)
noncomputable def compE (it : IterD) (t : Tg) (ws : List Nat) (tst : TestD) (el : ExprD) : ExprD := fun env S => (it env S).bind fun p S1 => compL p.1 p.2 t tst el (wipeE env ws) p.2 [] S1
def yesT : TestD := fun _ S => .ok true S
theorem er_wipe {K : PySem.W.Frag} {F : Hp} {ci : List Addr} {env : PEnv} {σ : St} (er : ER K F ci env σ) : ∀ ws : List Nat, ER K F ci (wipeE env ws) (wipe σ ws)
  | [] => er
  | v :: vs => by unfold wipe wipeE; exact (er_wipe er vs).unset v
theorem Out.nox {α : Type} {K : PySem.W.Frag} {Z Z' : Exc → Hp → List Addr → Sto → Hp → Prop} {F : Hp} {ci : List Addr} {H : Hp} {r : Res α} {P : α → Hp → List Addr → Sto → Hp → Prop} (h : Out K Z F ci H (LH.nox r) P) : Out K Z' F ci H r P := by
  cases r with
  | ok d S => exact h
  | exc x S => exact h.elim
  | stuck => exact h
theorem wipe_sub (σ : St) (ws : List Nat) : ∀ us : List Nat, (∀ i ∈ us, i ∈ ws) → wipe (wipe σ us) ws = wipe σ ws
  | [], _ => rfl
  | v :: vs, h => by
    show wipe ((wipe σ vs).set v none) ws = _
    rw [wipe_set_in ws _ v none (h v List.mem_cons_self), wipe_sub σ ws vs fun i hi => h i (List.mem_cons_of_mem _ hi)]
abbrev W0 : WX := fun _ _ _ _ => False
section
variable {X : Cx} {W : WX} {elt tg iter : Expr} {ifs : List Expr} {scope : Scope} {own : List (Str × Nat)} {pos : Pos} {it : IterD} {t : Tg} {tst : TestD} {el : ExprD}
theorem PTs.imp {ifs : List Expr} {t t' : TT} (h : PTs X ifs t) (i : ∀ σ H Q, t' σ H Q → t σ H Q) : PTs X ifs t' := ⟨fun pins s σ H Q I q => h.run pins s σ H Q I (i σ H Q q)⟩
theorem dts_nil : PTs X [] (tT X.K X.mg W0 yesT) := PTs.imp pts_nil fun σ H Q h => by
  obtain ⟨env, F, ci, S, sr, er, h⟩ := h
  exact h.here sr
theorem dts_one {c : Expr} (h : PT X c (tT X.K X.mg W0 tst)) : PTs X [c] (tT X.K X.mg W0 tst) := pts_one h
theorem lc_readG {K : PySem.W.Frag} {mg : Str → Option Value} {ws : List Nat} (hsl : ∀ i ∈ t.slots, i ∈ ws) (σ : St) (H : Hp) (Q : VK) (P : PV → Hp → List Addr → Sto → Hp → Prop)
    (h : ∃ env F ci S, SR K F ci S H ∧ ER K F ci env σ ∧ Out K (Zf K mg (WE W σ)) F ci H (compE it t ws tst el env S) P)
    (fin : ∀ F1 c1 H1 F2 c2 S2 H acc vs D, H1 D = none → Later F1 c1 H1 F2 c2 H → SR K F2 c2 S2 H → F2 D = none → D ∉ c2 → H D = some (.lst vs) → Rps K F2 c2 acc vs → acc.length ≤ sizeLine → Out K (Zf K mg (WE W σ)) F1 c1 H1 (.ok (.lst acc) S2) P → Q (.ref D) H) :
    tLc (tI K mg W it) (gD K t) (tT K mg W0 tst) (tE K mg W0 el) ws σ H Q := by
  obtain ⟨env, F, ci, S, sr, er, h⟩ := h
  refine ⟨env, F, ci, S, sr, er, (Out.bind h).imp fun p F1 c1 S1 H1 l1 s1 h1 J wk hz D hD => ?_⟩
  obtain ⟨o, ds⟩ := p
  have hDF : F1 D = none := s1.free hD
  have hDc : D ∉ c1 := s1.notIn hD
  -- D is no part of what is frozen or mutable
  have er1 : ER K F1 c1 (wipeE env ws) (wipe σ ws) := er_wipe (er.later l1) ws
  have step : ∀ {F2 : Hp} {c2 : List Addr} {S2 : Sto} {H2 : Hp} {o : HO}, SR K F2 c2 S2 H2 → F2 D = none → D ∉ c2 → (∀ b, H2 D ≠ some (.own b)) → SR K F2 c2 S2 (upd H2 D o) := fun {F2 c2 S2 H2 o} s f c hw => by
    refine ⟨fun a u q => ?_, s.len, s.nd, fun a ha => ?_, fun n xs e => ?_, fun n u e => by
      obtain ⟨a, e1, e2, e3⟩ := s.kel n u e
      have : a ≠ D := fun z => c (z ▸ List.mem_of_getElem? e1)
      exact ⟨a, e1, e2, by rw [upd_ne this]; exact e3⟩, fun n two g xs e => by
      obtain ⟨a, e1, hg⟩ := s.gel n two g xs e
      have : a ≠ D := fun z => c (z ▸ List.mem_of_getElem? e1)
      exact ⟨a, e1, hg.upd this hw⟩⟩
    · rw [upd_ne (fun z => by subst z; rw [f] at q; cases q)]; exact s.le a u q
    · have : a ≠ D := fun z => c (z ▸ ha)
      rw [upd_ne this]; exact s.there a ha
    · obtain ⟨a, vs, e1, e2, e3, z, e4⟩ := s.cel n xs e
      have : a ≠ D := fun z => c (z ▸ List.mem_of_getElem? e1)
      exact ⟨a, vs, e1, e2, by rw [upd_ne this]; exact e3, z, e4⟩
  have lstep : ∀ {F2 : Hp} {c2 : List Addr} {H2 : Hp} {u : HO}, Later F1 c1 H1 F2 c2 H2 → Later F1 c1 H1 F2 c2 (upd H2 D u) := fun {F2 c2 H2 u} l => ⟨l.ext, l.pre, fun a q h1 h2 => by rw [upd_ne (ne_of_none h1 hD)]; exact l.keep a q h1 h2, l.new, l.fz⟩
  refine ⟨fun i m H => m = ds.length - i ∧ i ≤ ds.length ∧ ∃ F2 c2 S2 acc vs, Later F1 c1 H1 F2 c2 H ∧ SR K F2 c2 S2 H ∧ F2 D = none ∧ D ∉ c2 ∧ H D = some (.lst vs) ∧ Rps K F2 c2 acc vs ∧ acc.length ≤ i ∧
      Out K (Zf K mg (WE W σ)) F1 c1 H1 (compL o ds t tst el (wipeE env ws) (ds.drop i) acc S2) P,
      ⟨ds.length, by simp, Nat.zero_le _, F1, c1, S1, [], [], lstep .refl, step s1 hDF hDc (fun b q => by rw [hD] at q; cases q), hDF, hDc, upd_same, .nil, Nat.le_refl _, h1⟩, ?_⟩
  rintro i m H ⟨rfl, hi, F2, c2, S2, acc, vs, l2, s2, f2, n2, e2, rs2, hacc, h2⟩
  by_cases hlt : i < ds.length
  · rw [List.drop_eq_getElem_cons hlt] at h2
    unfold compL at h2
    obtain ⟨wo, h2⟩ := h2.guard
    obtain ⟨q1, q2⟩ := (wk i F2 c2 S2 H l2.ext l2.pre s2 wo).1 hlt
    refine .inr ⟨q1, fun H' => i + 1 ≤ ds.length ∧ ∃ F2 c2 S2 acc vs, Later F1 c1 H1 F2 c2 H' ∧ SR K F2 c2 S2 H' ∧ F2 D = none ∧ D ∉ c2 ∧ H' D = some (.lst vs) ∧ Rps K F2 c2 acc vs ∧ acc.length ≤ i + 1 ∧
      Out K (Zf K mg (WE W σ)) F1 c1 H1 (compL o ds t tst el (wipeE env ws) (ds.drop (i + 1)) acc S2) P,
      fun H' z => ⟨ds.length - (i + 1), by omega, rfl, z.1, z.2⟩, fun x H' y => ?_⟩
    obtain ⟨F3, l3, s3, d, hd, rd⟩ := q2 x H' y
    have e : d = ds[i] := by rw [List.getElem?_eq_getElem hlt] at hd; exact (Option.some.inj hd).symm
    subst e
    -- D stays as it is
    have stay : ∀ {F4 : Hp} {c4 : List Addr} {H4 : Hp}, Later F2 c2 H F4 c4 H4 → F4 D = none ∧ D ∉ c4 ∧ H4 D = some (.lst vs) := fun {F4 c4 H4} l => by
      refine ⟨?_, fun hm => ?_, l.keep D _ e2 n2⟩
      · cases q : F4 D with
        | none => rfl
        | some u =>
          rcases l.fz D u q with z | z | z
          · rw [f2] at z; cases z
          · exact absurd z n2
          · rw [e2] at z; cases z
      · have z := l.new D hm n2
        rw [e2] at z; cases z
    split at h2
    · exact h2.elim
    · rename_i env1 eb
      refine ⟨wipeE env ws, F3, c2, S2, _, s3, (er1.later l2).later l3, rd, env1, eb, fun σ4 er4 ho => ⟨(ho ws hsl).trans (wipe_sub σ ws ws fun _ h => h), ?_⟩⟩
      refine ⟨env1, F3, c2, S2, s3, er4, ?_⟩
      cases ht : tst env1 S2 with
      | exc y S4 => rw [ht] at h2; exact h2.elim
      | stuck => rw [ht] at h2; exact h2
      | ok b S4 =>
        rw [ht] at h2
        have h2 : Out K (Zf K mg (WE W σ)) F1 c1 H1 (if b = true then (LH.nox (el env1 S4)).bind fun y S2 => compL o ds t tst el (wipeE env ws) (ds.drop (i + 1)) (acc ++ [y]) S2 else compL o ds t tst el (wipeE env ws) (ds.drop (i + 1)) acc S4) P := h2
        intro F4 c4 H4 l4 s4
        have l24 := l3.trans l4
        cases b with
        | false =>
          obtain ⟨z1, z2, z3⟩ := stay l24
          refine L2.iteF ?_
          exact ⟨hlt, F4, c4, S4, acc, vs, l2.trans l24, s4, z1, z2, z3, l24.rps rs2, Nat.le_succ_of_le hacc, h2⟩
        | true =>
          rw [if_pos rfl] at h2
          refine L2.iteT ?_
          refine ⟨env1, F4, c4, S4, s4, er4.later l4, ?_⟩
          cases he : el env1 S4 with
          | exc y S5 => rw [he] at h2; exact h2.elim
          | stuck => rw [he] at h2; exact h2
          | ok y S5 =>
            rw [he] at h2
            have h2 : Out K (Zf K mg (WE W σ)) F1 c1 H1 (compL o ds t tst el (wipeE env ws) (ds.drop (i + 1)) (acc ++ [y]) S5) P := h2
            intro F5 c5 H5 l5 s5 v5 r5
            have l25 := l24.trans l5
            obtain ⟨z1, z2, z3⟩ := stay l25
            have hle : ds.length ≤ sizeLine := hz
            refine ⟨vs, z3, ?_, ?_⟩
            · have := rs2.length; omega
            · exact ⟨hlt, F5, c5, S5, acc ++ [y], vs ++ [v5], lstep (l2.trans l25), step s5 z1 z2 (fun b q => by rw [z3] at q; cases q), z1, z2, upd_same, (l25.rps rs2).append (.cons r5 .nil), by rw [List.length_append]; exact Nat.succ_le_succ hacc, h2⟩
  · have e : i = ds.length := by omega
    subst e
    rw [List.drop_length] at h2
    unfold compL at h2
    obtain ⟨wo, h2⟩ := h2.guard
    refine .inl ⟨(wk ds.length F2 c2 S2 H l2.ext l2.pre s2 wo).2 rfl, ?_⟩
    exact fin _ _ _ _ _ _ _ _ _ _ hD l2 s2 f2 n2 e2 rs2 (Nat.le_trans hacc hz) h2
theorem lc_read {K : PySem.W.Frag} {mg : Str → Option Value} {ws : List Nat} (hsl : ∀ i ∈ t.slots, i ∈ ws) (σ : St) (H : Hp) (Q : VK) (h : tE K mg W (compE it t ws tst el) σ H Q) : tLc (tI K mg W it) (gD K t) (tT K mg W0 tst) (tE K mg W0 el) ws σ H Q := by
  refine lc_readG hsl σ H Q _ h fun F1 c1 H1 F2 c2 S2 H acc vs D hD l2 s2 f2 n2 e2 rs2 hz h2 => ?_
  have sF : SR K (upd F2 D (.lst vs)) c2 S2 H := ⟨fun a u q => by
    by_cases ha : a = D
    · subst ha; rw [upd_same] at q; cases q; exact e2
    · rw [upd_ne ha] at q; exact s2.le a u q, s2.len, s2.nd, s2.there, fun n xs q => by
    obtain ⟨a, ws', e1, e3, e4, z, e5⟩ := s2.cel n xs q
    have ha : a ≠ D := fun z => n2 (z ▸ List.mem_of_getElem? e1)
    exact ⟨a, ws', e1, by rw [upd_ne ha]; exact e3, e4, z, e5.mono (ext_new f2) (List.prefix_refl _)⟩, fun n u q => by
    obtain ⟨a, e1, e3, e4⟩ := s2.kel n u q
    have ha : a ≠ D := fun z => n2 (z ▸ List.mem_of_getElem? e1)
    exact ⟨a, e1, by rw [upd_ne ha]; exact e3, e4⟩, fun n two g xs q => by
    obtain ⟨a, e1, hg⟩ := s2.gel n two g xs q
    have ha : a ≠ D := fun z => n2 (z ▸ List.mem_of_getElem? e1)
    exact ⟨a, e1, hg.frz ha f2 (fun b q => by rw [e2] at q; cases q)⟩⟩
  have lF : Later F1 c1 H1 (upd F2 D (.lst vs)) c2 H := ⟨l2.ext.trans (ext_new f2), l2.pre, l2.keep, l2.new, fun a u q => by
    by_cases ha : a = D
    · subst ha; exact .inr (.inr hD)
    · rw [upd_ne ha] at q; exact l2.fz a u q⟩
  exact h2 _ _ _ lF sF _ (.lst upd_same hz (rs2.mono (ext_new f2) (List.prefix_refl _)))
/-- a fresh list made a mutable one -/
def cellOf (d : PV) (S : Sto) : Res PV := match d with
  | .lst xs => if bels 0 xs = true then .ok (.cell S.length) (S ++ [.lst xs]) else .stuck
  | _ => .stuck
noncomputable def compCE (it : IterD) (t : Tg) (ws : List Nat) (tst : TestD) (el : ExprD) : ExprD := fun env S => (compE it t ws tst el env S).bind cellOf
theorem lc_readC {K : PySem.W.Frag} {mg : Str → Option Value} {ws : List Nat} (hsl : ∀ i ∈ t.slots, i ∈ ws) (σ : St) (H : Hp) (Q : VK) (h : tE K mg W (compCE it t ws tst el) σ H Q) : tLc (tI K mg W it) (gD K t) (tT K mg W0 tst) (tE K mg W0 el) ws σ H Q := by
  obtain ⟨env, F, ci, S, sr, er, h⟩ := h
  refine lc_readG hsl σ H Q _ ⟨env, F, ci, S, sr, er, Out.bind h⟩ fun F1 c1 H1 F2 c2 S2 H acc vs D hD l2 s2 f2 n2 e2 rs2 hz h2 => ?_
  have hm : ∀ a, a ≠ D → (if a = D then none else H a) = H a := fun a ha => if_neg ha
  have hu : upd (fun a => if a = D then none else H a) D (.lst vs) = H := by
    funext a
    by_cases ha : a = D
    · subst ha; rw [upd_same, e2]
    · rw [upd_ne ha]; exact hm a ha
  have s3 : SR K F2 c2 S2 (fun a => if a = D then none else H a) := ⟨fun a u q => by
    have ha : a ≠ D := fun z => by subst z; rw [f2] at q; cases q
    rw [hm a ha]; exact s2.le a u q, s2.len, s2.nd, fun a q => by
    have ha : a ≠ D := fun z => n2 (z ▸ q)
    rw [hm a ha]; exact s2.there a q, fun n xs q => by
    obtain ⟨a, ws', e1, e3, e4, z, e5⟩ := s2.cel n xs q
    have ha : a ≠ D := fun z => n2 (z ▸ List.mem_of_getElem? e1)
    exact ⟨a, ws', e1, e3, by rw [hm a ha]; exact e4, z, e5⟩, fun n u q => by
    obtain ⟨a, e1, e3, e4⟩ := s2.kel n u q
    have ha : a ≠ D := fun z => n2 (z ▸ List.mem_of_getElem? e1)
    exact ⟨a, e1, e3, by rw [hm a ha]; exact e4⟩, fun n two g xs q => by
    obtain ⟨a, e1, hg⟩ := s2.gel n two g xs q
    have ha : a ≠ D := fun z => n2 (z ▸ List.mem_of_getElem? e1)
    exact ⟨a, e1, hg.same (hm a ha) fun c b q => by
      have hc : c ≠ D := fun z => by subst z; rw [e2] at q; cases q
      rw [hm c hc]; exact q⟩⟩
  have l3 : Later F1 c1 H1 F2 c2 (fun a => if a = D then none else H a) := ⟨l2.ext, l2.pre, fun a u q n => by
    have ha : a ≠ D := fun z => by subst z; rw [hD] at q; cases q
    rw [hm a ha]; exact l2.keep a u q n, l2.new, l2.fz⟩
  have h3 := h2 _ _ _ l3 s3
  unfold cellOf at h3
  dsimp only at h3
  split at h3
  · rename_i hb
    obtain ⟨s4, l4, g4⟩ := s3.celled (p := D) (xs := acc) (vs := vs) (if_pos rfl) ⟨hz, hb⟩ rs2
    rw [hu] at s4 l4
    exact h3 _ _ _ l4 s4 _ (.cell g4)
  · exact h3.elim
theorem de_lc (hN : X.N.Nodup) (hi : PI X tg iter (tI X.K X.mg W it)) (ok : blkC X.N X.env.scope scope own = true) (hsl : (t.slots.all fun i => (own.map (·.2)).contains i) = true)
    (hg : ∀ (s : Shared) (H : Hp) (C : Addr) (cl : List (Str × Addr)) (fp : List Addr), PG (X.blk s H scope (compEnvC scope cl C X.env) fp) tg (gD X.K t)) (ht : ∀ (s : Shared) (H : Hp) (C : Addr) (cl : List (Str × Addr)) (fp : List Addr), PTs (X.blk s H scope (compEnvC scope cl C X.env) fp) ifs (tT X.K X.mg W0 tst))
    (he : ∀ (s : Shared) (H : Hp) (C : Addr) (cl : List (Str × Addr)) (fp : List Addr), PE (X.blk s H scope (compEnvC scope cl C X.env) fp) elt (tE X.K X.mg W0 el)) (hc : X.calm = true := by rfl) (hs : ∀ x, foldedSetIterable iter X.env x = pure x := by intro _; rfl) :
    PE X (.ListComp elt [⟨tg, iter, ifs, 0⟩] scope pos) (tE X.K X.mg W (compE it t (own.map (·.2)) tst el)) := (pe_lc hc hN hi (blkOk_by ok) hg ht he hs).imp fun σ H Q h => lc_read (fun i hi => by simpa using List.all_eq_true.mp hsl i hi) σ H Q h
theorem ds_setLc (i : Nat) {y : Str} {py : Pos} {spos : Pos} (hN : X.N.Nodup) (hi : PI X tg iter (tI X.K X.mg W it)) (ok : blkC X.N X.env.scope scope own = true) (hsl : (t.slots.all fun i => (own.map (·.2)).contains i) = true)
    (hg : ∀ (s : Shared) (H : Hp) (C : Addr) (cl : List (Str × Addr)) (fp : List Addr), PG (X.blk s H scope (compEnvC scope cl C X.env) fp) tg (gD X.K t)) (ht : ∀ (s : Shared) (H : Hp) (C : Addr) (cl : List (Str × Addr)) (fp : List Addr), PTs (X.blk s H scope (compEnvC scope cl C X.env) fp) ifs (tT X.K X.mg W0 tst))
    (he : ∀ (s : Shared) (H : Hp) (C : Addr) (cl : List (Str × Addr)) (fp : List Addr), PE (X.blk s H scope (compEnvC scope cl C X.env) fp) elt (tE X.K X.mg W0 el))
    (hsw : swapsWith (.ListComp elt [⟨tg, iter, ifs, 0⟩] scope pos) (some (.Name y py)) spos.line X.env = pure true) (hy : X.N[i]? = some y := by rfl) (hyl : X.env.scope.names.lookup y = some .local := by rfl) (hc : X.calm = true := by rfl) (hs : ∀ x, foldedSetIterable iter X.env x = pure x := by intro _; rfl) :
    PS X (.Assign [.Name y py] (.ListComp elt [⟨tg, iter, ifs, 0⟩] scope pos) spos) (tSX X W (asgS (.nm i) (compE it t (own.map (·.2)) tst el))) := (ps_setLc hc hN hy hyl hsw hi (blkOk_by ok) hg ht he hs).imp fun D σ H h => by
  obtain ⟨env, F, ci, S, sr, er, h⟩ := h
  refine lc_read (fun i hi => by simpa using List.all_eq_true.mp hsl i hi) σ H _ ⟨env, F, ci, S, sr, er, (runE_out er h).imp fun d F1 c1 S1 H1 l1 s1 h1 v1 r1 => ?_⟩
  exact h1.here s1 _ ((er.later l1).set i r1)
theorem ds_setLcC (i : Nat) {y : Str} {py : Pos} {spos : Pos} (hN : X.N.Nodup) (hi : PI X tg iter (tI X.K X.mg W it)) (ok : blkC X.N X.env.scope scope own = true) (hsl : (t.slots.all fun i => (own.map (·.2)).contains i) = true)
    (hg : ∀ (s : Shared) (H : Hp) (C : Addr) (cl : List (Str × Addr)) (fp : List Addr), PG (X.blk s H scope (compEnvC scope cl C X.env) fp) tg (gD X.K t)) (ht : ∀ (s : Shared) (H : Hp) (C : Addr) (cl : List (Str × Addr)) (fp : List Addr), PTs (X.blk s H scope (compEnvC scope cl C X.env) fp) ifs (tT X.K X.mg W0 tst))
    (he : ∀ (s : Shared) (H : Hp) (C : Addr) (cl : List (Str × Addr)) (fp : List Addr), PE (X.blk s H scope (compEnvC scope cl C X.env) fp) elt (tE X.K X.mg W0 el))
    (hsw : swapsWith (.ListComp elt [⟨tg, iter, ifs, 0⟩] scope pos) (some (.Name y py)) spos.line X.env = pure true) (hy : X.N[i]? = some y := by rfl) (hyl : X.env.scope.names.lookup y = some .local := by rfl) (hc : X.calm = true := by rfl) (hs : ∀ x, foldedSetIterable iter X.env x = pure x := by intro _; rfl) :
    PS X (.Assign [.Name y py] (.ListComp elt [⟨tg, iter, ifs, 0⟩] scope pos) spos) (tSX X W (asgS (.nm i) (compCE it t (own.map (·.2)) tst el))) := (ps_setLc hc hN hy hyl hsw hi (blkOk_by ok) hg ht he hs).imp fun D σ H h => by
  obtain ⟨env, F, ci, S, sr, er, h⟩ := h
  refine lc_readC (fun i hi => by simpa using List.all_eq_true.mp hsl i hi) σ H _ ⟨env, F, ci, S, sr, er, (runE_out er h).imp fun d F1 c1 S1 H1 l1 s1 h1 v1 r1 => ?_⟩
  exact h1.here s1 _ ((er.later l1).set i r1)
end
end LH

/-! LF: built-in functions, subscripts, slices, append. -/
namespace LH
open PySem PySem.Spec PyProof.Rows L2

/-! ### calls of built-ins -/
def bE (g : List PV → Sto → Res PV) (a : ArgsD) : ExprD := fun env S => (a env S).bind fun xs S1 => g xs S1
section
variable {X : Cx} {W : WX} {e : Expr} {es : List Expr} {x : Str} {id T : String} {p pos : Pos} {r : ArgsD} {g : List PV → Sto → Res PV}
theorem de_b (hc : ∀ σ, CallR X (.builtin id) (rL X.K X.mg (WE W σ) g)) (hm : X.mg x = none) (hv : bootBuiltins x = some (.builtin id)) (ha : PA X (e :: es) (tA X.K X.mg W r)) (hg : Gl X x := by rfl) (hn : x ≠ "__name__" := by decide) (hdb : (x == ("__debug__" : Str)) = false := by decide)
    (he : starEach (e :: es) X.env = (false, eval e X.env) :: starEach es X.env := by rfl) (hpl : (backTo pos (starEach es X.env)).any (·.1) = false := by rfl) : PE X (.Call (.Name x p) (e :: es) [] pos) (tE X.K X.mg W (bE g r)) := by
  refine ⟨fun pins s σ H Q I h => ?_⟩
  obtain ⟨env, F, ci, S, sr, er, h⟩ := h
  exact (pe_callB (hc σ) hg hm hv ha hn hdb he hpl).run pins s σ H Q I ⟨env, F, ci, S, sr, er, (Out.bind h).imp fun ds F1 c1 S1 H1 l1 s1 h1 vs rs => ⟨F1, c1, S1, ds, s1, rs, h1⟩⟩
theorem de_ty (hc : ∀ σ, CallR X (.type T) (rL X.K X.mg (WE W σ) g)) (hm : X.mg x = none) (hv : bootBuiltins x = some (.type T)) (ha : PA X (e :: es) (tA X.K X.mg W r)) (hg : Gl X x := by rfl) (hn : x ≠ "__name__" := by decide) (hdb : (x == ("__debug__" : Str)) = false := by decide)
    (he : starEach (e :: es) X.env = (false, eval e X.env) :: starEach es X.env := by rfl) (hpl : (backTo pos (starEach es X.env)).any (·.1) = false := by rfl) : PE X (.Call (.Name x p) (e :: es) [] pos) (tE X.K X.mg W (bE g r)) := by
  refine ⟨fun pins s σ H Q I h => ?_⟩
  obtain ⟨env, F, ci, S, sr, er, h⟩ := h
  exact (pe_callTy (hc σ) hg hm hv ha hn hdb he hpl).run pins s σ H Q I ⟨env, F, ci, S, sr, er, (Out.bind h).imp fun ds F1 c1 S1 H1 l1 s1 h1 vs rs => ⟨F1, c1, S1, ds, s1, rs, h1⟩⟩
/-- a built-in type as a value -/
theorem de_tyv {n : String} {x : Str} (hm : X.mg x = none) (hv : bootBuiltins x = some (.type n)) (hg : Gl X x := by rfl) (hn : x ≠ "__name__" := by decide) (hdb : (x == ("__debug__" : Str)) = false := by decide) : PE X (.Name x pos) (tE X.K X.mg W (cE (.ty n))) :=
  de_c (pe_bltn (v := .ty n) hg hm hv rfl hn hdb) fun _ _ => .ty n
/-- a module's constant that holds a text or an int -/
theorem de_gstr {x : Str} {z : Str} {u : Value} (hm : X.mg x = some u) (r : RelV (.str z) u) (hg : Gl X x := by rfl) (hdb : (x == ("__debug__" : Str)) = false := by decide) : PE X (.Name x pos) (tE X.K X.mg W (cE (.str z))) :=
  de_c (pe_glob (v := .str z) hg hm r hdb) fun _ _ => .str z
end
section
variable {K : PySem.W.Frag} {F : Hp} {ci : List Addr}
theorem rps1 {d : PV} {vs : List V} (r : Rps K F ci [d] vs) : ∃ v, vs = [v] ∧ Rp K F ci d v := by
  obtain ⟨v, ws, rfl, r1, r2⟩ := r.cons_inv
  rw [r2.nil_inv]
  exact ⟨v, rfl, r1⟩
theorem rps2 {d e : PV} {vs : List V} (r : Rps K F ci [d, e] vs) : ∃ v u, vs = [v, u] ∧ Rp K F ci d v ∧ Rp K F ci e u := by
  obtain ⟨v, ws, rfl, r1, r2⟩ := r.cons_inv
  obtain ⟨u, rfl, r3⟩ := rps1 r2
  exact ⟨v, u, rfl, r1, r3⟩
end
def lenB : List PV → Sto → Res PV := fun xs S => match xs with
  | [.str z] => if z.length ≤ sizeLine then .ok (.int z.length) S else .stuck
  | [d] => match seqOf S d with
    | some ys => .ok (.int ys.length) S
    | none => .stuck
  | _ => .stuck
def intB : List PV → Sto → Res PV := fun xs S => match xs with
  | [.int i] => .ok (.int i) S
  | [.bl b] => .ok (.int (if b then 1 else 0)) S
  | _ => .stuck
def absB : List PV → Sto → Res PV := fun xs S => match xs with
  | [.int i] => .ok (.int (if i < 0 then -i else i)) S
  | _ => .stuck
def boolB : List PV → Sto → Res PV := fun xs S => match xs with
  | [.int i] => .ok (.bl (i != 0)) S
  | [.bl b] => .ok (.bl b) S
  | _ => .stuck
/-- a list's ints -/
def asInts : List PV → Option (List Int)
  | [] => some []
  | .int i :: r => (asInts r).map (i :: ·)
  | _ :: _ => none
def asBools : List PV → Option (List Bool)
  | [] => some []
  | .bl i :: r => (asBools r).map (i :: ·)
  | _ :: _ => none
def maxL : List Int → Int
  | [] => 0
  | x :: xs => xs.foldl max x
def minL : List Int → Int
  | [] => 0
  | x :: xs => xs.foldl min x
theorem maxL_is : ∀ (xs : List Int) (x m : Int), m ∈ x :: xs → (∀ y ∈ x :: xs, y ≤ m) → xs.foldl max x = m
  | [], x, m, h, _ => by simp at h; simp [h]
  | y :: ys, x, m, h, hle => by
    rw [List.foldl_cons]
    refine maxL_is ys (max x y) m ?_ fun z hz => ?_
    · have hx := hle x (by simp)
      have hy := hle y (by simp)
      rcases List.mem_cons.mp h with e | h
      · have : max x y = m := by omega
        rw [this]; simp
      · rcases List.mem_cons.mp h with e | h
        · have : max x y = m := by omega
          rw [this]; simp
        · exact List.mem_cons_of_mem _ h
    · rcases List.mem_cons.mp hz with e | hz
      · have hx := hle x (by simp)
        have hy := hle y (by simp)
        omega
      · exact hle z (by simp [hz])
theorem minL_is : ∀ (xs : List Int) (x m : Int), m ∈ x :: xs → (∀ y ∈ x :: xs, m ≤ y) → xs.foldl min x = m
  | [], x, m, h, _ => by simp at h; simp [h]
  | y :: ys, x, m, h, hle => by
    rw [List.foldl_cons]
    refine minL_is ys (min x y) m ?_ fun z hz => ?_
    · have hx := hle x (by simp)
      have hy := hle y (by simp)
      rcases List.mem_cons.mp h with e | h
      · have : min x y = m := by omega
        rw [this]; simp
      · rcases List.mem_cons.mp h with e | h
        · have : min x y = m := by omega
          rw [this]; simp
        · exact List.mem_cons_of_mem _ h
    · rcases List.mem_cons.mp hz with e | hz
      · have hx := hle x (by simp)
        have hy := hle y (by simp)
        omega
      · exact hle z (by simp [hz])
def maxB : List PV → Sto → Res PV := fun xs S => match xs with
  | [.int i, .int j] => .ok (.int (if j > i then j else i)) S
  | [d] => match (lstOf S d).bind asInts with
    | some ns => if ns.isEmpty = true then .stuck else .ok (.int (maxL ns)) S
    | none => .stuck
  | _ => .stuck
def minB : List PV → Sto → Res PV := fun xs S => match xs with
  | [.int i, .int j] => .ok (.int (if j < i then j else i)) S
  | [d] => match (lstOf S d).bind asInts with
    | some ns => if ns.isEmpty = true then .stuck else .ok (.int (minL ns)) S
    | none => .stuck
  | _ => .stuck
def sumB : List PV → Sto → Res PV := fun xs S => match xs with
  | [d] => match (lstOf S d).bind asInts with
    | some ns => .ok (.int ns.sum) S
    | none => .stuck
  | _ => .stuck
def allB : List PV → Sto → Res PV := fun xs S => match xs with
  | [d] => match (lstOf S d).bind asBools with
    | some bs => .ok (.bl (bs.all id)) S
    | none => .stuck
  | _ => .stuck
def anyB : List PV → Sto → Res PV := fun xs S => match xs with
  | [d] => match (lstOf S d).bind asBools with
    | some bs => .ok (.bl (bs.any id)) S
    | none => .stuck
  | _ => .stuck
def listB : List PV → Sto → Res PV := fun xs S => match xs with
  | [d] => match seqOf S d with
    | some ys => .ok (.lst ys) S
    | none => .stuck
  | _ => .stuck
def tupleB : List PV → Sto → Res PV := fun xs S => match xs with
  | [d] => match seqOf S d with
    | some ys => .ok (.tup ys) S
    | none => .stuck
  | _ => .stuck
/-- is a value of a built-in type -/
def isaB (d : PV) (T : String) : Option Bool := match d with
  | .adr _ => none
  | d =>
  if T = "int" then some (match d with | .int _ => true | .bl _ => true | _ => false)
  else if T = "bool" then some (match d with | .bl _ => true | _ => false)
  else if T = "str" then some (match d with | .str _ => true | _ => false)
  else if T = "tuple" then some (match d with | .tup _ => true | _ => false)
  else if T = "list" then some (match d with | .lst _ => true | .ro _ => true | .cell _ => true | _ => false)
  else none
def isinB : List PV → Sto → Res PV := fun xs S => match xs with
  | [d, .ty T] => match d with
    | .ty _ => .stuck
    | .adr _ => .stuck
    | .opq _ => if T = "int" ∨ T = "bool" ∨ T = "str" ∨ T = "tuple" ∨ T = "list" then .ok (.bl false) S else .stuck
    | .cell n => match S[n]? with
      | some (.lst _) => match isaB (.cell n) T with
        | some b => .ok (.bl b) S
        | none => .stuck
      | _ => .stuck
    | d => match isaB d T with
      | some b => .ok (.bl b) S
      | none => .stuck
  | _ => .stuck
section
variable {X : Cx} {E : XK}
theorem vals_ints {K : PySem.W.Frag} {F : Hp} {ci : List Addr} : ∀ {ds : List PV} {ns : List Int} {vs : List V}, asInts ds = some ns → Rps K F ci ds vs → vs = ns.map V.int
  | [], _, _, h, r => by simp [asInts] at h; subst h; rw [r.nil_inv]; rfl
  | d :: ds, ns, _, h, r => by
    obtain ⟨v, ws, rfl, r1, r2⟩ := r.cons_inv
    cases d with
    | int i =>
      simp only [asInts, Option.map_eq_some_iff] at h
      obtain ⟨ms, h1, rfl⟩ := h
      cases r1
      rw [vals_ints h1 r2]; rfl
    | _ => simp [asInts] at h
theorem vals_bools {K : PySem.W.Frag} {F : Hp} {ci : List Addr} : ∀ {ds : List PV} {ns : List Bool} {vs : List V}, asBools ds = some ns → Rps K F ci ds vs → vs = ns.map V.bl
  | [], _, _, h, r => by simp [asBools] at h; subst h; rw [r.nil_inv]; rfl
  | d :: ds, ns, _, h, r => by
    obtain ⟨v, ws, rfl, r1, r2⟩ := r.cons_inv
    cases d with
    | bl i =>
      simp only [asBools, Option.map_eq_some_iff] at h
      obtain ⟨ms, h1, rfl⟩ := h
      cases r1
      rw [vals_bools h1 r2]; rfl
    | _ => simp [asBools] at h
theorem ints_at {K : PySem.W.Frag} {F : Hp} {ci : List Addr} {S : Sto} {H : Hp} {d : PV} {v : V} {ns : List Int} (s : SR K F ci S H) (r : Rp K F ci d v) (h : (lstOf S d).bind asInts = some ns) : ∃ a, v = .ref a ∧ SqL K H a (ns.map V.int) := by
  simp only [Option.bind_eq_some_iff] at h
  obtain ⟨ds, h1, h2⟩ := h
  obtain ⟨a, vs, rfl, q, rs, _⟩ := lst_rd s r h1
  rw [vals_ints h2 rs] at q
  exact ⟨a, rfl, q⟩
theorem bools_at {K : PySem.W.Frag} {F : Hp} {ci : List Addr} {S : Sto} {H : Hp} {d : PV} {v : V} {ns : List Bool} (s : SR K F ci S H) (r : Rp K F ci d v) (h : (lstOf S d).bind asBools = some ns) : ∃ a, v = .ref a ∧ SqL K H a (ns.map V.bl) := by
  simp only [Option.bind_eq_some_iff] at h
  obtain ⟨ds, h1, h2⟩ := h
  obtain ⟨a, vs, rfl, q, rs, _⟩ := lst_rd s r h1
  rw [vals_bools h2 rs] at q
  exact ⟨a, rfl, q⟩
theorem cd_len : CallR X (.builtin "len") (rL X.K X.mg E lenB) := by
  intro pins s σ H xs us Q I r q
  obtain ⟨F, ci, S, ds, sr, rs, q⟩ := q
  unfold lenB at q
  split at q
  · rename_i z
    obtain ⟨v, rfl, r1⟩ := rps1 rs
    cases r1
    split at q
    · rename_i hz
      exact call_len_str pins s σ H _ us Q I r ⟨z, rfl, hz, q.here sr _ (.int _)⟩
    · exact q.elim
  · rename_i d _
    obtain ⟨v, rfl, r1⟩ := rps1 rs
    split at q
    · rename_i ys hy
      obtain ⟨a, vs, rfl, hs, rs', _⟩ := seq_sq sr r1 hy
      refine call_len_seq pins s σ H _ us Q I r ⟨a, vs, rfl, hs, ?_⟩
      rw [← rs'.length]
      exact q.here sr _ (.int _)
    · exact q.elim
  · exact q.elim
theorem cd_int : CallR X (.type "int") (rL X.K X.mg E intB) := by
  intro pins s σ H xs us Q I r q
  obtain ⟨F, ci, S, ds, sr, rs, q⟩ := q
  unfold intB at q
  split at q
  · obtain ⟨v, rfl, r1⟩ := rps1 rs
    cases r1
    exact call_int1 pins s σ H _ us Q I r (.inl ⟨_, rfl, q.here sr _ (.int _)⟩)
  · obtain ⟨v, rfl, r1⟩ := rps1 rs
    cases r1
    exact call_int1 pins s σ H _ us Q I r (.inr ⟨_, rfl, q.here sr _ (.int _)⟩)
  · exact q.elim
theorem cd_abs : CallR X (.builtin "abs") (rL X.K X.mg E absB) := by
  intro pins s σ H xs us Q I r q
  obtain ⟨F, ci, S, ds, sr, rs, q⟩ := q
  unfold absB at q
  split at q
  · obtain ⟨v, rfl, r1⟩ := rps1 rs
    cases r1
    exact call_abs pins s σ H _ us Q I r ⟨_, rfl, q.here sr _ (.int _)⟩
  · exact q.elim
theorem cd_max (hc : X.calm = true) : CallR X (.builtin "max") (rL X.K X.mg E maxB) := by
  intro pins s σ H xs us Q I r q
  obtain ⟨F, ci, S, ds, sr, rs, q⟩ := q
  unfold maxB at q
  split at q
  · obtain ⟨v, u, rfl, r1, r2⟩ := rps2 rs
    cases r1; cases r2
    exact call_max2 hc pins s σ H _ us Q I r ⟨_, _, rfl, q.here sr _ (.int _)⟩
  · obtain ⟨v, rfl, r1⟩ := rps1 rs
    split at q
    · rename_i ns hn
      split at q
      · exact q.elim
      · rename_i hne
        obtain ⟨a, rfl, hs⟩ := ints_at sr r1 hn
        refine cr_max hc pins s σ H _ us Q I r ⟨a, ns, rfl, hs, ?_, fun m hm hle => ?_⟩
        · cases ns with
          | nil => exact absurd rfl hne
          | cons => simp
        · cases ns with
          | nil => cases hm
          | cons x ns =>
            rw [← maxL_is ns x m hm hle]
            exact q.here sr _ (.int _)
    · exact q.elim
  · exact q.elim
theorem cd_min (hc : X.calm = true) : CallR X (.builtin "min") (rL X.K X.mg E minB) := by
  intro pins s σ H xs us Q I r q
  obtain ⟨F, ci, S, ds, sr, rs, q⟩ := q
  unfold minB at q
  split at q
  · obtain ⟨v, u, rfl, r1, r2⟩ := rps2 rs
    cases r1; cases r2
    exact call_min2 hc pins s σ H _ us Q I r ⟨_, _, rfl, q.here sr _ (.int _)⟩
  · obtain ⟨v, rfl, r1⟩ := rps1 rs
    split at q
    · rename_i ns hn
      split at q
      · exact q.elim
      · rename_i hne
        obtain ⟨a, rfl, hs⟩ := ints_at sr r1 hn
        refine cr_min hc pins s σ H _ us Q I r ⟨a, ns, rfl, hs, ?_, fun m hm hle => ?_⟩
        · cases ns with
          | nil => exact absurd rfl hne
          | cons => simp
        · cases ns with
          | nil => cases hm
          | cons x ns =>
            rw [← minL_is ns x m hm hle]
            exact q.here sr _ (.int _)
    · exact q.elim
  · exact q.elim
theorem cd_all (hc : X.calm = true) : CallR X (.builtin "all") (rL X.K X.mg E allB) := by
  intro pins s σ H xs us Q I r q
  obtain ⟨F, ci, S, ds, sr, rs, q⟩ := q
  unfold allB at q
  split at q
  · obtain ⟨v, rfl, r1⟩ := rps1 rs
    split at q
    · rename_i ns hn
      obtain ⟨a, rfl, hs⟩ := bools_at sr r1 hn
      exact cr_all hc pins s σ H _ us Q I r ⟨a, ns, rfl, hs, q.here sr _ (.bl _)⟩
    · exact q.elim
  · exact q.elim
theorem cd_list : CallR X (.type "list") (rL X.K X.mg E listB) := by
  intro pins s σ H xs us Q I r q
  obtain ⟨F, ci, S, ds, sr, rs, q⟩ := q
  unfold listB at q
  split at q
  · obtain ⟨v, rfl, r1⟩ := rps1 rs
    split at q
    · rename_i ys hy
      obtain ⟨a, vs, rfl, hs, rs', hz⟩ := seq_sq sr r1 hy
      refine call_list_of pins s σ H _ us Q I r ⟨a, vs, rfl, hs, fun p hp => ?_⟩
      obtain ⟨s2, l2⟩ := sr.laid (o := .lst vs) hp
      exact q _ _ _ l2 s2 _ (.lst upd_same hz (l2.rps rs'))
    · exact q.elim
  · exact q.elim
theorem cd_tuple : CallR X (.type "tuple") (rL X.K X.mg E tupleB) := by
  intro pins s σ H xs us Q I r q
  obtain ⟨F, ci, S, ds, sr, rs, q⟩ := q
  unfold tupleB at q
  split at q
  · rename_i d
    obtain ⟨v, rfl, r1⟩ := rps1 rs
    split at q
    · rename_i ys hy
      by_cases ht : ∃ ts, d = .tup ts
      · obtain ⟨ts, rfl⟩ := ht
        cases hy
        cases r1 with
        | tup e z rs' => exact call_tuple_of pins s σ H _ us Q I r ⟨_, _, rfl, .inr ⟨sr.sqT e, q.here sr _ (.tup e z rs')⟩⟩
      · have hl : lstOf S d = some ys := by cases d <;> first | exact hy | (exact absurd ⟨_, rfl⟩ ht)
        obtain ⟨a, vs, rfl, hs, rs', hz⟩ := lst_rd sr r1 hl
        refine call_tuple_of pins s σ H _ us Q I r ⟨a, vs, rfl, .inl ⟨hs, fun p hp => ?_⟩⟩
        obtain ⟨s2, l2⟩ := sr.laid (o := .tup vs) hp
        exact q _ _ _ l2 s2 _ (.tup (.inl rd_new) hz (l2.rps rs'))
    · exact q.elim
  · exact q.elim
end
/-- a value's type's name -/
def tyName : PV → Option String
  | .non => some "NoneType"
  | .bl _ => some "bool"
  | .int _ => some "int"
  | .str _ => some "str"
  | .tup _ => some "tuple"
  | .lst _ => some "list"
  | .ro _ => some "list"
  | .cell _ => some "list"
  | .ty _ => none
  | .adr _ => none
  | .opq _ => none
theorem tyx {K : PySem.W.Frag} {F : Hp} {ci : List Addr} {S : Sto} {H : Hp} (s : SR K F ci S H) {d : PV} {v : V} {n : String} (r : Rp K F ci d v) (h : tyName d = some n) (hc : ∀ k, d = .cell k → ∃ xs, S[k]? = some (.lst xs)) : TyX K H v (.type n) := by
  cases r with
  | non => cases h; exact .base .non
  | bl b => cases h; exact .base (.bl b)
  | int i => cases h; exact .base (.int i)
  | str x => cases h; exact .base (.str x)
  | tup e z rs =>
    cases h
    rcases s.sqT e with (q | ⟨o, q⟩) | ⟨o, its, n, hk, hc, _⟩
    · exact .base (.tup q)
    · exact .fTuple q
    · exact .kTuple hk hc
  | lst e z rs => cases h; exact .base (.lst (s.le _ _ e))
  | ro e z rs =>
    cases h
    rcases Ext.sqL s.le e with (q | ⟨o, q⟩) | ⟨o, its, n, hk, hc, _⟩
    · exact .base (.lst q)
    · exact .base (.frz q)
    · exact .kList hk hc
  | @cell a k e =>
    cases h
    obtain ⟨xs, q⟩ := hc k rfl
    obtain ⟨b, vs, e1, _, e3, _⟩ := s.cel k xs q
    rw [e] at e1; cases e1
    exact .base (.lst e3)
  | ty n => cases h
  | adr => cases h
  | opq _ => cases h
theorem isa_ok {d : PV} {T n : String} {b : Bool} (h : isaB d T = some b) (hn : tyName d = some n) : kitB n T = some b := by
  unfold isaB at h
  split at h
  · cases h
  split at h
  · subst T; cases d <;> simp [tyName] at hn <;> subst hn <;> simp at h <;> subst h <;> decide +kernel
  · split at h
    · subst T; cases d <;> simp [tyName] at hn <;> subst hn <;> simp at h <;> subst h <;> decide +kernel
    · split at h
      · subst T; cases d <;> simp [tyName] at hn <;> subst hn <;> simp at h <;> subst h <;> decide +kernel
      · split at h
        · subst T; cases d <;> simp [tyName] at hn <;> subst hn <;> simp at h <;> subst h <;> decide +kernel
        · split at h
          · subst T; cases d <;> simp [tyName] at hn <;> subst hn <;> simp at h <;> subst h <;> decide +kernel
          · cases h
section
variable {X : Cx} {E : XK}
theorem cd_isin : CallR X (.builtin "isinstance") (rL X.K X.mg E isinB) := by
  intro pins s σ H xs us Q I r q
  obtain ⟨F, ci, S, ds, sr, rs, q⟩ := q
  have go : ∀ {d : PV} {T n : String} {b : Bool} {v u : V}, Rp X.K F ci d v → Rp X.K F ci (.ty T) u → tyName d = some n → isaB d T = some b → (∀ k, d = .cell k → ∃ xs, S[k]? = some (.lst xs)) → Vals [v, u] us →
      (Out X.K (Zf X.K X.mg E) F ci H (.ok (.bl b) S) fun d F' ci' S' H' => ∀ v, Rp X.K F' ci' d v → Q v H') → wpAny (model X.prog X.w) X.A (call (.builtin "isinstance") us) (EP X pins σ Q) X.xe s := fun {d T n b v u} r1 r2 hn hb hc rv q => by
    cases r2
    exact call_isi pins s σ H _ us Q I rv ⟨v, .ty T, .type n, .type T, b, rfl, .ty T, tyx sr r1 hn hc, kit_ty (isa_ok hb hn), q.here sr _ (.bl _)⟩
  unfold isinB at q
  split at q
  · rename_i d T
    obtain ⟨v, u, rfl, r1, r2⟩ := rps2 rs
    split at q
    · exact q.elim
    · exact q.elim
    · rename_i t
      split at q
      · rename_i hT
        cases r2
        cases r1 with
        | opq o => exact call_isi pins s σ H _ us Q I r ⟨_, .ty T, t, .type T, false, rfl, .ty T, o.ty H sr.le, o.no T (by rcases hT with rfl | rfl | rfl | rfl | rfl <;> simp), q.here sr _ (.bl _)⟩
      · exact q.elim
    · split at q
      · rename_i hk
        split at q
        · rename_i hb
          exact go r1 r2 rfl hb (fun k e => by cases e; exact ⟨_, hk⟩) r q
        · exact q.elim
      · exact q.elim
    · rename_i d' h1 h3 h4 h2
      split at q
      · rename_i hb
        have hn : ∃ n, tyName d = some n := by cases d <;> first | exact ⟨_, rfl⟩ | exact absurd rfl (h1 _) | exact absurd rfl (h3 _) | exact absurd rfl (h4 _)
        obtain ⟨n, hn⟩ := hn
        exact go r1 r2 hn hb (fun k e => absurd e (h2 k)) r q
      · exact q.elim
  · exact q.elim
end

/-! ### subscripts -/
/-- where an index lies -/
def ixP (n : Nat) (i : Int) : Option Nat := if 0 ≤ i then (if i < n then some i.toNat else none) else if -(n : Int) ≤ i then some (i + n).toNat else none
def itemV : PV → PV → Sto → Res PV := fun x y S => match y with
  | .int i => match seqOf S x with
    | some xs => match (ixP xs.length i).bind fun j => xs[j]? with
      | some d => .ok d S
      | none => .stuck
    | none => match x with
      | .str z => if z.length ≤ sizeLine then (match (ixP z.cps.size i).bind fun j => z.cps.toList[j]? with
        | some c => .ok (.str ⟨#[c]⟩) S
        | none => .stuck) else .stuck
      | _ => .stuck
  | _ => .stuck
section
variable {X : Cx} {W : WX} {a b : Expr} {pos : Pos} {fa fb : ExprD}
theorem ixd {E : XK} : IxR X (rD X.K X.mg E itemV) := by
  intro value slice pins s σ H x y v u Q I rx ry q hs
  obtain ⟨F, ci, S, dx, dy, sr, r1, r2, q⟩ := q
  unfold itemV at q
  split at q
  · rename_i i
    cases r2
    split at q
    · rename_i xs hx
      split at q
      · rename_i d hd
        obtain ⟨a, vs, rfl, hq, rs, _⟩ := seq_sq sr r1 hx
        obtain ⟨j, hj1, hj2⟩ := Option.bind_eq_some_iff.mp hd
        obtain ⟨w, hw, rw'⟩ := rs.get hj2
        have hat : atI vs i = some w := by
          show (ixN vs.length i).bind _ = _
          rw [← rs.length]
          exact Option.bind_eq_some_iff.mpr ⟨j, hj1, hw⟩
        rcases hq with hq | hq
        · exact ix_list value slice pins s σ H _ _ v u Q I rx ry ⟨a, vs, i, w, rfl, rfl, hq, hat, q.here sr _ rw'⟩ hs
        · exact ix_tup value slice pins s σ H _ _ v u Q I rx ry ⟨a, vs, i, w, rfl, rfl, hq, hat, q.here sr _ rw'⟩ hs
      · exact q.elim
    · split at q
      · rename_i z _
        split at q
        · rename_i hz
          split at q
          · rename_i c hc
            cases r1
            refine ix_str value slice pins s σ H _ _ v u Q I rx ry ⟨z, i, c, rfl, rfl, hz, ?_, q.here sr _ (.str _)⟩ hs
            show (ixN z.cps.toList.length i).bind _ = _
            rw [Array.length_toList]
            exact hc
          · exact q.elim
        · exact q.elim
      · exact q.elim
  · exact q.elim
theorem de_ix (ha : PE X a (tE X.K X.mg W fa)) (hb : PE X b (tE X.K X.mg W fb)) (hs : PlainIx b := by intro _ _; rfl) : PE X (.Subscript a b pos) (tE X.K X.mg W (binE itemV fa fb)) := by
  refine ⟨fun pins s σ H Q I h => ?_⟩
  obtain ⟨env, F, ci, S, sr, er, h⟩ := h
  exact (pe_ix (ixd (E := WE W σ)) ha hb hs).run pins s σ H Q I (out2 sr er h fun _ _ _ z => z)
end
/-! slices -/
def sIxP (n d : Nat) : Option Int → Nat
  | none => d
  | some i => if i < 0 then (i + n).toNat else min i.toNat n
def cutP (xs : List PV) (lo hi : Option Int) : List PV := (xs.drop (sIxP xs.length 0 lo)).take (sIxP xs.length xs.length hi - sIxP xs.length 0 lo)
abbrev PartD := PEnv → Sto → Res (Option Int)
def noP : PartD := fun _ S => .ok none S
def someP (f : ExprD) : PartD := fun env S => (f env S).bind fun d S1 => match d with
  | .int i => .ok (some i) S1
  | _ => .stuck
def sliceV (x : PV) (lo hi : Option Int) (S : Sto) : Res PV := match x with
  | .tup xs => .ok (.tup (cutP xs lo hi)) S
  | .str z => if z.length ≤ sizeLine then .ok (.str (cutS z lo hi)) S else .stuck
  | d => match lstOf S d with
    | some xs => .ok (.lst (cutP xs lo hi)) S
    | none => .stuck
def sliceE (a : ExprD) (l h : PartD) : ExprD := fun env S => (a env S).bind fun x S1 => (l env S1).bind fun lo S2 => (h env S2).bind fun hi S3 => sliceV x lo hi S3
theorem sIx_eq (n d : Nat) (hd : d ≤ n) (o : Option Int) : HT.sIx n d o = sIxP n d o := by
  cases o with
  | none => rfl
  | some i =>
    have h1 := HT.clip_eq i n d
    have h2 := HT.sIx_le n d hd (some i)
    unfold sIxP
    split at h1 <;> (simp only [*, if_true, if_false]; omega)
section
variable {X : Cx} {W : WX} {e : Expr} {lo hi : Option Expr} {p2 pos : Pos} {f : ExprD} {l h : PartD}
def tP (K : PySem.W.Frag) (mg : Str → Option Value) (W : WX) (f : PartD) : TO := fun σ H Q => ∃ env F ci S, SR K F ci S H ∧ ER K F ci env σ ∧ Out K (Zf K mg (WE W σ)) F ci H (f env S) fun o F' ci' S' H' => Q o H'
theorem PO.imp' {e : Option Expr} {t t' : TO} (h : PO X e t) (i : ∀ σ H Q, t' σ H Q → t σ H Q) : PO X e t' := ⟨fun pins s σ H Q I q => h.run pins s σ H Q I (i σ H Q q)⟩
theorem dp_none : PO X none (tP X.K X.mg W noP) := PO.imp' po_none fun σ H Q h => by
  obtain ⟨env, F, ci, S, sr, er, h⟩ := h
  exact h.here sr
theorem dp_some {e : Expr} (he : PE X e (tE X.K X.mg W f)) : PO X (some e) (tP X.K X.mg W (someP f)) := PO.imp' (po_some he) fun σ H Q h => by
  obtain ⟨env, F, ci, S, sr, er, h⟩ := h
  refine ⟨env, F, ci, S, sr, er, (Out.bind h).imp fun d F1 c1 S1 H1 l1 s1 h1 v1 r1 => ?_⟩
  cases r1 with
  | int i => exact ⟨i, rfl, h1.here s1⟩
  | _ => exact h1.elim
theorem cut_rps {K : PySem.W.Frag} {F : Hp} {ci : List Addr} {ds : List PV} {vs : List V} (rs : Rps K F ci ds vs) (lo hi : Option Int) : Rps K F ci (cutP ds lo hi) (cutV vs lo hi) := by
  unfold cutP cutV
  rw [← rs.length, sIx_eq _ _ (Nat.zero_le _), sIx_eq _ _ (Nat.le_refl _)]
  exact (rs.drop _).take _
theorem cut_len (ds : List PV) (lo hi : Option Int) : (cutP ds lo hi).length ≤ ds.length := by
  unfold cutP
  rw [List.length_take, List.length_drop]; omega
def rSlD (K : PySem.W.Frag) (mg : Str → Option Value) (E : XK) : V → Option Int → Option Int → Hp → VK → Prop := fun x lo hi H Q => ∃ F ci S d, SR K F ci S H ∧ Rp K F ci d x ∧ Out K (Zf K mg E) F ci H (sliceV d lo hi S) fun d F' ci' S' H' => ∀ v, Rp K F' ci' d v → Q v H'
theorem sld {E : XK} : SlR X (rSlD X.K X.mg E) := by
  intro pins s σ H x v vl vu lo hi sl Q I rx hs pl pu h
  obtain ⟨F, ci, S, d, sr, r, q⟩ := h
  unfold sliceV at q
  split at q
  · rename_i xs
    cases r with
    | tup e z rs =>
      rename_i a vs
      refine sl_tupA pins s σ H _ v vl vu lo hi sl Q I rx hs pl pu ⟨a, vs, rfl, sr.sqT e, fun hw => ?_, fun hw p hp => ?_⟩
      · have hc : cutP xs lo hi = xs := by
          unfold cutP
          rw [← rs.length, sIx_eq _ _ (Nat.zero_le _), sIx_eq _ _ (Nat.le_refl _)] at hw
          rw [hw.1, hw.2]
          simp
        rw [hc] at q
        exact q.here sr _ (.tup e z rs)
      · obtain ⟨s2, l2⟩ := sr.laid (o := .tup (cutV vs lo hi)) hp
        exact q _ _ _ l2 s2 _ (.tup (.inl rd_new) (Nat.le_trans (cut_len _ _ _) z) (l2.rps (cut_rps rs lo hi)))
  · rename_i z
    split at q
    · rename_i hz
      cases r
      exact sl_str pins s σ H _ v vl vu lo hi sl Q I rx hs pl pu ⟨z, rfl, hz, q.here sr _ (.str _)⟩
    · exact q.elim
  · split at q
    · rename_i xs hx
      obtain ⟨a, vs, rfl, hq, rs, z⟩ := lst_rd sr r hx
      refine sl_list pins s σ H _ v vl vu lo hi sl Q I rx hs pl pu ⟨a, vs, rfl, hq, fun p hp => ?_⟩
      obtain ⟨s2, l2⟩ := sr.laid (o := .lst (cutV vs lo hi)) hp
      exact q _ _ _ l2 s2 _ (.lst upd_same (Nat.le_trans (cut_len _ _ _) z) (l2.rps (cut_rps rs lo hi)))
    · exact q.elim
theorem de_slice (he : PE X e (tE X.K X.mg W f)) (hl : PO X lo (tP X.K X.mg W l)) (hh : PO X hi (tP X.K X.mg W h)) : PE X (.Subscript e (.Slice lo hi none p2) pos) (tE X.K X.mg W (sliceE f l h)) := by
  refine ⟨fun pins s σ H Q I q => ?_⟩
  obtain ⟨env, F, ci, S, sr, er, q⟩ := q
  refine (pe_slice (sld (E := WE W σ)) he hl hh).run pins s σ H Q I ⟨env, F, ci, S, sr, er, (Out.bind q).imp fun d F1 c1 S1 H1 l1 s1 h1 v1 r1 => ?_⟩
  refine ⟨env, F1, c1, S1, s1, er.later l1, (Out.bind h1).imp fun a F2 c2 S2 H2 l2 s2 h2 => ?_⟩
  refine ⟨env, F2, c2, S2, s2, (er.later l1).later l2, (Out.bind h2).imp fun b F3 c3 S3 H3 l3 s3 h3 => ?_⟩
  exact ⟨F3, c3, S3, d, s3, l3.rp (l2.rp r1), h3⟩
end
end LH

/-! LG: append, a store by place, sorted. -/
namespace LH
open PySem PySem.Spec PyProof.Rows L2

section
variable {K : PySem.W.Frag} {F : Hp} {ci : List Addr} {S : Sto} {H : Hp}
/-- a mutable list is written -/
theorem SR.write (s : SR K F ci S H) {n : Nat} {a : Addr} {xs : List PV} {ws : List V} {old : List PV} (hc : ci[n]? = some a) (ho : S[n]? = some (.lst old)) (z : xs.length ≤ sizeLine ∧ bels 0 xs = true) (r : Rps K F ci xs ws) :
    SR K F ci (S.set n (.lst xs)) (upd H a (.lst ws)) ∧ Later F ci H F ci (upd H a (.lst ws)) := by
  have hm : a ∈ ci := List.mem_of_getElem? hc
  obtain ⟨b, us, e1, e2, e3, _, _⟩ := s.cel n old ho
  rw [hc] at e1; cases e1
  refine ⟨⟨fun c u q => ?_, by simp [s.len], s.nd, fun c hm' => ?_, fun m ys e => ?_, fun m u e => by
    have hmn : n ≠ m := fun z => by
      subst z
      have hl : n < S.length := (List.getElem?_eq_some_iff.mp ho).1
      rw [List.getElem?_set_self hl] at e
      simp at e
    rw [List.getElem?_set_ne hmn] at e
    obtain ⟨b, f1, f2, f3⟩ := s.kel m u e
    have hab : b ≠ a := fun z => by
      subst z
      obtain ⟨h1, h2⟩ := List.getElem?_eq_some_iff.mp hc
      obtain ⟨h3, h4⟩ := List.getElem?_eq_some_iff.mp f1
      exact hmn ((List.getElem_inj s.nd).mp (h2.trans h4.symm))
    exact ⟨b, f1, f2, by rw [upd_ne hab]; exact f3⟩, fun m two g ys e => by
    have hmn : n ≠ m := fun z => by
      subst z
      have hl : n < S.length := (List.getElem?_eq_some_iff.mp ho).1
      rw [List.getElem?_set_self hl] at e
      simp at e
    rw [List.getElem?_set_ne hmn] at e
    obtain ⟨b, f1, hg⟩ := s.gel m two g ys e
    have hab : b ≠ a := fun z => by
      subst z
      obtain ⟨h1, h2⟩ := List.getElem?_eq_some_iff.mp hc
      obtain ⟨h3, h4⟩ := List.getElem?_eq_some_iff.mp f1
      exact hmn ((List.getElem_inj s.nd).mp (h2.trans h4.symm))
    exact ⟨b, f1, hg.upd hab fun c q => by rw [e3] at q; cases q⟩⟩, ⟨.refl _, List.prefix_refl _, fun c u q hn => ?_, fun c h1 h2 => absurd h1 h2, fun _ _ q => .inl q⟩⟩
  · have : c ≠ a := fun z => by subst z; rw [e2] at q; cases q
    rw [upd_ne this]; exact s.le c u q
  · by_cases hca : c = a
    · subst hca; exact ⟨_, upd_same⟩
    · rw [upd_ne hca]; exact s.there c hm'
  · by_cases hmn : n = m
    · subst hmn
      have hl : n < S.length := (List.getElem?_eq_some_iff.mp ho).1
      rw [List.getElem?_set_self hl] at e
      have e' : xs = ys := by simpa using e
      subst e'
      exact ⟨a, ws, hc, e2, upd_same, z, r⟩
    · rw [List.getElem?_set_ne hmn] at e
      obtain ⟨b, us', f1, f2, f3, f4, f5⟩ := s.cel m ys e
      have hab : b ≠ a := fun z => by
        subst z
        obtain ⟨h1, h2⟩ := List.getElem?_eq_some_iff.mp hc
        obtain ⟨h3, h4⟩ := List.getElem?_eq_some_iff.mp f1
        exact hmn ((List.getElem_inj s.nd).mp (h2.trans h4.symm))
      exact ⟨b, us', f1, f2, by rw [upd_ne hab]; exact f3, f4, f5⟩
  · have : c ≠ a := fun z => hn (z ▸ hm)
    rw [upd_ne this]; exact q
end
def pushC (n : Nat) (y : PV) (S : Sto) : Res PV := match S[n]? with
  | some (.lst xs) => if xs.length < sizeLine ∧ bel 0 y = true then .ok .non (S.set n (.lst (xs ++ [y]))) else .stuck
  | _ => .stuck
/-- o.append(e) -/
def appE (fo f : ExprD) : ExprD := fun env S => (fo env S).bind fun d S1 => match d with
  | .cell n => match S1[n]? with
    | some (.lst _) => (f env S1).bind fun y S2 => pushC n y S2
    | _ => .stuck
  | _ => .stuck
/-- a[i] = e: the value, the list, the place -/
def setC (n : Nat) (i : Int) (y : PV) (env : PEnv) (S : Sto) : Res Flow := match S[n]? with
  | some (.lst xs) => match ixP xs.length i with
    | some j => if bel 0 y = true then .ok (.nx env) (S.set n (.lst (xs.set j y))) else .stuck
    | none => .stuck
  | _ => .stuck
def setS (fo fi f : ExprD) : StmtD := fun env S => runE (f env S) env fun y S1 => runE (fo env S1) env fun d S2 => runE (fi env S2) env fun i S3 => match d, i with
  | .cell n, .int i => setC n i y env S3
  | _, _ => .stuck
section
variable {X : Cx} {W : WX} {o e i : Expr} {f fo fi : ExprD} {apos pos pos' p2 : Pos}
theorem de_app (ho : PE X o (tE X.K X.mg W fo)) (he : PE X e (tE X.K X.mg W f)) (hbase : attributeBase o "append" X.env (eval o X.env) = eval o X.env := by rfl)
    (hfew : ((backTo pos (starEach (e :: []) X.env)).all (fun x => !x.1) && (backToKw pos (keywordEach [] X.env)).all (fun x => x.1.isSome)
      && decide ((e :: []).length + ([] : List Keyword).length + (if ([] : List Keyword).isEmpty then 0 else 1) < 30)) = true := by rfl)
    (hline : (apos.endLine == pos.line) = true := by rfl) (hs : starEach (e :: []) X.env = (false, eval e X.env) :: starEach [] X.env := by rfl) (hplain : (backTo pos (starEach [] X.env)).any (·.1) = false := by rfl) :
    PE X (.Call (.Attribute o "append" apos) [e] [] pos) (tE X.K X.mg W (appE fo f)) := (pe_bm PySem.F.plainAttrs_list PySem.F.slot_list_append PySem.F.type_list_append mt_append ho (pa_cons he pa_nil hs) hbase hfew hline hs hplain).imp fun σ H Q h => by
  obtain ⟨env, F, ci, S, sr, er, h⟩ := h
  refine ⟨env, F, ci, S, sr, er, (Out.bind h).imp fun d F1 c1 S1 H1 l1 s1 h1 v1 r1 => ?_⟩
  split at h1
  · rename_i n
    split at h1
    · rename_i xs hx
      cases r1 with
      | @cell a _ ec =>
        obtain ⟨b, vs, e1, _, e3, _⟩ := s1.cel n xs hx
        rw [ec] at e1; cases e1
        refine ⟨.inl ⟨rfl, vs, .inl (.inl e3)⟩, env, F1, c1, S1, s1, er.later l1, (Out.bind h1).imp fun y F2 c2 S2 H2 l2 s2 h2 v2 r2 => ?_⟩
        unfold pushC at h2
        split at h2
        · rename_i ys hy
          split at h2
          · rename_i hz
            have ec2 := pre_get l2.pre ec
            obtain ⟨b, ws, f1, _, f3, z, rs⟩ := s2.cel n ys hy
            rw [ec2] at f1; cases f1
            obtain ⟨s3, l3⟩ := s2.write (xs := ys ++ [y]) (ws := ws ++ [v2]) ec2 hy ⟨by rw [List.length_append]; exact hz.1, by rw [bels_append, z.2]; simp [bels, hz.2]⟩ (rs.append (.cons r2 .nil))
            exact ⟨a, ws, v2, rfl, rfl, f3, by rw [← rs.length]; exact hz.1, h2 _ _ _ l3 s3 _ .non⟩
          · exact h2.elim
        · exact h2.elim
    · exact h1.elim
  · exact h1.elim
theorem ds_sub (ho : PE X o (tE X.K X.mg W fo)) (hi : PE X i (tE X.K X.mg W fi)) (he : PE X e (tE X.K X.mg W f)) (hg : PG X (.Subscript o i p2) (gSub (tE X.K X.mg W fo) (tE X.K X.mg W fi) rSetL))
    (hs : swapsWithSole [.Subscript o i p2] e pos.line X.env = pure false := by rfl) (hw : swappedStores [.Subscript o i p2] e X.env = pure none := by rfl) (h1 : (assignEach [.Subscript o i p2] X.env).map (·.2) = [assign (.Subscript o i p2) X.env] := by rfl) :
    PS X (.Assign [.Subscript o i p2] e pos) (tSX X W (setS fo fi f)) := (ps_asg he hg hs hw h1).imp fun D σ H h => by
  obtain ⟨env, F, ci, S, sr, er, h⟩ := h
  refine ⟨env, F, ci, S, sr, er, (runE_out er h).imp fun y F1 c1 S1 H1 l1 s1 h1 v1 r1 => ?_⟩
  show tE X.K X.mg W fo σ H1 (fun o H1 => tE X.K X.mg W fi σ H1 fun i H2 => rSetL o i v1 H2 fun H3 => D.nx σ H3)
  refine ⟨env, F1, c1, S1, s1, er.later l1, (runE_out (er.later l1) h1).imp fun d F2 c2 S2 H2 l2 s2 h2 v2 r2 => ?_⟩
  show tE X.K X.mg W fi σ H2 (fun i H2 => rSetL v2 i v1 H2 fun H3 => D.nx σ H3)
  refine ⟨env, F2, c2, S2, s2, (er.later l1).later l2, (runE_out ((er.later l1).later l2) h2).imp fun k F3 c3 S3 H3 l3 s3 h3 v3 r3 => ?_⟩
  split at h3
  · rename_i n j
    cases r3
    unfold setC at h3
    split at h3
    · rename_i xs hx
      split at h3
      · rename_i m hm
        split at h3
        · rename_i hb
          have r2' := l3.rp r2
          cases r2' with
          | @cell a _ ec =>
            obtain ⟨b, vs, e1, _, e3, z, rs⟩ := s3.cel n xs hx
            rw [ec] at e1; cases e1
            obtain ⟨s4, l4⟩ := s3.write (xs := xs.set m y) (ws := vs.set m v1) ec hx ⟨by simpa using z.1, bels_set 0 xs m y z.2 hb⟩ (rs.set m (l3.rp (l2.rp r1)))
            exact ⟨a, vs, j, m, rfl, rfl, e3, by rw [← rs.length]; exact hm, h3 _ _ _ l4 s4 σ ((((er.later l1).later l2).later l3).later l4)⟩
        · exact h3.elim
      · exact h3.elim
    · exact h3.elim
  · exact h3.elim
end

/-! ### sorted -/
def pvLe (a b : PV) : Bool := PySem.W.dataLe false toD a b
def SortOk (xs : List PV) : Prop := (∀ x ∈ xs, chk 60 x = true) ∧ PySem.W.AllAlike (xs.map toD) ∧ PySem.W.Sortable (xs.map toD)
open Classical in
noncomputable def sortedB : List PV → Sto → Res PV := fun xs S => match xs with
  | [d] => match lstOf S d with
    | some ys => if SortOk ys then .ok (.lst (ys.mergeSort pvLe)) S else .stuck
    | none => .stuck
  | _ => .stuck
section
variable {X : Cx} {E : XK}
end
end LH

/-! LI: sorted. -/
namespace LH
open PySem PySem.Spec PyProof.Rows L2
section
variable {X : Cx} {E : XK}
end
end LH

/-! LJ: sorted(set(xs)), xs fewer than 64 tuples of ints. -/
namespace LH
open PySem PySem.Spec PyProof.Rows L2
def encT (ns : List Int) : PV := .tup (ns.map .int)
def keyT : PV → List Int
  | .tup ds => (asInts ds).getD []
  | _ => []
def isT (d : Nat) (y : PV) : Prop := ∃ ns : List Int, y = encT ns ∧ ns.length = d ∧ ∀ n ∈ ns, 0 ≤ n
/-- neighbours that are alike, once -/
def adjP : List PV → List PV
  | [] => []
  | [x] => [x]
  | x :: y :: r => if peq x y = true then adjP (y :: r) else x :: adjP (y :: r)
def adjL : List (List Int) → List (List Int)
  | [] => []
  | [x] => [x]
  | x :: y :: r => if x = y then adjL (y :: r) else x :: adjL (y :: r)
def SetOk (ys : List PV) : Prop := ys.length < 64 ∧ ∃ d, 1 ≤ d ∧ ∀ y ∈ ys, isT d y
open Classical in
noncomputable def setSortV : PV → Sto → Res PV := fun x S => match lstOf S x with
  | some ys => if SetOk ys then .ok (.lst (adjP (ys.mergeSort pvLe))) S else .stuck
  | none => .stuck
section
variable {X : Cx} {W : WX} {e : Expr} {f : ExprD} {p p2 pos pos2 : Pos}
end
end LH

/-! LK: stars in displays, parallel assignment, while. -/
namespace LH
open PySem PySem.Spec PyProof.Rows L2

def starA (f : ExprD) (r : ArgsD) : ArgsD := fun env S => (f env S).bind fun d S1 => match seqOf S1 d with
  | some xs => (r env S1).bind fun ys S2 => .ok (xs ++ ys) S2
  | none => .stuck
section
variable {X : Cx} {W : WX} {e : Expr} {es : List Expr} {f : ExprD} {r : ArgsD} {p : Pos}
end

/-! ### a, b = x, y -/
def runA (r : Res (List PV)) (env : PEnv) (g : List PV → Sto → Res Flow) : Res Flow := match r with
  | .ok d S => g d S
  | .exc x S => .ok (.ex x env) S
  | .stuck => .stuck
def par2S (i j : Nat) (r : ArgsD) : StmtD := fun env S => runA (r env S) env fun ds S1 => match ds with
  | [a, b] => .ok (.nx ((env.set i (some a)).set j (some b))) S1
  | _ => .stuck
def par3S (i j l : Nat) (r : ArgsD) : StmtD := fun env S => runA (r env S) env fun ds S1 => match ds with
  | [a, b, c] => .ok (.nx (((env.set i (some a)).set j (some b)).set l (some c))) S1
  | _ => .stuck
section
variable {X : Cx} {W : WX} {r : ArgsD}
theorem runA_out {K : PySem.W.Frag} {mg : Str → Option Value} {F : Hp} {ci : List Addr} {H : Hp} {D : Ends} {r : Res (List PV)} {env : PEnv} {g : List PV → Sto → Res Flow} {σ : St} (er : ER K F ci env σ)
    (h : Out K (fun _ _ _ _ _ => False) F ci H (runA r env g) (SW K mg W D)) : Out K (Zf K mg (WE W σ)) F ci H r fun d F1 c1 S1 H1 => Out K (fun _ _ _ _ _ => False) F1 c1 H1 (g d S1) (SW K mg W D) := by
  cases r with
  | ok d S' => exact fun F1 c1 H1 l1 s1 => Out.later h l1
  | exc x S' => exact fun F1 c1 H1 l1 s1 cls d xr => h F1 c1 H1 l1 s1 σ (er.later l1) cls d xr
  | stuck => exact h
theorem ds_par2 (i j : Nat) {x y : Str} {a b : Expr} {px py pt pos : Pos} {kt k2 pt2} (hN : X.N.Nodup) (ha : PA X [a, b] (tA X.K X.mg W r)) (hc : X.calm = true := by rfl) (hi : X.N[i]? = some x := by rfl) (hj : X.N[j]? = some y := by rfl) (hij : i ≠ j := by decide)
    (hx : X.env.scope.names.lookup x = some .local := by rfl) (hy : X.env.scope.names.lookup y = some .local := by rfl)
    (hw : swappedStores [.Tuple [.Name x px, .Name y py] kt pt] (.Tuple [a, b] k2 pt2) X.env = pure (some [x, y]) := by rfl)
    (hs : swapsWithSole [.Tuple [.Name x px, .Name y py] kt pt] (.Tuple [a, b] k2 pt2) pos.line X.env = pure false := by rfl) :
    PS X (.Assign [.Tuple [.Name x px, .Name y py] kt pt] (.Tuple [a, b] k2 pt2) pos) (tSX X W (par2S i j r)) := (ps_par hc hN hi hj hij hx hy ha hw hs).imp fun D σ H h => by
  obtain ⟨env, F, ci, S, sr, er, h⟩ := h
  refine ⟨env, F, ci, S, sr, er, (runA_out er h).imp fun ds F1 c1 S1 H1 l1 s1 h1 vs rs => ?_⟩
  split at h1
  · obtain ⟨v, u, rfl, r1, r2⟩ := rps2 rs
    exact ⟨v, u, rfl, h1.here s1 _ (((er.later l1).set i r1).set j r2)⟩
  · exact h1.elim
end

/-! ### while -/
theorem whileN_succ (t : TestD) (b : StmtD) (n : Nat) (env : PEnv) (S : Sto) : whileN t b (n + 1) env S = runT (t env S) env fun c S1 => if c = true then (match b env S1 with
      | .ok (.nx env') S2 => whileN t b n env' S2
      | .ok (.ct env') S2 => whileN t b n env' S2
      | .ok (.bk env') S2 => .ok (.nx env') S2
      | r => r) else .ok (.nx env) S1 := rfl
theorem whileN_up {t : TestD} {b : StmtD} : ∀ (n : Nat) (env : PEnv) (S : Sto), whileN t b n env S ≠ .stuck → whileN t b (n + 1) env S = whileN t b n env S
  | 0, env, S, h => absurd rfl h
  | n + 1, env, S, h => by
    rw [whileN_succ] at h ⊢
    rw [whileN_succ]
    cases ht : t env S with
    | exc x S1 => rfl
    | stuck => rfl
    | ok c S1 =>
      rw [ht] at h
      simp only [runT] at h ⊢
      cases c with
      | false => rfl
      | true =>
        simp only [if_true] at h ⊢
        cases hb : b env S1 with
        | exc x S2 => rfl
        | stuck => rfl
        | ok fl S2 =>
          rw [hb] at h
          cases fl with
          | nx e => exact whileN_up n e S2 h
          | ct e => exact whileN_up n e S2 h
          | bk e => rfl
          | rt d => rfl
          | ex x e => rfl
theorem whileN_le {t : TestD} {b : StmtD} {env : PEnv} {S : Sto} {n m : Nat} (h : whileN t b n env S ≠ .stuck) (hm : n ≤ m) : whileN t b m env S = whileN t b n env S := by
  induction hm with
  | refl => rfl
  | step _ ih => rw [whileN_up _ _ _ (by rw [ih]; exact h), ih]
open Classical in
noncomputable def whileFuel (t : TestD) (b : StmtD) (env : PEnv) (S : Sto) : Nat := if h : ∃ n, whileN t b n env S ≠ .stuck then h.choose else 0
noncomputable def whileS (t : TestD) (b : StmtD) : StmtD := fun env S => whileN t b (whileFuel t b env S) env S
theorem whileS_of {t : TestD} {b : StmtD} {env : PEnv} {S : Sto} {n : Nat} (h : whileN t b n env S ≠ .stuck) : whileS t b env S = whileN t b n env S := by
  have hx : ∃ n, whileN t b n env S ≠ .stuck := ⟨n, h⟩
  have hc : whileN t b hx.choose env S ≠ .stuck := hx.choose_spec
  have e : whileFuel t b env S = hx.choose := by unfold whileFuel; rw [dif_pos hx]
  unfold whileS
  rw [e]
  rcases Nat.le_total n hx.choose with hl | hl
  · exact whileN_le h hl
  · exact (whileN_le hc hl).symm
theorem whileS_stuck {t : TestD} {b : StmtD} {env : PEnv} {S : Sto} (h : ∀ n, whileN t b n env S = .stuck) : whileS t b env S = .stuck := h _
/-- one turn of a while -/
theorem whileS_turn (t : TestD) (b : StmtD) (env : PEnv) (S : Sto) : whileS t b env S = runT (t env S) env fun c S1 => if c = true then (match b env S1 with
      | .ok (.nx env') S2 => whileS t b env' S2
      | .ok (.ct env') S2 => whileS t b env' S2
      | .ok (.bk env') S2 => .ok (.nx env') S2
      | r => r) else .ok (.nx env) S1 := by
  by_cases hx : ∃ n, whileN t b n env S ≠ .stuck
  · obtain ⟨n, hn⟩ := hx
    rw [whileS_of hn]
    cases n with
    | zero => exact absurd rfl hn
    | succ n =>
      rw [whileN_succ] at hn ⊢
      cases ht : t env S with
      | exc x S1 => rfl
      | stuck => rfl
      | ok c S1 =>
        rw [ht] at hn
        simp only [runT] at hn ⊢
        cases c with
        | false => rfl
        | true =>
          simp only [if_true] at hn ⊢
          cases hb : b env S1 with
          | exc x S2 => rfl
          | stuck => rfl
          | ok fl S2 =>
            rw [hb] at hn
            cases fl with
            | nx e => exact (whileS_of hn).symm
            | ct e => exact (whileS_of hn).symm
            | bk e => rfl
            | rt d => rfl
            | ex x e => rfl
  · have hs : ∀ n, whileN t b n env S = .stuck := fun n => Classical.byContradiction fun h => hx ⟨n, h⟩
    rw [whileS_stuck hs]
    cases ht : t env S with
    | exc x S1 => have := hs 1; rw [whileN_succ, ht] at this; cases this
    | stuck => rfl
    | ok c S1 =>
      simp only [runT]
      cases c with
      | false => have := hs 1; rw [whileN_succ, ht] at this; simp [runT] at this
      | true =>
        simp only [if_true]
        have hn : ∀ n, (match b env S1 with
          | .ok (.nx env') S2 => whileN t b n env' S2
          | .ok (.ct env') S2 => whileN t b n env' S2
          | .ok (.bk env') S2 => .ok (.nx env') S2
          | r => r) = .stuck := fun n => by have := hs (n + 1); rw [whileN_succ, ht] at this; simpa [runT] using this
        cases hb : b env S1 with
        | exc x S2 => have := hn 0; rw [hb] at this; cases this
        | stuck => rfl
        | ok fl S2 =>
          rw [hb] at hn
          cases fl with
          | nx e => exact (whileS_stuck hn).symm
          | ct e => exact (whileS_stuck hn).symm
          | bk e => exact absurd (hn 0) (by simp)
          | rt d => exact absurd (hn 0) (by simp)
          | ex x e => exact absurd (hn 0) (by simp)
theorem ds_whileS {X : Cx} {W : WX} {c : Expr} {body : List Stmt} {pos : Pos} {t : TestD} {p : StmtD} (hp : PassesOwn (model X.prog X.w) X.A X.env X.xe) (hc : PT X c (tT X.K X.mg W t)) (hb : PSs X body (tSX X W p)) : PS X (.While c body [] pos) (tSX X W (whileS t p)) := ds_while (whileFuel t p) hp hc hb
end LH

/-! LL: a def's own mutable lists are forgotten at its end. -/
namespace LH
open PySem PySem.Spec PyProof.Rows L2

/-- the own mutable lists forgotten; one that is handed back is frozen -/
def exitT (f : FnDen) : FnDen := fun ds S => match f ds S with
  | .ok d S' => match d with
    | .cell n => if n < S.length then .ok (.cell n) (S'.take S.length) else (match S'[n]? with
      | some (.lst xs) => .ok (.lst xs) (S'.take S.length)
      | _ => .stuck)
    | d => if bel S.length d = true then .ok d (S'.take S.length) else .stuck
  | .exc x S' => if x.fields.isEmpty = true then .exc x (S'.take S.length) else .stuck
  | .stuck => .stuck
/-- .. one that is handed back stays a mutable one -/
def exitN (f : FnDen) : FnDen := fun ds S => match f ds S with
  | .ok (.cell n) S' => if n < S.length then .ok (.cell n) (S'.take S.length) else (match S'[n]? with
      | some (.lst xs) => .ok (.cell S.length) (S'.take S.length ++ [.lst xs])
      | _ => .stuck)
  | .exc x S' => if x.fields.isEmpty = true then .exc x (S'.take S.length) else .stuck
  | _ => .stuck
section
variable {K : PySem.W.Frag} {F F' : Hp} {ci ci' : List Addr} {S S' : Sto} {H H' : Hp}
theorem pre_down {l l' : List Addr} (p : l <+: l') : ∀ n, n < l.length → ∀ a, l'[n]? = some a → l[n]? = some a := fun n hn a h => by
  obtain ⟨t, rfl⟩ := p
  rw [List.getElem?_append_left hn] at h; exact h
theorem GelAt.cut {a : Addr} {two : Bool} {g : Addr → List V → HO} {xs : List PV} (h : GelAt K F ci' H a two g xs) (p : ci <+: ci') : GelAt K F ci H a two g xs := by
  obtain ⟨dx, vs, h1, h2, h3, h4, h5⟩ := h
  refine ⟨dx, vs, h1, h2, h3, h4.down (m := 0) (fun k hk => absurd hk (Nat.not_lt_zero k)) h3.2, fun t => ?_⟩
  obtain ⟨k1, k2, k3⟩ := h5 t
  refine ⟨k1, fun hm => k2 ?_, k3⟩
  obtain ⟨t, rfl⟩ := p
  exact List.mem_append_left _ hm
theorem GelAt.push {a p : Addr} {two : Bool} {g : Addr → List V → HO} {xs : List PV} (h : GelAt K F ci H a two g xs) (hp : ∀ b, H p ≠ some (.own b)) : GelAt K F (ci ++ [p]) H a two g xs := by
  obtain ⟨dx, vs, h1, h2, h3, h4, h5⟩ := h
  refine ⟨dx, vs, h1, h2, h3, h4.mono (.refl _) (List.prefix_append _ _), fun t => ?_⟩
  obtain ⟨k1, k2, k3⟩ := h5 t
  refine ⟨k1, fun hm => ?_, k3⟩
  rcases List.mem_append.mp hm with hm | hm
  · exact k2 hm
  · have : dx = p := by simpa using hm
    subst this
    exact hp _ k3
/-- the younger mutable things forgotten -/
theorem SR.cut (s : SR K F ci S H) (s' : SR K F' ci' S' H') (l : Later F ci H F' ci' H') : SR K F' ci (S'.take S.length) H' ∧ Later F ci H F' ci H' := by
  have hl : ci.length ≤ ci'.length := by obtain ⟨t, rfl⟩ := l.pre; simp
  have sub : ∀ a, a ∈ ci → a ∈ ci' := fun a h => by obtain ⟨t, rfl⟩ := l.pre; exact List.mem_append_left _ h
  refine ⟨⟨s'.le, by rw [List.length_take, ← s.len, ← s'.len]; omega, s.nd, fun a h => s'.there a (sub a h), fun n xs e => ?_, fun n u e => by
    have hn : n < S.length := by
      have := (List.getElem?_eq_some_iff.mp e).1
      rw [List.length_take] at this; omega
    rw [List.getElem?_take_of_lt hn] at e
    obtain ⟨a, e1, e2, e3⟩ := s'.kel n u e
    exact ⟨a, pre_down l.pre n (by rw [s.len]; exact hn) a e1, e2, e3⟩, fun n two g xs e => by
    have hn : n < S.length := by
      have := (List.getElem?_eq_some_iff.mp e).1
      rw [List.length_take] at this; omega
    rw [List.getElem?_take_of_lt hn] at e
    obtain ⟨a, e1, hg⟩ := s'.gel n two g xs e
    exact ⟨a, pre_down l.pre n (by rw [s.len]; exact hn) a e1, hg.cut l.pre⟩⟩, ⟨l.ext, List.prefix_refl _, l.keep, fun a h n => absurd h n, l.fz⟩⟩
  have hn : n < S.length := by
    have := (List.getElem?_eq_some_iff.mp e).1
    rw [List.length_take] at this; omega
  rw [List.getElem?_take_of_lt hn] at e
  obtain ⟨a, vs, e1, e2, e3, z, rs⟩ := s'.cel n xs e
  have hn' : n < ci.length := by rw [s.len]; exact hn
  exact ⟨a, vs, pre_down l.pre n hn' a e1, e2, e3, z, rs.down (m := 0) (fun k hk => absurd hk (Nat.not_lt_zero k)) z.2⟩
/-- .. one of them frozen -/
theorem SR.froze (s : SR K F ci S H) (s' : SR K F' ci' S' H') (l : Later F ci H F' ci' H') {n : Nat} {xs : List PV} (hn : ¬ n < S.length) (e : S'[n]? = some (.lst xs)) :
    ∃ F'' a, ci'[n]? = some a ∧ SR K F'' ci (S'.take S.length) H' ∧ Later F ci H F'' ci H' ∧ Rp K F'' ci (.lst xs) (.ref a) := by
  obtain ⟨a, vs, e1, e2, e3, z, rs⟩ := s'.cel n xs e
  obtain ⟨s2, l2⟩ := s.cut s' l
  have hx : Ext F' (upd F' a (.lst vs)) := ext_new e2
  have hac : a ∉ ci := fun hm => by
    obtain ⟨m, hm'⟩ := List.getElem?_of_mem hm
    have hm2 := pre_get l.pre hm'
    obtain ⟨h1, h2⟩ := List.getElem?_eq_some_iff.mp e1
    obtain ⟨h3, h4⟩ := List.getElem?_eq_some_iff.mp hm2
    have : n = m := (List.getElem_inj s'.nd).mp (h2.trans h4.symm)
    subst this
    have := (List.getElem?_eq_some_iff.mp hm').1
    rw [s.len] at this
    exact hn this
  have hnew : H a = none := l.new a (List.mem_of_getElem? e1) hac
  refine ⟨upd F' a (.lst vs), a, e1, ⟨fun b u q => ?_, s2.len, s2.nd, s2.there, fun k ys q => ?_, fun k u q => by
    obtain ⟨b, f1, f2, f3⟩ := s2.kel k u q
    have hb : b ≠ a := fun z => hac (z ▸ List.mem_of_getElem? f1)
    exact ⟨b, f1, by rw [upd_ne hb]; exact f2, f3⟩, fun k two g ys q => by
    obtain ⟨b, f1, hg⟩ := s2.gel k two g ys q
    have hb : b ≠ a := fun z => hac (z ▸ List.mem_of_getElem? f1)
    exact ⟨b, f1, hg.frz hb e2 fun c q => by rw [e3] at q; cases q⟩⟩, ⟨l2.ext.trans hx, l2.pre, l2.keep, l2.new, fun b u q => ?_⟩, .lst upd_same z.1 ((rs.down (m := 0) (fun k hk => absurd hk (Nat.not_lt_zero k)) z.2).mono hx (List.prefix_refl _))⟩
  · by_cases hb : b = a
    · subst hb; rw [upd_same] at q; cases q; exact e3
    · rw [upd_ne hb] at q; exact s2.le b u q
  · obtain ⟨b, ws, f1, f2, f3, f4, f5⟩ := s2.cel k ys q
    have hb : b ≠ a := fun z => hac (z ▸ List.mem_of_getElem? f1)
    exact ⟨b, ws, f1, by rw [upd_ne hb]; exact f2, f3, f4, f5.mono hx (List.prefix_refl _)⟩
  · by_cases hb : b = a
    · subst hb; exact .inr (.inr hnew)
    · rw [upd_ne hb] at q; exact l2.fz b u q
/-- .. one of them kept -/
theorem SR.kept1 (s : SR K F ci S H) (s' : SR K F' ci' S' H') (l : Later F ci H F' ci' H') {n : Nat} {xs : List PV} (hn : ¬ n < S.length) (e : S'[n]? = some (.lst xs)) :
    ∃ a, ci'[n]? = some a ∧ SR K F' (ci ++ [a]) (S'.take S.length ++ [.lst xs]) H' ∧ Later F ci H F' (ci ++ [a]) H' ∧ (ci ++ [a])[S.length]? = some a := by
  obtain ⟨a, vs, e1, e2, e3, z, rs⟩ := s'.cel n xs e
  obtain ⟨s2, l2⟩ := s.cut s' l
  have hac : a ∉ ci := fun hm => by
    obtain ⟨m, hm'⟩ := List.getElem?_of_mem hm
    have hm2 := pre_get l.pre hm'
    obtain ⟨h1, h2⟩ := List.getElem?_eq_some_iff.mp e1
    obtain ⟨h3, h4⟩ := List.getElem?_eq_some_iff.mp hm2
    have : n = m := (List.getElem_inj s'.nd).mp (h2.trans h4.symm)
    subst this
    have := (List.getElem?_eq_some_iff.mp hm').1
    rw [s.len] at this
    exact hn this
  have hnew : H a = none := l.new a (List.mem_of_getElem? e1) hac
  have hp : ci <+: ci ++ [a] := List.prefix_append _ _
  have hlen : (S'.take S.length).length = S.length := by rw [← s2.len, s.len]
  have hg : (ci ++ [a])[S.length]? = some a := by rw [← s.len, List.getElem?_append_right (Nat.le_refl _), Nat.sub_self]; rfl
  refine ⟨a, e1, ⟨s2.le, by rw [List.length_append, List.length_append, s2.len]; rfl, ?_, fun b hm => ?_, fun k ys q => ?_, fun k u q => by
    by_cases hk : k < S.length
    · rw [List.getElem?_append_left (by rw [hlen]; exact hk)] at q
      obtain ⟨b, f1, f2, f3⟩ := s2.kel k u q
      exact ⟨b, pre_get hp f1, f2, f3⟩
    · have hk' : k = S.length := by
        have := (List.getElem?_eq_some_iff.mp q).1
        rw [List.length_append, hlen] at this
        simp at this; omega
      subst hk'
      rw [List.getElem?_append_right (by rw [hlen]; exact Nat.le_refl _), hlen, Nat.sub_self] at q
      simp at q, fun k two g ys q => by
    by_cases hk : k < S.length
    · rw [List.getElem?_append_left (by rw [hlen]; exact hk)] at q
      obtain ⟨b, f1, hgl⟩ := s2.gel k two g ys q
      exact ⟨b, pre_get hp f1, hgl.push fun c q => by rw [e3] at q; cases q⟩
    · have hk' : k = S.length := by
        have := (List.getElem?_eq_some_iff.mp q).1
        rw [List.length_append, hlen] at this
        simp at this; omega
      subst hk'
      rw [List.getElem?_append_right (by rw [hlen]; exact Nat.le_refl _), hlen, Nat.sub_self] at q
      simp at q⟩, ⟨l2.ext, hp, l2.keep, fun b hm hn' => ?_, l2.fz⟩, hg⟩
  · rw [List.nodup_append]
    refine ⟨s.nd, by simp, fun b hb c hc => ?_⟩
    have : c = a := by simpa using hc
    subst this
    rintro rfl
    exact hac hb
  · rcases List.mem_append.mp hm with hm | hm
    · exact s2.there b hm
    · have : b = a := by simpa using hm
      subst this
      exact ⟨_, e3⟩
  · by_cases hk : k < S.length
    · rw [List.getElem?_append_left (by rw [hlen]; exact hk)] at q
      obtain ⟨b, ws, f1, f2, f3, f4, f5⟩ := s2.cel k ys q
      exact ⟨b, ws, pre_get hp f1, f2, f3, f4, f5.mono (.refl _) hp⟩
    · have hk' : k = S.length := by
        have := (List.getElem?_eq_some_iff.mp q).1
        rw [List.length_append, hlen] at this
        simp at this; omega
      subst hk'
      rw [List.getElem?_append_right (by rw [hlen]; exact Nat.le_refl _), hlen, Nat.sub_self] at q
      have q' : ys = xs := by simpa using q.symm
      subst q'
      exact ⟨a, vs, hg, e2, e3, z, rs.down (m := 0) (fun k hk => absurd hk (Nat.not_lt_zero k)) z.2⟩
  · rcases List.mem_append.mp hm with hm | hm
    · exact absurd hm hn'
    · have : b = a := by simpa using hm
      subst this; exact hnew
theorem xrep_down {mg : Str → Option Value} {x : Exc} {cls : Value} {d : Option Addr} (h : x.fields = []) (r : XRep K mg F ci x cls d) : XRep K mg F ci' x cls d := by
  obtain ⟨C, h1, h2, h3⟩ := r
  refine ⟨C, h1, h2, ?_⟩
  rcases h3 with h3 | ⟨h4, _⟩
  · exact .inl h3
  · exact absurd h h4
end
theorem out_exitT {K : PySem.W.Frag} {mg : Str → Option Value} {E : XK} {F : Hp} {ci : List Addr} {S : Sto} {H : Hp} {f : FnDen} {ds : List PV} {Q : VK} (s : SR K F ci S H)
    (h : Out K (Zf K mg E) F ci H (exitT f ds S) fun d F' ci' S' H' => ∀ v, Rp K F' ci' d v → Q v H') : Out K (Zf K mg E) F ci H (f ds S) fun d F' ci' S' H' => ∀ v, Rp K F' ci' d v → Q v H' := by
  unfold exitT at h
  cases hf : f ds S with
  | stuck => rw [hf] at h; exact h
  | exc x S' =>
    rw [hf] at h
    dsimp only at h
    split at h
    · rename_i hx
      have hx' : x.fields = [] := by simpa using hx
      intro F' ci' H' l s' cls d xr
      obtain ⟨s2, l2⟩ := s.cut s' l
      exact h F' ci H' l2 s2 cls d (xrep_down hx' xr)
    · exact h.elim
  | ok d S' =>
    rw [hf] at h
    intro F' ci' H' l s' v r
    obtain ⟨s2, l2⟩ := s.cut s' l
    dsimp only at h
    split at h
    · rename_i n
      split at h
      · rename_i hn
        refine h F' ci H' l2 s2 v ?_
        cases r with
        | cell e => exact .cell (pre_down l.pre n (by rw [s.len]; exact hn) _ e)
      · rename_i hn
        split at h
        · rename_i xs e
          obtain ⟨F'', a, e1, s3, l3, r3⟩ := s.froze s' l hn e
          cases r with
          | cell e' => rw [e1] at e'; cases e'; exact h F'' ci H' l3 s3 _ r3
        · exact h.elim
    · split at h
      · rename_i hb
        exact h F' ci H' l2 s2 v (r.down (fun n hn a e => pre_down l.pre n (by rw [s.len]; exact hn) a e) hb)
      · exact h.elim
theorem out_exitN {K : PySem.W.Frag} {mg : Str → Option Value} {E : XK} {F : Hp} {ci : List Addr} {S : Sto} {H : Hp} {f : FnDen} {ds : List PV} {Q : VK} (s : SR K F ci S H)
    (h : Out K (Zf K mg E) F ci H (exitN f ds S) fun d F' ci' S' H' => ∀ v, Rp K F' ci' d v → Q v H') : Out K (Zf K mg E) F ci H (f ds S) fun d F' ci' S' H' => ∀ v, Rp K F' ci' d v → Q v H' := by
  unfold exitN at h
  cases hf : f ds S with
  | stuck => rw [hf] at h; exact h
  | exc x S' =>
    rw [hf] at h
    dsimp only at h
    split at h
    · rename_i hx
      have hx' : x.fields = [] := by simpa using hx
      intro F' ci' H' l s' cls d xr
      obtain ⟨s2, l2⟩ := s.cut s' l
      exact h F' ci H' l2 s2 cls d (xrep_down hx' xr)
    · exact h.elim
  | ok d S' =>
    rw [hf] at h
    intro F' ci' H' l s' v r
    obtain ⟨s2, l2⟩ := s.cut s' l
    cases d with
    | cell n =>
      dsimp only at h
      split at h
      · rename_i hn
        refine h F' ci H' l2 s2 v ?_
        cases r with
        | cell e => exact .cell (pre_down l.pre n (by rw [s.len]; exact hn) _ e)
      · rename_i hn
        split at h
        · rename_i xs e
          obtain ⟨a, e1, s3, l3, g3⟩ := s.kept1 s' l hn e
          cases r with
          | cell e' => rw [e1] at e'; cases e'; exact h F' _ H' l3 s3 _ (.cell g3)
        · exact h.elim
    | _ => exact h.elim
section
variable {P : Program} {w : World} {K : PySem.W.Frag} {mg : Str → Option Value} {base : Heap} {CX : CXT} {k : Nat} {fa : Addr} {fd : FuncData} {ps : List Str} {n : Nat} {f : FnDen}
theorem fn_exitT (h : FnOk P w K mg base CX k fa fd ps (spF K mg n f)) : FnOk P w K mg base CX k fa fd ps (spF K mg n (exitT f)) := h.imp fun vs H Q E q => by
  obtain ⟨hl, F, ci, S, ds, sr, rs, q⟩ := q
  exact ⟨hl, F, ci, S, ds, sr, rs, out_exitT sr q⟩
theorem fn_exitN (h : FnOk P w K mg base CX k fa fd ps (spF K mg n f)) : FnOk P w K mg base CX k fa fd ps (spF K mg n (exitN f)) := h.imp fun vs H Q E q => by
  obtain ⟨hl, F, ci, S, ds, sr, rs, q⟩ := q
  exact ⟨hl, F, ci, S, ds, sr, rs, out_exitN sr q⟩
end
end LH

/-! LM: calls with keywords, range downwards, a module's tuple, a hook with one more Bool. -/
namespace L2
open PySem PySem.Spec PyProof.Rows
theorem PK.imp {X : Cx} {e : List Keyword} {t t' : TA} (h : PK X e t) (i : ∀ σ H Q, t' σ H Q → t σ H Q) : PK X e t' := ⟨fun pos pins s σ H Q I q => h.run pos pins s σ H Q I (i σ H Q q)⟩
end L2
namespace LH
open PySem PySem.Spec PyProof.Rows L2

/-! ### keywords -/
def permG {α : Type} (pm : List Nat) (us ws : List α) : List α := pm.filterMap fun i => (us ++ ws)[i]?
theorem permG_len {α : Type} {us ws : List α} : ∀ {pm : List Nat}, (pm.all fun i => decide (i < us.length + ws.length)) = true → (permG pm us ws).length = pm.length
  | [], _ => rfl
  | i :: pm, h => by
    simp only [List.all_cons, Bool.and_eq_true, decide_eq_true_eq] at h
    have hi : i < (us ++ ws).length := by rw [List.length_append]; exact h.1
    unfold permG
    rw [List.filterMap_cons, List.getElem?_eq_getElem hi]
    simp only [List.length_cons]
    exact congrArg (· + 1) (permG_len (pm := pm) h.2)
theorem permG_vals {vs zs : List V} {us ws : List Value} (r : Vals vs us) (q : Vals zs ws) : ∀ pm : List Nat, Vals (permG pm vs zs) (permG pm us ws)
  | [] => .nil
  | i :: pm => by
    have ih := permG_vals r q pm
    have ra := r.append q
    unfold permG at ih ⊢
    rw [List.filterMap_cons, List.filterMap_cons]
    cases e : (vs ++ zs)[i]? with
    | none => rw [ra.none_of e]; exact ih
    | some x =>
      obtain ⟨u, eu, ru⟩ := ra.get e
      rw [eu]
      exact .cons ru ih
theorem permG_rps {K : PySem.W.Frag} {F : Hp} {ci : List Addr} {ds es : List PV} {vs zs : List V} (r : Rps K F ci ds vs) (q : Rps K F ci es zs) : ∀ pm : List Nat, Rps K F ci (permG pm ds es) (permG pm vs zs)
  | [] => .nil
  | i :: pm => by
    have ih := permG_rps r q pm
    have ra := r.append q
    unfold permG at ih ⊢
    rw [List.filterMap_cons, List.filterMap_cons]
    cases e : (ds ++ es)[i]? with
    | none =>
      have : (vs ++ zs)[i]? = none := by
        rw [List.getElem?_eq_none_iff] at e ⊢
        rw [← ra.length]; exact e
      rw [this]; exact ih
    | some x =>
      obtain ⟨u, eu, ru⟩ := ra.get e
      rw [eu]
      exact .cons ru ih
structure KwB (K : PySem.W.Frag) (fd : FuncData) (ps ks : List Str) (n : Nat) (pm : List Nat) : Prop where
  to : ∀ (s : Shared) (us ws : List Value), K.In s.heap → us.length = n → ws.length = ks.length → BindsTo s fd ⟨us, ks.zip ws⟩ (ps.zip (permG pm us ws))
theorem kw_of {K : PySem.W.Frag} {x qual : Str} {params : Arguments} {body : List Stmt} {scope : Scope} {f : Addr} {fd : FuncData} {ps ks : List Str} {n : Nat} {pm : List Nat} (F : FunD K x qual params body scope [] [] f fd)
    (h : ∀ (kV doc pm' : Value) (an : Option Addr) (cdv ct : Value) (us ws : List Value), us.length = n → ws.length = ks.length → bindArgs (PySem.W.fnOf x qual params body scope .none kV doc pm' an cdv ct) ⟨us, ks.zip ws⟩ = pure (ps.zip (permG pm us ws))) : KwB K fd ps ks n pm := by
  obtain ⟨oc, od, dV, kV, doc, pm', an, cdv, ct, osl, rfl, lk, hcd, hD, hK⟩ := F.ex
  rcases hD with ⟨_, rfl⟩ | ⟨e, _⟩
  · exact ⟨fun s us ws _ l1 l2 => .of_eq (h kV doc pm' an cdv ct us ws l1 l2)⟩
  · exact absurd rfl e
structure CalleeK (P : Program) (w : World) (K : PySem.W.Frag) (mg : Str → Option Value) (base : Heap) (k : Nat) (x : Str) (ps ks : List Str) (n : Nat) (pm : List Nat) (f : FnDen) : Prop where
  ex : ∃ fa fd, FnOk P w K mg base (L2.CX P w) k fa fd ps (spF K mg ps.length f) ∧ mg x = some (.ref fa) ∧ PySem.W.keepIn K (.ref fa) = true ∧ KwB K fd ps ks n pm
section
variable {X : Cx} {W : WX} {k j n : Nat} {x : Str} {ps ks : List Str} {pm : List Nat} {f : FnDen} {fe : ExprD} {e : Expr} {es : List Expr} {kws : List Keyword} {r rk : ArgsD} {p pos kpos : Pos} {nm : Option Str}
theorem dk_nil : PK X [] (tA X.K X.mg W nilA) := PK.imp pk_nil fun σ H Q h => by
  obtain ⟨env, F, ci, S, sr, er, h⟩ := h
  exact h.here sr [] .nil
theorem dk_cons (ha : PE X e (tE X.K X.mg W fe)) (hr : PK X kws (tA X.K X.mg W r)) : PK X (⟨nm, e, kpos⟩ :: kws) (tA X.K X.mg W (consA fe r)) := PK.imp (pk_cons ha hr) fun σ H Q h => by
  obtain ⟨env, F, ci, S, sr, er, h⟩ := h
  exact ⟨env, F, ci, S, sr, er, (Out.bind h).imp fun dx F1 c1 S1 H1 l1 s1 h1 v1 r1 => ⟨env, F1, c1, S1, s1, er.later l1, (Out.bind h1).imp fun ds F2 c2 S2 H2 l2 s2 h2 vs rs => h2.here s2 (v1 :: vs) (.cons (l2.rp r1) rs)⟩⟩
def callKE (f : FnDen) (pm : List Nat) (a ka : ArgsD) : ExprD := fun env S => (a env S).bind fun xs S1 => (ka env S1).bind fun zs S2 => f (permG pm xs zs) S2
theorem run_fnKD {pins : List (Addr × Obj)} {CX : CXT} {fa : Addr} {fd : FuncData} {sp : Sp} {E : L2.St → XK} {σ : L2.St} {H : Hp} {s : Shared} {Q : VK} {us ws : List Value} {vs zs : List V} (F : FnOk X.prog X.w X.K X.mg X.base CX k fa fd ps sp) (hr : Room k X.A) (hb : KwB X.K fd ps ks n pm) (hx : PassesAt CX X σ (E σ))
    (I : Inv X pins σ H s) (r : Vals vs us) (q : Vals zs ws) (hn : vs.length = n) (hz : zs.length = ks.length) (h : sp (permG pm vs zs) H Q (E σ)) : wpAny (model X.prog X.w) X.A (call (.ref fa) us (ks.zip ws)) (EP X pins σ Q) X.xe s := by
  have r2 := permG_vals r q pm
  refine wpAny_call (codeAny_mono (F.run X.A X.stack s H ⟨us, ks.zip ws⟩ (permG pm us ws) (permG pm vs zs) Q (E σ) hr I.env0 (hb.to s us ws I.kIn (by rw [← r.length]; exact hn) (by rw [← q.length]; exact hz)) r2 h) fun r s' hq => ?_)
  cases r with
  | error e => exact hx pins H s e s' I hq
  | ok fl =>
    cases fl with
    | ret u => exact I.after hq
    | next => exact False.elim hq
    | brk => exact False.elim hq
    | cont => exact False.elim hq
/-- f(k = v, ..) -/
theorem de_callK0 (cl : CalleeK X.prog X.w X.K X.mg X.base k x ps ks 0 pm f) (hl : Lets X W) (hr : Room j X.A) (hkw : PK X kws (tA X.K X.mg W rk)) (hk : k ≤ j := by decide) (hg : Gl X x := by rfl)
    (hrl : ∀ env S ds S', rk env S = .ok ds S' → ds.length = ks.length) (hpm : (pm.all fun i => decide (i < 0 + ks.length)) = true := by decide) (hps : pm.length = ps.length := by rfl) (hall : (backToKw pos (keywordEach kws X.env)).all (·.1.isSome) = true := by rfl) (hks : (backToKw pos (keywordEach kws X.env)).filterMap (·.1) = ks := by rfl)
    (hdb : (x == ("__debug__" : Str)) = false := by decide) (hpl : ((backTo pos (starEach [] X.env)).any (·.1) || (backToKw pos (keywordEach kws X.env)).any (·.1.isNone)) = false := by rfl) :
    PE X (.Call (.Name x p) [] kws pos) (tE X.K X.mg W (callKE f pm nilA rk)) := by
  obtain ⟨fa, fd, F, hm, hkp, hb⟩ := cl.ex
  refine ⟨fun pins s σ H Q I h => ?_⟩
  obtain ⟨env, F0, ci, S, sr, er, h⟩ := h
  refine wpAny_Call_Name_kw (ld_glob I hg hm ?_ hdb)
  have h' : Out X.K (Zf X.K X.mg (WE W σ)) F0 ci H ((rk env S).bind fun zs S2 => f (permG pm [] zs) S2) fun d F' ci' S' H' => ∀ v, Rp X.K F' ci' d v → Q v H' := h
  refine PySem.W.callWith_KW0 (h₀ := X.base) I.ok.mod.kin hkp hall (thn (hkw.run pos pins s σ H (fun zs H2 => ∃ F1 c1 S1 ds, SR X.K F1 c1 S1 H2 ∧ Rps X.K F1 c1 ds zs ∧ ds.length = ks.length ∧ Out X.K (Zf X.K X.mg (WE W σ)) F1 c1 H2 (f (permG pm [] ds) S1) fun d F' ci' S' H' => ∀ v, Rp X.K F' ci' d v → Q v H') I ⟨env, F0, ci, S, sr, er, ?_⟩) fun ws s2 ⟨zs, H2, I2, rz, q2⟩ => ⟨I2.kIn, ?_⟩) hpl
  · cases hq : rk env S with
    | ok ds S1 =>
      have h2 := Out.bind h'
      rw [hq] at h2
      exact fun F1 c1 H1 l1 s1 vs rs => ⟨F1, c1, S1, ds, s1, rs, hrl _ _ _ _ hq, h2 F1 c1 H1 l1 s1⟩
    | exc y S1 => have h2 := Out.bind h'; rw [hq] at h2; exact h2
    | stuck => have h2 := Out.bind h'; rw [hq] at h2; exact h2
  · obtain ⟨F1, c1, S1, ds, s1, rs, hl1, q3⟩ := q2
    rw [hks]
    have hzl : zs.length = ks.length := by rw [← rs.length]; exact hl1
    exact run_fnKD (us := []) (vs := []) (E := WE W) F (hr.mono hk) hb (hl σ) I2 .nil rz rfl hzl ⟨by rw [permG_len (by rw [hzl]; exact hpm)]; exact hps, F1, c1, S1, permG pm [] ds, s1, permG_rps .nil rs pm, q3⟩
end

/-! ### range downwards -/
def downP (i : Int) : Nat → List PV
  | 0 => []
  | n + 1 => .int i :: downP (i - 1) n
def range3I (a b c : ExprD) : IterD := fun env S => (a env S).bind fun x S1 => (b env S1).bind fun y S2 => (c env S2).bind fun z S3 => match x, y, z with
  | .int i, .int j, .int k => if k = -1 ∧ smallI i ∧ smallI j then .ok (none, downP i (i - j).toNat) S3 else .stuck
  | _, _, _ => .stuck
section
variable {K : PySem.W.Frag} {F : Hp} {ci : List Addr}
end
section
variable {X : Cx} {W : WX} {tg e e2 e3 : Expr} {p pos : Pos} {fa fb fc : ExprD}
end

/-! ### a module's tuple of texts -/
section
variable {X : Cx} {W : WX} {pos : Pos}
theorem de_gtup {x : Str} {zs : List Str} {u : Addr} (hm : X.mg x = some (.ref u)) (hs : ∀ H, SqT X.K H u (zs.map V.str)) (hz : zs.length ≤ sizeLine := by decide) (hg : Gl X x := by rfl) (hdb : (x == ("__debug__" : Str)) = false := by decide) : PE X (.Name x pos) (tE X.K X.mg W (cE (.tup (zs.map .str)))) :=
  de_c (pe_glob (v := .ref u) hg hm rfl hdb) fun F ci => .tup (hs F) (by simpa using hz) (by
    clear hs hz
    induction zs with
    | nil => exact .nil
    | cons z zs ih => exact .cons (.str z) ih)
end

/-! ### the hook, with one more Bool -/
def obsB (n : Nat) (fa : List He.Fa) (fn : List He.DefD) (ex : PySem.W.Frag → Bool) (g : Addr → Option Obj) : He.AlD × Bool := (He.obsDG n fa fn g, ex (He.frG g (He.asD g n)))
def hookB (n : Nat) (fa : List He.Fa) (fn : List He.DefD) (ex : PySem.W.Frag → Bool) : PySem.W.Hook where
  α := He.AlD × Bool
  obs := fun s => obsB n fa fn ex s.heap.get?
  val := fun _ => (He.valD fn, true)
  says := fun _ h => ∃ K : PySem.W.Frag, K.In h ∧ He.SaysD fa fn K ∧ ex K = true
  of := fun _ _ e => ⟨_, He.frG_in, congrArg Prod.fst e, congrArg Prod.snd e⟩
  keeps := fun _ _ _ ⟨K, hK, c⟩ k => ⟨K, PySem.W.Frag.In.keeps hK k, c⟩
end LH

/-! LN: isinstance by several types. -/
namespace LH
open PySem PySem.Spec PyProof.Rows L2
def isaAny (d : PV) : List String → Option Bool
  | [] => some false
  | T :: r => match isaB d T with
    | some true => some true
    | some false => isaAny d r
    | none => none
def isinsV (Ts : List String) (d : PV) (S : Sto) : Res PV := match d with
  | .ty _ => .stuck
  | .adr _ => .stuck
  | .opq _ => .stuck
  | .cell n => match S[n]? with
    | some (.lst _) => match isaAny (.cell n) Ts with
      | some b => .ok (.bl b) S
      | none => .stuck
    | _ => .stuck
  | d => match isaAny d Ts with
    | some b => .ok (.bl b) S
    | none => .stuck
theorem isaAny_ok {K : PySem.W.Frag} {d : PV} {n : String} (hn : tyName d = some n) : ∀ {Ts : List String} {b : Bool}, isaAny d Ts = some b → PySem.W.kitAny K (.type n) (Ts.map Value.type) = some b
  | [], b, h => h
  | T :: r, b, h => by
    unfold isaAny at h
    show (match PySem.W.kitOne K (.type n) (.type T) with | some true => some true | some false => PySem.W.kitAny K (.type n) (r.map Value.type) | none => none) = some b
    cases e : isaB d T with
    | none => rw [e] at h; cases h
    | some c =>
      rw [e] at h
      rw [kit_ty (isa_ok e hn)]
      cases c with
      | true => exact h
      | false => exact isaAny_ok hn h
section
variable {X : Cx} {W : WX} {e : Expr} {es : List Expr} {Ts : List String} {f : ExprD} {p pos tpos : Pos} {kk : Nat}
theorem dty_nil : PA X [] (fun _ H Q => Q (([] : List String).map V.ty) H) := pa_nil
theorem dty_cons {n : String} {x : Str} {px : Pos} (hm : X.mg x = none) (hv : bootBuiltins x = some (.type n)) (hr : PA X es (fun _ H Q => Q (Ts.map V.ty) H)) (hg : Gl X x := by rfl) (hn : x ≠ "__name__" := by decide) (hdb : (x == ("__debug__" : Str)) = false := by decide)
    (hs : starEach (.Name x px :: es) X.env = (false, eval (.Name x px) X.env) :: starEach es X.env := by rfl) : PA X (.Name x px :: es) (fun _ H Q => Q ((n :: Ts).map V.ty) H) :=
  (pa_cons (pe_bltn (v := .ty n) hg hm hv rfl hn hdb) hr hs).imp fun σ H Q h => h
theorem clsv_all : ∀ Ts : List String, Paired ClsV (Ts.map V.ty) (Ts.map Value.type)
  | [] => .nil
  | T :: Ts => .cons (.ty T) (clsv_all Ts)
theorem de_isins (he : PE X e (tE X.K X.mg W f)) (ha : PA X es (fun _ H Q => Q (Ts.map V.ty) H)) (hm : X.mg "isinstance" = none) (hg : Gl X "isinstance" := by rfl) (hz : Ts.length ≤ sizeLine := by decide)
    (hs : starEach [e, .Tuple es kk tpos] X.env = (false, eval e X.env) :: starEach [.Tuple es kk tpos] X.env := by rfl) (hs2 : starEach [.Tuple es kk tpos] X.env = (false, eval (.Tuple es kk tpos) X.env) :: starEach [] X.env := by rfl) (hpl : (backTo pos (starEach [.Tuple es kk tpos] X.env)).any (·.1) = false := by rfl) :
    PE X (.Call (.Name "isinstance" p) [e, .Tuple es kk tpos] [] pos) (tE X.K X.mg W (unE (isinsV Ts) f)) := (pe_callB call_isiT hg hm boot_isinstance (pa_cons he (pa_cons (pe_tup ha) pa_nil hs2) hs) (by decide) (by decide) hs hpl).imp fun σ H Q h => by
  obtain ⟨env, F, ci, S, sr, er, h⟩ := h
  refine ⟨env, F, ci, S, sr, er, (Out.bind h).imp fun d F1 c1 S1 H1 l1 s1 h1 v1 r1 => ?_⟩
  refine ⟨by simpa using hz, fun q hq => ?_⟩
  obtain ⟨s2, l2⟩ := s1.laid (o := .tup (Ts.map V.ty)) hq
  have go : ∀ {n : String} {b : Bool}, tyName d = some n → isaAny d Ts = some b → (∀ k, d = .cell k → ∃ xs, S1[k]? = some (.lst xs)) →
      (Out X.K (Zf X.K X.mg (WE W σ)) F1 c1 H1 (.ok (.bl b) S1) fun d F' ci' S' H' => ∀ v, Rp X.K F' ci' d v → Q v H') → rIsiT X.K [v1, .ref q] (upd H1 q (.tup (Ts.map V.ty))) Q := fun {n b} hn hb hc qq =>
    ⟨v1, q, Ts.map V.ty, .type n, Ts.map Value.type, b, rfl, upd_same, clsv_all Ts, tyx s2 (l2.rp r1) hn hc, isaAny_ok hn hb, qq _ _ _ l2 s2 _ (.bl _)⟩
  unfold isinsV at h1
  split at h1
  · exact h1.elim
  · exact h1.elim
  · exact h1.elim
  · split at h1
    · rename_i hk
      split at h1
      · rename_i hb
        exact go rfl hb (fun k e => by cases e; exact ⟨_, hk⟩) h1
      · exact h1.elim
    · exact h1.elim
  · rename_i g1 g3 g4 g2
    split at h1
    · rename_i hb
      have hn : ∃ n, tyName d = some n := by cases d <;> first | exact ⟨_, rfl⟩ | exact absurd rfl (g1 _) | exact absurd rfl (g3 _) | exact absurd rfl (g4 _)
      obtain ⟨n, hn⟩ := hn
      exact go hn hb (fun k e => absurd e (g2 k)) h1
    · exact h1.elim
end
end LH

/-! LO: a module's constants, the end of a law. -/
namespace LH
open PySem PySem.Spec PyProof.Rows L2
theorem bt_len : bootBuiltins "len" = some (.builtin "len") := by decide +kernel
theorem bt_abs : bootBuiltins "abs" = some (.builtin "abs") := by decide +kernel
theorem bt_max : bootBuiltins "max" = some (.builtin "max") := by decide +kernel
theorem bt_min : bootBuiltins "min" = some (.builtin "min") := by decide +kernel
theorem bt_all : bootBuiltins "all" = some (.builtin "all") := by decide +kernel
theorem bt_isinstance : bootBuiltins "isinstance" = some (.builtin "isinstance") := by decide +kernel
theorem bt_int : bootBuiltins "int" = some (.type "int") := by decide +kernel
theorem bt_bool : bootBuiltins "bool" = some (.type "bool") := by decide +kernel
theorem bt_str : bootBuiltins "str" = some (.type "str") := by decide +kernel
theorem bt_list : bootBuiltins "list" = some (.type "list") := by decide +kernel
theorem bt_tuple : bootBuiltins "tuple" = some (.type "tuple") := by decide +kernel
section
variable {X : Cx} {W : WX} {pos : Pos}
theorem de_gstrE {x z : Str} (h : ∃ t, X.mg x = some (.str z t)) (hg : Gl X x := by rfl) (hdb : (x == ("__debug__" : Str)) = false := by decide) : PE X (.Name x pos) (tE X.K X.mg W (cE (.str z))) := by
  obtain ⟨t, h⟩ := h
  exact de_gstr h ⟨t, rfl⟩ hg hdb
theorem de_gtupE {x : Str} {zs : List Str} (h : ∃ u, X.mg x = some (.ref u) ∧ ∀ H, SqT X.K H u (zs.map V.str)) (hz : zs.length ≤ sizeLine := by decide) (hg : Gl X x := by rfl) (hdb : (x == ("__debug__" : Str)) = false := by decide) : PE X (.Name x pos) (tE X.K X.mg W (cE (.tup (zs.map .str)))) := by
  obtain ⟨u, h1, h2⟩ := h
  exact de_gtup h1 h2 hz hg hdb
end
theorem fnok_stuck {P : Program} {w : World} {K : PySem.W.Frag} {mg : Str → Option Value} {base : Heap} {CX : CXT} {k : Nat} {fa : Addr} {fd : FuncData} {ps : List Str} {n : Nat} : FnOk P w K mg base CX k fa fd ps (spF K mg n fun _ _ => .stuck) :=
  ⟨fun vs H Q E h => by obtain ⟨_, _, _, _, _, _, _, h⟩ := h; exact h.elim, fun A outer s H args us vs Q E _ _ _ _ h => by obtain ⟨_, _, _, _, _, _, _, h⟩ := h; exact h.elim⟩
theorem callee_of {P : Program} {w : World} {K : PySem.W.Frag} {mg : Str → Option Value} {base : Heap} {k : Nat} {x qual : Str} {ps : List Str} {f : FnDen} {params : Arguments} {body : List Stmt} {scope : Scope} {fa : Addr} {fd : FuncData} (F : FunD K x qual params body scope [] [] fa fd)
    (o : FnOk P w K mg base (L2.CX P w) k fa fd ps (spF K mg ps.length f)) (hm : mg x = some (.ref fa)) (hb : ∀ (kV doc pm : Value) (an : Option Addr) (cdv ct : Value) (us : List Value), us.length = ps.length → bindArgs (PySem.W.fnOf x qual params body scope .none kV doc pm an cdv ct) ⟨us, []⟩ = pure (ps.zip us)) :
    Callee P w K mg base k x ps f := ⟨fa, fd, o, hm, F.kp, F.bindsN hb⟩
theorem calleeK_of {P : Program} {w : World} {K : PySem.W.Frag} {mg : Str → Option Value} {base : Heap} {k : Nat} {x qual : Str} {ps ks : List Str} {n : Nat} {pm : List Nat} {f : FnDen} {params : Arguments} {body : List Stmt} {scope : Scope} {fa : Addr} {fd : FuncData} (F : FunD K x qual params body scope [] [] fa fd)
    (o : FnOk P w K mg base (L2.CX P w) k fa fd ps (spF K mg ps.length f)) (hm : mg x = some (.ref fa)) (hb : ∀ (kV doc pm' : Value) (an : Option Addr) (cdv ct : Value) (us ws : List Value), us.length = n → ws.length = ks.length → bindArgs (PySem.W.fnOf x qual params body scope .none kV doc pm' an cdv ct) ⟨us, ks.zip ws⟩ = pure (ps.zip (permG pm us ws))) :
    CalleeK P w K mg base k x ps ks n pm f := ⟨fa, fd, o, hm, F.kp, kw_of F hb⟩

/-! a comprehension's scope within a comprehension -/
def relSc (scope sc : Scope) : Scope := { scope with names := scope.names.map fun (n, k) => if (k == .free && sc.kind == .function && sc.names.lookup n == some .cell) then (n, .cell) else (n, k) }
/-! a sum of lists that becomes a mutable list; what is never reached -/
def addCV : PV → PV → Sto → Res PV := fun x y S => match catOf S x, catOf S y with
  | some a, some b => if a.length + b.length ≤ sizeLine ∧ bels 0 (a ++ b) = true then .ok (.cell S.length) (S ++ [.lst (a ++ b)]) else .stuck
  | _, _ => .stuck
theorem od_addC {X : Cx} {E : XK} : OpR X (binaryOp .Add) (rD X.K X.mg E addCV) := by
  intro pins s σ H x y v u Q I rx ry q
  obtain ⟨F, ci, S, dx, dy, sr, r1, r2, q⟩ := q
  unfold addCV at q
  split at q
  · rename_i a b h1 h2
    split at q
    · rename_i z
      obtain ⟨l, vs, rfl, e1, rs1, _⟩ := cat_lst sr r1 h1
      obtain ⟨m, ws, rfl, e2, rs2, _⟩ := cat_lst sr r2 h2
      refine op_cat pins s σ H _ _ v u Q I rx ry ⟨l, m, vs, ws, rfl, rfl, e1, e2, by rw [← rs1.length, ← rs2.length]; exact z.1, fun p hp => ?_⟩
      obtain ⟨s2, l2, g⟩ := sr.celled (xs := a ++ b) hp ⟨by rw [List.length_append]; exact z.1, z.2⟩ (rs1.append rs2)
      exact q _ _ _ l2 s2 _ (.cell g)
    · exact q.elim
  · exact q.elim
def neverE : ExprD := fun _ _ => .stuck
/-! ### the end -/
end LH

/-! LP: more operators: is with a bool. -/
namespace LH
open PySem PySem.Spec PyProof.Rows L2
section
variable {X : Cx} {E : XK}
def isBV : PV → PV → Sto → Res PV := fun x y S => match x, y with
  | .bl a, .bl b => .ok (.bl (decide (a = b))) S
  | _, _ => .stuck
def isNotBV : PV → PV → Sto → Res PV := fun x y S => match x, y with
  | .bl a, .bl b => .ok (.bl (!decide (a = b))) S
  | _, _ => .stuck
theorem od_isB : OpR X (compareOp .Is) (rD X.K X.mg E isBV) := by
  intro pins s σ H x y v u Q I rx ry q
  obtain ⟨F, ci, S, dx, dy, sr, r1, r2, q⟩ := q
  unfold isBV at q
  split at q
  · cases r1
    cases r2
    exact op_isBl pins s σ H _ _ v u Q I rx ry ⟨_, _, rfl, rfl, q.here sr _ (.bl _)⟩
  · exact q.elim
@[simp] theorem isBV_b (a b : Bool) (S : Sto) : isBV (.bl a) (.bl b) S = .ok (.bl (decide (a = b))) S := (rfl)
@[simp] theorem isNotBV_b (a b : Bool) (S : Sto) : isNotBV (.bl a) (.bl b) S = .ok (.bl (!decide (a = b))) S := (rfl)
end
end LH

/-! LQ: zip of a list and a tuple, in any mix. -/
namespace LH
open PySem PySem.Spec PyProof.Rows L2
/-- t: a tuple, else a list -/
def SqB (t : Bool) (K : PySem.W.Frag) (H : Hp) (a : Addr) (xs : List V) : Prop := match t with
  | true => SqT K H a xs
  | false => SqL K H a xs
def AtB (t : Bool) (h : Heap) (it a : Addr) (i : Nat) : Prop := match t with
  | true => h.IsTupleIter it a i
  | false => h.IsListIter it a i
def IsB (t : Bool) (h : Heap) (a : Addr) (xs : Array Value) : Prop := match t with
  | true => h.IsTuple a xs
  | false => h.IsList a xs
theorem AtB.keep {t : Bool} {h h' : Heap} {it a : Addr} {i : Nat} (q : AtB t h it a i) (k : ∀ o, h.get? it = some o → h'.get? it = some o) : AtB t h' it a i := by
  cases t with
  | true => exact Heap.IsTupleIter.at q k
  | false => exact Heap.IsListIter.at q k
theorem AtB.obj {t : Bool} {h : Heap} {it a : Addr} {i : Nat} (q : AtB t h it a i) : ∃ o, h.get? it = some o ∧ ∀ v, o.data ≠ .cell v := by
  cases t with
  | true => obtain ⟨o, e, _, d⟩ := q; exact ⟨o, e, fun v q => by rw [d] at q; cases q⟩
  | false => obtain ⟨o, e, _, d⟩ := q; exact ⟨o, e, fun v q => by rw [d] at q; cases q⟩
theorem draws_B {P : Program} {w : World} {A : Around} (hh : A.handled = none) (t : Bool) {it a : Addr} (hne : a ≠ it) (its : Array Value) :
    Draws P w A it [it, a] its.size (fun i v => its[i]? = some v) (fun i h => AtB t h it a i ∧ IsB t h a its) := by
  cases t with
  | true => exact Draws.tuple hh it a hne its
  | false => exact Draws.list hh it a hne its
theorem sqB_at {X : Cx} {pins : List (Addr × Obj)} {σ : L2.St} {H : Hp} {s : Shared} {t : Bool} {a : Addr} {xs : List V} (I : Inv X pins σ H s) (h : SqB t X.K H a xs) : ∃ its : List Value, Vals xs its ∧ IsB t s.heap a its.toArray := by
  cases t with
  | true => obtain ⟨its, rv, p, _⟩ := I.tuple h; exact ⟨its, rv, p⟩
  | false => obtain ⟨its, rv, p, _⟩ := I.list h; exact ⟨its, rv, p.isList⟩
theorem sqB_inj {X : Cx} {pins : List (Addr × Obj)} {σ : L2.St} {H : Hp} {s : Shared} {t : Bool} {a : Addr} {xs ys : List V} (I : Inv X pins σ H s) (h : SqB t X.K H a xs) (h' : SqB t X.K H a ys) : xs = ys := by
  cases t with
  | true => exact I.tuple_inj h h'
  | false => exact I.list_inj h h'
theorem isB_lt {t : Bool} {h : Heap} {a : Addr} {xs : Array Value} (p : IsB t h a xs) : a < h.objs.size := by
  cases t with
  | true => obtain ⟨o, e, _⟩ := p; exact Heap.lt_size e
  | false => obtain ⟨o, e, _⟩ := p; exact Heap.lt_size e
def ItzM (K : PySem.W.Frag) (t u : Bool) (a b : Addr) : It where
  go i H := ∃ (xs ys : List V) (x y : V), SqB t K H a xs ∧ SqB u K H b ys ∧ xs[i]? = some x ∧ ys[i]? = some y
  yld i H v H' := ∃ T x y, v = .ref T ∧ H T = none ∧ H' = upd H T (.tup [x, y]) ∧ (∀ xs, SqB t K H a xs → xs[i]? = some x) ∧ ∀ ys, SqB u K H b ys → ys[i]? = some y
  stop i H := ∃ xs ys : List V, SqB t K H a xs ∧ SqB u K H b ys ∧ i ≤ xs.length ∧ i ≤ ys.length ∧ (i = xs.length ∨ i = ys.length)
section
variable {P : Program} {w : World} {K : PySem.W.Frag} {elts : List Expr} {kk : Nat} {tpos : Pos} {t u : Bool} {a b z TI TO i1 i2 : Addr}
def ZSt (t u : Bool) (a b z TI TO i1 i2 : Addr) (i : Nat) (h : Heap) : Prop := IsZip h z TI TO .none ∧ IsTupOf2 h TI (.ref i1) (.ref i2) ∧ (∃ x y, IsTupOf2 h TO x y) ∧ AtB t h i1 a i ∧ AtB u h i2 b i
theorem turn_mix (S : ZipSep2 z TI TO i1 i2 [i1, a] [i2, b]) (na : a ≠ i1) (nb : b ≠ i2) : Turn P w K (.Tuple elts kk tpos) (ItzM K t u a b) [z, TI, TO, i1, i2] z (ZSt t u a b z TI TO i1 i2) := by
  have d12 : i1 ≠ i2 := fun e => S.sep1_2 (by rw [e]; exact List.mem_cons_self ..)
  constructor
  case mem => exact List.mem_cons_self ..
  case obj =>
    rintro i h ⟨q1, q2, ⟨x, y, q3⟩, q4, q5⟩ c hc
    simp only [List.mem_cons, List.not_mem_nil, or_false] at hc
    rcases hc with rfl | rfl | rfl | rfl | rfl
    · exact ⟨_, q1, fun v => nofun⟩
    · exact ⟨_, q2, fun v => nofun⟩
    · exact ⟨_, q3, fun v => nofun⟩
    · exact q4.obj
    · exact q5.obj
  case keep =>
    rintro i h h' ⟨q1, q2, ⟨x, y, q3⟩, q4, q5⟩ k
    exact ⟨k _ (by simp) _ q1, k _ (by simp) _ q2, ⟨x, y, k _ (by simp) _ q3⟩, q4.keep (k _ (by simp)), q5.keep (k _ (by simp))⟩
  case item =>
    intro X hP hw hK hc i pins s σ H E I hf st hg
    subst hP hw hK
    obtain ⟨q1, q2, ⟨x0, y0, q3⟩, q4, q5⟩ := st
    obtain ⟨xs, ys, x, y, hqx, hqy, hx, hy⟩ := hg
    obtain ⟨its, rv, p⟩ := sqB_at I hqx
    obtain ⟨jts, rv2, p2⟩ := sqB_at I hqy
    have hh : X.A.in1.handled = none := I.ok.hd hc
    obtain ⟨v1, hv1, r1⟩ := rv.get hx
    obtain ⟨v2, hv2, r2⟩ := rv2.get hy
    have hzl : z < s.heap.objs.size := Heap.lt_size q1
    refine wpAny_pyNext_zipD2_item (i := i) S (draws_B hh t na its.toArray) (draws_B hh u nb jts.toArray) q1 q2 q3 ⟨q4, p⟩ ⟨q5, p2⟩ (by simpa using (List.getElem?_eq_some_iff.mp hv1).1) (by simpa using (List.getElem?_eq_some_iff.mp hv2).1)
      fun w1 w2 h' tk f1 f2 z' TO' e1 e2 hT hsz hk => ?_
    have g1 : w1 = v1 := by
      have : its[i]? = some w1 := by simpa using f1
      rw [hv1] at this; exact (Option.some.inj this).symm
    have g2 : w2 = v2 := by
      have : jts[i]? = some w2 := by simpa using f2
      rw [hv2] at this; exact (Option.some.inj this).symm
    subst g1 g2
    refine ⟨_, rfl, wpAny_letOwnedTupleGo_zip (s := { s with heap := h', toks := tk }) z' fun h'' z'' sb => ?_⟩
    have out : ∀ {c : Addr} {o : Obj}, c ≠ z → c ≠ TO → c ≠ i1 → c ≠ i2 → s.heap.get? c = some o → h''.get? c = some o := fun n1 n2 n3 n4 e => (sb.2 _ n1).trans (hk _ _ n1 n2 n3 n4 e)
    have hT2 : h''.get? s.heap.objs.size = some { cls := .type "tuple", data := .seq #[w1, w2] } := (sb.2 _ (Nat.ne_of_gt hzl)).trans hT
    have new : ObjOk X.prog X.w (upd H s.heap.objs.size (.tup [x, y])) h'' s.heap.objs.size (.tup [x, y]) := ⟨(by decide : 2 ≤ sizeLine), [w1, w2], .cons r1 (.cons r2 .nil), ⟨_, hT2, rfl, _, rfl⟩⟩
    have I1 : Inv X pins σ (upd H s.heap.objs.size (.tup [x, y])) { s with heap := h'', toks := tk } :=
      I.turnedNew (t' := tk) (ch := [z, TI, TO, i1, i2]) (fun c o hb q => by
        simp only [List.mem_cons, List.not_mem_nil, or_false, not_or] at hb
        exact out hb.1 hb.2.2.1 hb.2.2.2.1 hb.2.2.2.2 q) hf (Nat.le_refl _) new
    refine ⟨.ref s.heap.objs.size, _, I1, rfl, ⟨_, x, y, rfl, I.hok.fresh (Nat.le_refl _), rfl, fun l hl => ?_, fun l hl => ?_⟩, ⟨z'', ?_, ⟨w1, w2, ?_⟩, ?_, ?_⟩, fun c hcm => ?_⟩
    · rw [sqB_inj I hl hqx]; exact hx
    · rw [sqB_inj I hl hqy]; exact hy
    · exact out S.TIz S.TITO S.TIi1 S.TIi2 q2
    · exact (sb.2 _ S.TOz).trans TO'
    · exact e1.1.keep fun o q => (sb.2 _ S.zi1.symm).trans q
    · exact e2.1.keep fun o q => (sb.2 _ S.zi2.symm).trans q
    · have hlt : c < s.heap.objs.size := by
        have hcm' := hcm
        simp only [List.mem_cons, List.not_mem_nil, or_false] at hcm'
        rcases hcm' with rfl | rfl | rfl | rfl | rfl
        · exact hzl
        · exact Heap.lt_size q2
        · exact Heap.lt_size q3
        · obtain ⟨_, e, _⟩ := q4.obj; exact Heap.lt_size e
        · obtain ⟨_, e, _⟩ := q5.obj; exact Heap.lt_size e
      rw [upd_ne (Nat.ne_of_lt hlt)]
      exact (hf c hcm).1
  case done =>
    intro X hP hw hK hc i pins s σ H E I hf st hg
    subst hP hw hK
    obtain ⟨q1, q2, ⟨x0, y0, q3⟩, q4, q5⟩ := st
    obtain ⟨xs, ys, hqx, hqy, hend⟩ := hg
    obtain ⟨its, rv, p⟩ := sqB_at I hqx
    obtain ⟨jts, rv2, p2⟩ := sqB_at I hqy
    have hh : X.A.in1.handled = none := I.ok.hd hc
    have l1 : its.toArray.size = xs.length := by rw [List.size_toArray, ← rv.length]
    have l2 : jts.toArray.size = ys.length := by rw [List.size_toArray, ← rv2.length]
    obtain ⟨h1, h2, h3⟩ := hend
    refine wpAny_pyNext_zipD2_end (i := i) S (draws_B hh t na its.toArray) (draws_B hh u nb jts.toArray) q1 q2 q3 ⟨q4, p⟩ ⟨q5, p2⟩ (by omega) (by omega) (by omega) fun h' tk hk => ⟨rfl, ?_⟩
    refine I.turnedL (t' := tk) (ch := [z, TI, TO, i1, i2]) (fun c o hb q => ?_) hf
    simp only [List.mem_cons, List.not_mem_nil, or_false, not_or] at hb
    exact hk _ _ hb.1 hb.2.2.1 hb.2.2.2.1 hb.2.2.2.2 q
  case self => exact fun A i s Q E st h => wpAny_pyIter_zip st.1 h
def objB (t : Bool) (a : Addr) : Obj := match t with
  | true => { cls := .type "tuple_iterator", data := .fields #[.ref a, .int 0 0] }
  | false => { cls := .type "list_iterator", data := .fields #[.ref a, .int 0 0] }
theorem begins_B (t : Bool) (a : Addr) (xs : Array Value) : Begins (.ref a) (objB t a) fun h => IsB t h a xs := by
  cases t with
  | true => exact begins_tuple a xs
  | false => exact begins_list a xs
theorem atB_new {t : Bool} {h : Heap} {it a : Addr} (e : h.get? it = some (objB t a)) : AtB t h it a 0 := by
  cases t with
  | true => exact ⟨_, e, rfl, rfl⟩
  | false => exact ⟨_, e, rfl, rfl⟩
end
theorem pi_zipM {X : Cx} {e e2 : Expr} {ta : TA} {p pos tpos : Pos} {elts : List Expr} {kk : Nat} (hg : Gl X "zip") (hm : X.mg "zip" = none) (ha : PA X [e, e2] ta)
    (hs : starEach [e, e2] X.env = (false, eval e X.env) :: starEach [e2] X.env) (hpl : (backTo pos (starEach [e2] X.env)).any (·.1) = false) :
    PI X (.Tuple elts kk tpos) (.Call (.Name "zip" p) [e, e2] [] pos) (fun σ H R => ta σ H fun vs H1 => ∃ t u a b xs ys, vs = [.ref a, .ref b] ∧ SqB t X.K H1 a xs ∧ SqB u X.K H1 b ys ∧ R (ItzM X.K t u a b) H1) := by
  constructor
  intro pins s σ H R I h
  have boot := PyProof.Rows.boot_zip
  refine Call_ (ld_blt I hg hm boot ?_)
  refine PyProof.Rows.callWith_type1 (thn (ha.run pos pins s σ H _ I h) fun us s1 ⟨vs, H1, I1, r1, q1⟩ => ?_) hs hpl
  obtain ⟨t, u, a, b, xs, ys, ex, hqx, hqy, q⟩ := q1
  subst ex
  obtain ⟨va, us, rfl, ra, r1⟩ : ∃ va us', us = va :: us' ∧ RelV (.ref a) va ∧ Vals [.ref b] us' := by cases r1 with | cons r rr => exact ⟨_, _, rfl, r, rr⟩
  obtain ⟨vb, rfl, rb⟩ := vals1 r1
  cases ra
  cases rb
  obtain ⟨its, rv, p1⟩ := sqB_at I1 hqx
  obtain ⟨jts, rv2, p2⟩ := sqB_at I1 hqy
  have la := isB_lt p1
  have lb := isB_lt p2
  refine zip_begins2 (begins_B t a its.toArray) (begins_B u b jts.toArray) p1 p2 fun h' hz hTI hTO h1 h2 hsz hk => wpAny_pyIter_zip hz ?_
  have I2 : Inv X pins σ H1 { s1 with heap := h' } := I1.kept (t' := s1.toks) hk
  have S := zip_sep2 (N := s1.heap.objs.size) (fp1 := [a]) (fp2 := [b]) (by simpa using la) (by simpa using lb)
  have na : a ≠ s1.heap.objs.size := Nat.ne_of_lt la
  have nb : b ≠ (s1.heap.objs.size + 1 : Nat) := Nat.ne_of_lt (Nat.lt_succ_of_lt lb)
  refine ⟨s1.heap.objs.size + 4, [s1.heap.objs.size + 4, s1.heap.objs.size + 2, s1.heap.objs.size + 3, s1.heap.objs.size, s1.heap.objs.size + 1], _, _, H1, rfl, I2, turn_mix S na nb, ⟨hz, hTI, ⟨_, _, hTO⟩, atB_new h1, atB_new h2⟩, fun c hcm => ?_, q⟩
  have hle : s1.heap.objs.size ≤ c := by
    simp only [List.mem_cons, List.not_mem_nil, or_false] at hcm
    rcases hcm with z | z | z | z | z <;> rw [z] <;> first | exact Nat.le_refl _ | exact Nat.le_add_right _ _
  exact I1.fpOk hle (I1.hok.fresh hle)
/-- a sequence at an address -/
structure BAt (t : Bool) (K : PySem.W.Frag) (F : Hp) (ci : List Addr) (ds : List PV) (a : Addr) : Prop where
  at_ : ∀ (F1 : Hp) (c1 : List Addr) (S1 : Sto) (H1 : Hp), Ext F F1 → ci <+: c1 → SR K F1 c1 S1 H1 → ∃ vs, SqB t K H1 a vs ∧ Rps K F1 c1 ds vs
theorem wk_zipM {K : PySem.W.Frag} {F : Hp} {ci : List Addr} {t u : Bool} {xs ys : List PV} {a b : Addr} (l : BAt t K F ci xs a) (m : BAt u K F ci ys b) : Wk K F ci none (zipP xs ys) (ItzM K t u a b) := by
  intro i F1 c1 S1 H1 e p s w
  obtain ⟨vs, h, rs⟩ := l.at_ F1 c1 S1 H1 e p s
  obtain ⟨ws, h', rs'⟩ := m.at_ F1 c1 S1 H1 e p s
  rw [zipP_len]
  have n1 := rs.length
  have n2 := rs'.length
  constructor
  · intro hi
    obtain ⟨v, hv, rv⟩ := rs.get (List.getElem?_eq_getElem (show i < xs.length by omega))
    obtain ⟨u, hu, ru⟩ := rs'.get (List.getElem?_eq_getElem (show i < ys.length by omega))
    refine ⟨⟨vs, ws, v, u, h, h', hv, hu⟩, ?_⟩
    rintro z H2 ⟨T, x1, x2, e1, nT, e2, f1, f2⟩
    subst e1 e2
    have g1 := f1 vs h
    have g2 := f2 ws h'
    rw [hv] at g1
    rw [hu] at g2
    cases g1
    cases g2
    obtain ⟨F2, l2, s2, r2⟩ := pair_new s nT rv ru
    exact ⟨F2, l2, s2, _, zipP_get _ _ _ _ _ (List.getElem?_eq_getElem _) (List.getElem?_eq_getElem _), r2⟩
  · intro hi
    exact ⟨vs, ws, h, h', by omega, by omega, by omega⟩
def zipMI (a b : ExprD) : IterD := fun env S => (a env S).bind fun x S1 => (b env S1).bind fun y S2 => match frozen x, frozen y with
  | some (_, xs), some (_, ys) => .ok (none, zipP xs ys) S2
  | _, _ => .stuck
theorem bat_frozen {K : PySem.W.Frag} {F : Hp} {ci : List Addr} {S : Sto} {H : Hp} {d : PV} {v : V} {t : Bool} {xs : List PV} (s : SR K F ci S H) (r : Rp K F ci d v) (h : frozen d = some (t, xs)) : xs.length ≤ sizeLine ∧ ∃ a, v = .ref a ∧ BAt t K F ci xs a ∧ ∃ vs, SqB t K H a vs := by
  obtain ⟨z, a, rfl, q⟩ := at_frozen s r h
  rcases q with ⟨rfl, ta, vs, hv, _⟩ | ⟨rfl, la, vs, hv, _⟩
  · exact ⟨z, a, rfl, ⟨fun F1 c1 S1 H1 e p s => ta.at_ F1 c1 S1 H1 e p s⟩, vs, hv⟩
  · exact ⟨z, a, rfl, ⟨fun F1 c1 S1 H1 e p s => la.at_ F1 c1 S1 H1 e p s True.intro⟩, vs, hv⟩
theorem di_zipM {X : Cx} {W : WX} {e e2 : Expr} {p pos tpos : Pos} {fa fb : ExprD} {elts : List Expr} {kk : Nat} (ha : PE X e (tE X.K X.mg W fa)) (hb : PE X e2 (tE X.K X.mg W fb)) (hm : X.mg "zip" = none) (hg : Gl X "zip" := by rfl)
    (hs : starEach [e, e2] X.env = (false, eval e X.env) :: starEach [e2] X.env := by rfl) (hs2 : starEach [e2] X.env = (false, eval e2 X.env) :: starEach [] X.env := by rfl) (hpl : (backTo pos (starEach [e2] X.env)).any (·.1) = false := by rfl) :
    PI X (.Tuple elts kk tpos) (.Call (.Name "zip" p) [e, e2] [] pos) (tI X.K X.mg W (zipMI fa fb)) := by
  refine (pi_zipM hg hm (pa_cons ha (pa_cons hb pa_nil hs2) hs) hs hpl).imp fun σ H R h => ?_
  obtain ⟨env, F, ci, S, sr, er, h⟩ := h
  refine args2 (g := fun x y S2 => match frozen x, frozen y with | some (_, xs), some (_, ys) => .ok (none, zipP xs ys) S2 | _, _ => .stuck) sr er h fun F2 c2 S2 H2 x y dx dy l2 s2 rx ry h2 => ?_
  split at h2
  · rename_i t xs u ys hx hy
    obtain ⟨zx, a, rfl, qa, vs, hv⟩ := bat_frozen s2 rx hx
    obtain ⟨zy, b, rfl, qb, ws, hw⟩ := bat_frozen s2 ry hy
    exact ⟨t, u, a, b, vs, ws, rfl, hv, hw, (Out.here (d := ((none : Option Nat), _)) h2 s2) _ (wk_zipM qa qb) (by rw [zipP_len]; omega)⟩
  · exact h2.elim
def zmK2 (x y : PV) (S : Sto) : Res (Option Nat × List PV) := match frozen x, frozen y with
  | some (_, xs), some (_, ys) => .ok (none, zipP xs ys) S
  | _, _ => .stuck
def zmK (b : ExprD) (env : PEnv) (x : PV) (S : Sto) : Res (Option Nat × List PV) := (b env S).bind (zmK2 x)
@[simp] theorem zipMI_s {a b : ExprD} {env : PEnv} {S : Sto} : zipMI a b env S = (a env S).bind (zmK b env) := (rfl)
@[simp] theorem zmK_s {b : ExprD} {env : PEnv} {x : PV} {S : Sto} : zmK b env x S = (b env S).bind (zmK2 x) := (rfl)
@[simp] theorem zmK2_ll {xs ys : List PV} {S : Sto} : zmK2 (.lst xs) (.lst ys) S = .ok (none, zipP xs ys) S := (rfl)
@[simp] theorem zmK2_tt {xs ys : List PV} {S : Sto} : zmK2 (.tup xs) (.tup ys) S = .ok (none, zipP xs ys) S := (rfl)
@[simp] theorem zmK2_tl {xs ys : List PV} {S : Sto} : zmK2 (.tup xs) (.lst ys) S = .ok (none, zipP xs ys) S := (rfl)
@[simp] theorem zmK2_lt {xs ys : List PV} {S : Sto} : zmK2 (.lst xs) (.tup ys) S = .ok (none, zipP xs ys) S := (rfl)
end LH

/-! LR: sets and dicts of ints, sorted. -/
namespace LH
open PySem PySem.Spec PyProof.Rows L2
abbrev emptySet (w : World) : Obj := { cls := .type "set", dict := none, data := .set #[] 0 (.fresh 0 0 (!w.params.followText "set-order")) }
section
variable {P : Program} {w : World} {A : Around} {E : Value → Shared → Prop} {s : Shared} {L : Addr}
end
section
variable {X : Cx}
/-- set(xs), xs a list of ints -/
def rSetI (K : PySem.W.Frag) (w : World) : List V → Hp → VK → Prop := fun xs H Q => ∃ (l : Addr) (ns : List Int), xs = [V.ref l] ∧ SqL K H l (ns.map V.int) ∧ ns.length + 1 < scanBound ∧
  ∀ a n, H a = none → Q (.ref a) (upd H a (SetO w a (fun j => decide (j ∈ ns)) n))
/-- sorted of a set of ints -/
def rSortSetI (w : World) : List V → Hp → VK → Prop := fun vs H Q => ∃ (a : Addr) (S : Int → Bool) (n : Nat), vs = [V.ref a] ∧ H a = some (SetO w a S n) ∧
  ∀ (ns : List Int) (p : Addr), ns.Pairwise (· < ·) → (∀ k : Int, k ∈ ns ↔ S k = true) → ns.length ≤ sizeLine → H p = none → Q (.ref p) (upd H p (.lst (ns.map V.int)))
end
end LH

/-! LT: dicts of ints as mutable things, sorted; list(range(..)); two sources in one comprehension. -/
namespace LH
open PySem PySem.Spec PyProof.Rows L2
/-! ### mutable things that are no lists -/
section
variable {K : PySem.W.Frag} {F : Hp} {ci : List Addr} {S : Sto} {H : Hp}
end
/-! ### sorted of a dict of ints: any number of keys -/
section
variable {X : Cx}
def rSortDI (K : PySem.W.Frag) : List V → Hp → VK → Prop := fun xs H Q => ∃ (a : Addr) (kvs : List (Key × V)) (ks : List Int), xs = [.ref a] ∧ H a = some (.dK kvs) ∧ kvs.map (·.1) = ks.map Sum.inl ∧ kvs.length ≤ sizeLine ∧
  ∀ (ys : List Int) (p : Addr), ys.Perm ks → ys.Pairwise (· ≤ ·) → H p = none → Q (.ref p) (upd H p (.lst (ys.map V.int)))
/-! ### the combinators -/
/-- {n: b} -/
def dctE (n : Int) (b : Bool) : ExprD := fun _ S => .ok (.cell S.length) (S ++ [.raw (.dK [(Sum.inl n, V.bl b)])])
variable {W : WX}
def setDC (n : Nat) (k : Int) (b : Bool) (env : PEnv) (S : Sto) : Res Flow := match S[n]? with
  | some (.raw (.dK kvs)) => if kvs.length < sizeLine then .ok (.nx env) (S.set n (.raw (.dK (putK kvs (Sum.inl k) (V.bl b))))) else .stuck
  | _ => .stuck
/-- d[k] = v, d a dict of ints -/
def setDS (fo fi f : ExprD) : StmtD := fun env S => runE (f env S) env fun y S1 => runE (fo env S1) env fun d S2 => runE (fi env S2) env fun i S3 => match d, i, y with
  | .cell n, .int k, .bl b => setDC n k b env S3
  | _, _, _ => .stuck
/-! ascending ints -/
def onceI : List Int → List Int
  | [] => []
  | a :: r => if a ∈ onceI r then onceI r else a :: onceI r
theorem onceI_mem : ∀ (l : List Int) (k : Int), k ∈ onceI l ↔ k ∈ l
  | [], k => by simp [onceI]
  | a :: r, k => by
    have ih := onceI_mem r k
    unfold onceI
    split
    · rename_i h
      rw [ih, List.mem_cons]
      exact ⟨.inr, fun z => z.elim (fun e => by subst e; exact ih.mp h) id⟩
    · rw [List.mem_cons, List.mem_cons, ih]
theorem onceI_nodup : ∀ l : List Int, (onceI l).Nodup
  | [] => .nil
  | a :: r => by
    unfold onceI
    split
    · exact onceI_nodup r
    · rename_i h; exact List.nodup_cons.mpr ⟨h, onceI_nodup r⟩
def ascI (ns : List Int) : List Int := (onceI ns).mergeSort fun a b => decide (a ≤ b)
theorem lt_of_nodup : ∀ l : List Int, l.Pairwise (· ≤ ·) → l.Nodup → l.Pairwise (· < ·) := lt_of_le_nodup
theorem sort_le (ns : List Int) : (ns.mergeSort fun a b => decide (a ≤ b)).Pairwise (· ≤ ·) := by
  have := List.pairwise_mergeSort (le := fun a b : Int => decide (a ≤ b)) (fun a b c h1 h2 => by simp at *; omega) (fun a b => by simp; omega) ns
  exact this.imp fun h => by simpa using h
theorem asc_uniq : ∀ {l m : List Int}, l.Pairwise (· < ·) → m.Pairwise (· < ·) → (∀ k, k ∈ l ↔ k ∈ m) → l = m
  | [], [], _, _, _ => rfl
  | [], b :: m, _, _, h => by have := (h b).mpr List.mem_cons_self; cases this
  | a :: l, [], _, _, h => by have := (h a).mp List.mem_cons_self; cases this
  | a :: l, b :: m, hl, hm, h => by
    rw [List.pairwise_cons] at hl hm
    have e : a = b := by
      rcases List.mem_cons.mp ((h a).mp List.mem_cons_self) with z | z
      · exact z
      · rcases List.mem_cons.mp ((h b).mpr List.mem_cons_self) with w | w
        · exact w.symm
        · have := hm.1 a z; have := hl.1 b w; omega
    subst e
    congr 1
    refine asc_uniq hl.2 hm.2 fun k => ⟨fun hk => ?_, fun hk => ?_⟩
    · rcases List.mem_cons.mp ((h k).mp (List.mem_cons_of_mem _ hk)) with z | z
      · subst z; have := hl.1 k hk; omega
      · exact z
    · rcases List.mem_cons.mp ((h k).mpr (List.mem_cons_of_mem _ hk)) with z | z
      · subst z; have := hm.1 k hk; omega
      · exact z
theorem ascI_lt (ns : List Int) : (ascI ns).Pairwise (· < ·) := lt_of_nodup _ (sort_le _) ((List.mergeSort_perm _ _).nodup_iff.mpr (onceI_nodup ns))
theorem ascI_mem (ns : List Int) (k : Int) : k ∈ ascI ns ↔ k ∈ ns := by unfold ascI; rw [List.mem_mergeSort, onceI_mem]
def setSortIV (x : PV) (S : Sto) : Res PV := match lstOf S x with
  | some ys => (match asInts ys with
    | some ns => if ns.length ≤ 4000 then .ok (.lst ((ascI ns).map .int)) S else .stuck
    | none => .stuck)
  | none => .stuck
def keysI : List (Key × V) → Option (List Int)
  | [] => some []
  | (Sum.inl k, _) :: r => (keysI r).map (k :: ·)
  | _ => none
def sortDV (xs : List PV) (S : Sto) : Res PV := match xs with
  | [.cell n] => (match S[n]? with
    | some (.raw (.dK kvs)) => (match keysI kvs with
      | some ks => if ks.length ≤ 4000 then .ok (.lst ((ks.mergeSort fun a b => decide (a ≤ b)).map .int)) S else .stuck
      | none => .stuck)
    | _ => .stuck)
  | _ => .stuck
/-- list(range(a, b)) -/
def lrgV (x y : PV) (S : Sto) : Res PV := match x, y with
  | .int i, .int j => if smallI i ∧ smallI j ∧ (j - i).toNat ≤ 10000 then .ok (.lst (rangeP i (j - i).toNat)) S else .stuck
  | _, _ => .stuck
end
end LH

/-! LU: comprehensions over two sources. -/
namespace LH
open PySem PySem.Spec PyProof.Rows L2
theorem ER.mono {K : PySem.W.Frag} {F F' : Hp} {ci ci' : List Addr} {env : PEnv} {σ : St} (r : ER K F ci env σ) (e : Ext F F') (p : ci <+: ci') : ER K F' ci' env σ := ⟨r.len, fun i d h => by
  obtain ⟨v, q1, q2⟩ := r.get i d h
  exact ⟨v, q1, q2.mono e p⟩⟩
noncomputable def compL2 (o : Option Nat) (ds : List PV) (t : Tg) (it1 : IterD) (t1 : Tg) (ws1 : List Nat) (el : ExprD) (env0 : PEnv) : List PV → List PV → Sto → Res PV
  | [], acc, S => guardW o ds S (.ok (.lst acc) S)
  | d :: r, acc, S => guardW o ds S (match t.bind S d env0 with
    | none => .stuck
    | some env1 => (nox (it1 env1 S)).bind fun p S1 => if acc.length + p.2.length ≤ sizeLine then (compL p.1 p.2 t1 yesT el (wipeE env1 ws1) p.2 acc S1).bind fun x S2 => (match x with
      | .lst acc' => compL2 o ds t it1 t1 ws1 el env0 r acc' S2
      | _ => .stuck) else .stuck)
noncomputable def compE2 (it : IterD) (t : Tg) (it1 : IterD) (t1 : Tg) (ws ws1 : List Nat) (el : ExprD) : ExprD := fun env S => (it env S).bind fun p S1 => compL2 p.1 p.2 t it1 t1 ws1 el (wipeE env ws) p.2 [] S1
section
variable {it it1 : IterD} {t t1 : Tg} {el : ExprD}
variable {X : Cx} {W : WX} {elt tg iter tg1 iter1 : Expr} {scope : Scope} {own : List (Str × Nat)} {ws1 : List Nat} {pos : Pos}
end
end LH

/-! LV: a slice as a new mutable list. -/
namespace LH
open PySem PySem.Spec PyProof.Rows L2
def sliceCV (x : PV) (lo hi : Option Int) (S : Sto) : Res PV := match lstOf S x with
  | some xs => if bels 0 (cutP xs lo hi) = true then .ok (.cell S.length) (S ++ [.lst (cutP xs lo hi)]) else .stuck
  | none => .stuck
def sliceCE (a : ExprD) (l h : PartD) : ExprD := fun env S => (a env S).bind fun x S1 => (l env S1).bind fun lo S2 => (h env S2).bind fun hi S3 => sliceCV x lo hi S3
section
variable {X : Cx} {W : WX} {e : Expr} {lo hi : Option Expr} {p2 pos : Pos} {f : ExprD} {l h : PartD}
def rSlC (K : PySem.W.Frag) (mg : Str → Option Value) (E : XK) : V → Option Int → Option Int → Hp → VK → Prop := fun x lo hi H Q => ∃ F ci S d, SR K F ci S H ∧ Rp K F ci d x ∧ Out K (Zf K mg E) F ci H (sliceCV d lo hi S) fun d F' ci' S' H' => ∀ v, Rp K F' ci' d v → Q v H'
end
end LH

/-! LX: a module's tuple of ints. -/
namespace LH
open PySem PySem.Spec PyProof.Rows L2
section
variable {X : Cx} {W : WX} {pos : Pos}
end
end LH

/-! LY: a or b, a any value of which the truth is known. -/
namespace LH
open PySem PySem.Spec PyProof.Rows L2
section
variable {X : Cx} {W : WX} {a b : Expr} {pos : Pos} {fa fb : ExprD}
def tOrT (K : PySem.W.Frag) (ta tb : TE) : TE := fun σ H Q => ta σ H fun x H1 => ∃ k, TruV K x H1 k ∧ if k = true then Q x H1 else tb σ H1 Q
/-- the truth of None, a bool, a tuple -/
def truP : PV → Option Bool
  | .non => some false
  | .bl b => some b
  | .tup xs => some !xs.isEmpty
  | _ => none
def orNE (a b : ExprD) : ExprD := fun env S => (a env S).bind fun x S1 => match truP x with
  | some true => .ok x S1
  | some false => b env S1
  | none => .stuck
end
end LH

/-! LZ: the greatest of a tuple of ints. -/
namespace LH
open PySem PySem.Spec PyProof.Rows L2
def maxTB : List PV → Sto → Res PV := fun xs S => match xs with
  | [.tup ds] => match asInts ds with
    | some (n :: ns) => .ok (.int (ns.foldl max n)) S
    | _ => .stuck
  | _ => .stuck
section
variable {X : Cx} {E : XK}
end
end LH

/-! LZZ: list(zip(a, b)) of two lists. -/
namespace LH
open PySem PySem.Calls PySem.Spec PyProof.Rows L2
/-- the addresses as hold the pairs, in order, above lo -/
structure ZlG (xs ys : Array Value) (lo : Addr) (h : Heap) (as : List Addr) : Prop where
  rise : as.Pairwise (· < ·)
  above : ∀ a ∈ as, lo < a
  pairs : ∀ (j : Nat) (a : Addr), as[j]? = some a → ∃ x y, xs[j]? = some x ∧ ys[j]? = some y ∧ h.get? a = some { cls := .type "tuple", data := .seq #[x, y] }
theorem ZlG.there {xs ys : Array Value} {lo : Addr} {h : Heap} {as : List Addr} (g : ZlG xs ys lo h as) {a : Addr} (ha : a ∈ as) : a < h.objs.size := by
  obtain ⟨j, hj⟩ := List.mem_iff_getElem?.mp ha
  obtain ⟨_, _, _, _, e⟩ := g.pairs j a hj
  exact Heap.lt_size e
def ZlSt (z TI TO i1 i2 l1 l2 S : Addr) (xs ys : Array Value) (i : Nat) (h : Heap) : Prop := IsPair h TI (.ref i1) (.ref i2) ∧ h.IsListIter i1 l1 i ∧ h.IsListIter i2 l2 i ∧ h.IsList l1 xs ∧ h.IsList l2 ys ∧
  ((IsZip h z TI TO .none ∧ ∃ a b, IsPair h TO a b) ∨ ∃ T f oT, IsZipHeld h z TI TO T f ∧ h.get? T = some oT ∧ T ≠ z ∧ T ≠ i1 ∧ T ≠ i2 ∧ T ≠ S)
theorem ZlSt.keep {z TI TO i1 i2 l1 l2 S : Addr} {xs ys : Array Value} {i : Nat} {h h' : Heap} (st : ZlSt z TI TO i1 i2 l1 l2 S xs ys i h) (ne : z ≠ S ∧ TI ≠ S ∧ TO ≠ S ∧ i1 ≠ S ∧ i2 ≠ S ∧ l1 ≠ S ∧ l2 ≠ S) (hk : ∀ b o, b ≠ S → h.get? b = some o → h'.get? b = some o) : ZlSt z TI TO i1 i2 l1 l2 S xs ys i h' := by
  obtain ⟨hTI, h1, h2, hl1, hl2, hz⟩ := st
  obtain ⟨dz, dTI, dTO, di1, di2, dl1, dl2⟩ := ne
  refine ⟨hk _ _ dTI hTI, h1.at fun o e => hk _ o di1 e, h2.at fun o e => hk _ o di2 e, hl1.at fun o e => hk _ o dl1 e, hl2.at fun o e => hk _ o dl2 e, ?_⟩
  rcases hz with ⟨hz, a, b, hTO⟩ | ⟨T, f, oT, hz, hT, r1, r2, r3, r4⟩
  · exact .inl ⟨hk _ _ dz hz, a, b, hk _ _ dTO hTO⟩
  · exact .inr ⟨T, f, oT, hk _ _ dz hz, hk _ _ r4 hT, r1, r2, r3, r4⟩
section
variable {prog : Program} {w : World} {A : Around} {E : Value → Shared → Prop} {s : Shared}
end
/-- all of these lie below -/
structure ZlLo (z TI TO i1 i2 l1 l2 S : Addr) : Prop where
  z : z < S
  TI : TI < S
  TO : TO < S
  i1 : i1 < S
  i2 : i2 < S
  l1 : l1 < S
  l2 : l2 < S
theorem ZlLo.ne {z TI TO i1 i2 l1 l2 S : Addr} (h : ZlLo z TI TO i1 i2 l1 l2 S) : z ≠ S ∧ TI ≠ S ∧ TO ≠ S ∧ i1 ≠ S ∧ i2 ≠ S ∧ l1 ≠ S ∧ l2 ≠ S := ⟨Nat.ne_of_lt h.z, Nat.ne_of_lt h.TI, Nat.ne_of_lt h.TO, Nat.ne_of_lt h.i1, Nat.ne_of_lt h.i2, Nat.ne_of_lt h.l1, Nat.ne_of_lt h.l2⟩
section
variable {prog : Program} {w : World} {A : Around} {s : Shared} {R : Result → Shared → Prop} {z TI TO i1 i2 l1 l2 S : Addr} {xs ys : Array Value}
end
section
variable {prog : Program} {w : World} {A : Around} {E : Value → Shared → Prop} {s : Shared} {z TI TO i1 i2 l1 l2 : Addr} {xs ys : Array Value}
end
/-! the tuples tracked at their addresses -/
def putP : Hp → List Addr → List (V × V) → Hp
  | H, a :: as, p :: r => putP (upd H a (.tup [p.1, p.2])) as r
  | H, _, _ => H
section
variable {X : Cx}
def tZl (K : PySem.W.Frag) (ta : TA) : TE := fun σ H Q => ta σ H fun vs H1 => ∃ a b xs ys, vs = [V.ref a, V.ref b] ∧ SqL K H1 a xs ∧ SqL K H1 b ys ∧
  ∀ (ts : List Addr) (p : Addr), ts.length = (xs.zip ys).length → ts.Nodup → (∀ t ∈ ts, H1 t = none) → H1 p = none → p ∉ ts → Q (.ref p) (upd (putP H1 ts (xs.zip ys)) p (.lst (ts.map V.ref)))
end
/-! as trees -/
section
variable {X : Cx} {W : WX}
def lzipV (x y : PV) (S : Sto) : Res PV := match frozen x, frozen y with
  | some (false, xs), some (false, ys) => .ok (.lst (zipP xs ys)) S
  | _, _ => .stuck
@[simp] theorem lzipV_ll {xs ys : List PV} {S : Sto} : lzipV (.lst xs) (.lst ys) S = .ok (.lst (zipP xs ys)) S := (rfl)
end
end LH

/-! LEN: enumerate of a list or a tuple. -/
namespace LH
open PySem PySem.Spec PyProof.Rows L2
/-- the items of a list or tuple, each in a new pair -/
def IteB (t : Bool) (K : PySem.W.Frag) (a : Addr) : It :=
  ⟨fun i H => ∃ (xs : List V) (x : V), SqB t K H a xs ∧ xs[i]? = some x, fun i H v H' => ∃ T x, v = .ref T ∧ H T = none ∧ H' = upd H T (.tup [.int (i : Nat), x]) ∧ ∀ xs, SqB t K H a xs → xs[i]? = some x, fun i H => ∃ xs : List V, SqB t K H a xs ∧ i = xs.length⟩
def enumMI (a : ExprD) : IterD := fun env S => (a env S).bind fun x S1 => match frozen x with
  | some (_, xs) => .ok (none, enumP 0 xs) S1
  | _ => .stuck
def emK (x : PV) (S : Sto) : Res (Option Nat × List PV) := match frozen x with
  | some (_, xs) => .ok (none, enumP 0 xs) S
  | _ => .stuck
@[simp] theorem enumMI_s {a : ExprD} {env : PEnv} {S : Sto} : enumMI a env S = (a env S).bind emK := (rfl)
@[simp] theorem emK_l {xs : List PV} {S : Sto} : emK (.lst xs) S = .ok (none, enumP 0 xs) S := (rfl)
@[simp] theorem emK_t {xs : List PV} {S : Sto} : emK (.tup xs) S = .ok (none, enumP 0 xs) S := (rfl)
end LH

/-! LCP: list(x) as a new cell. -/
namespace LH
open PySem PySem.Spec PyProof.Rows L2
def listCB : List PV → Sto → Res PV := fun xs S => match xs with
  | [d] => match seqOf S d with
    | some ys => if bels 0 ys = true then .ok (.cell S.length) (S ++ [.lst ys]) else .stuck
    | none => .stuck
  | _ => .stuck
section
variable {X : Cx} {E : XK}
end
end LH

/-! LRP: a list times a number. -/
namespace LH
open PySem PySem.Spec PyProof.Rows L2
def repV : PV → PV → Sto → Res PV := fun x y S => match y with
  | .int k => (match catOf S x with
    | some a => if 0 ≤ k ∧ k ≤ 1000 ∧ a.length * k.toNat ≤ sizeLine then .ok (.lst (List.replicate k.toNat a).flatten) S else .stuck
    | none => .stuck)
  | _ => .stuck
theorem len_flat {α : Type} (a : List α) : ∀ n : Nat, (List.replicate n a).flatten.length = a.length * n
  | 0 => by simp
  | n + 1 => by rw [List.replicate_succ, List.flatten_cons, List.length_append, len_flat a n, Nat.mul_succ]; omega
section
variable {X : Cx} {E : XK}
theorem rps_flat {K : PySem.W.Frag} {F : Hp} {ci : List Addr} {xs : List PV} {vs : List V} (h : Rps K F ci xs vs) : ∀ n : Nat, Rps K F ci (List.replicate n xs).flatten (List.replicate n vs).flatten
  | 0 => .nil
  | n + 1 => by rw [List.replicate_succ, List.replicate_succ, List.flatten_cons, List.flatten_cons]; exact h.append (rps_flat h n)
theorem od_rep : OpR X (binaryOp .Mult) (rD X.K X.mg E repV) := by
  intro pins s σ H x y v u Q I rx ry q
  obtain ⟨F, ci, S, dx, dy, sr, r1, r2, q⟩ := q
  unfold repV at q
  split at q
  case h_2 => exact q.elim
  rename_i k
  split at q
  case h_2 => exact q.elim
  rename_i a ha
  split at q
  case isFalse => exact q.elim
  rename_i hk
  obtain ⟨l, vs, rfl, e1, rs1, _⟩ := cat_lst sr r1 ha
  cases r2
  refine op_rep pins s σ H _ _ v u Q I rx ry ⟨l, k, vs, rfl, rfl, e1, by omega, by omega, by rw [← rs1.length]; exact hk.2.2, fun p hp => ?_⟩
  obtain ⟨s2, l2⟩ := sr.laid (o := .lst (List.replicate k.toNat vs).flatten) hp
  exact q _ _ _ l2 s2 _ (.lst upd_same (by rw [len_flat]; exact hk.2.2) (l2.rps (rps_flat rs1 _)))
end
theorem repV_of {x : PV} {a : List PV} {n : Nat} {S : Sto} (h : catOf S x = some a) (hn : n ≤ 1000) (hl : a.length * n ≤ 1000) : repV x (.int (n : Int)) S = .ok (.lst (List.replicate n a).flatten) S := by
  unfold repV
  dsimp only
  rw [h]
  dsimp only
  have e : ((n : Int)).toNat = n := rfl
  rw [e]
  exact if_pos ⟨by omega, by omega, by rw [sizeLine_eq]; omega⟩
end LH

/-! LRV: x[::-1] of a list; list(range(n)). -/
namespace LH
open PySem PySem.Spec PyProof.Rows L2
def revV (x : PV) (S : Sto) : Res PV := match lstOf S x with
  | some xs => .ok (.lst xs.reverse) S
  | none => .stuck
def lrg1V (x : PV) (S : Sto) : Res PV := match x with
  | .int j => if smallI j ∧ j.toNat ≤ 10000 then .ok (.lst (rangeP 0 j.toNat)) S else .stuck
  | _ => .stuck
section
variable {X : Cx} {W : WX}
end
end LH

/-! LRT: x[::-1] of a list or a tuple. -/
namespace L2
open PySem PySem.Spec PyProof.Rows HT
section
variable {prog : Program} {w : World} {A : Around} {E : Value → Shared → Prop} {s : Shared}
theorem adjust_rev (n : Nat) : Builtin.Slice.sliceAdjust none none (-1) (n : Int) = ((n : Int) - 1, -1) := by
  unfold Builtin.Slice.sliceAdjust
  rfl
theorem places_rev (n : Nat) : Builtin.Slice.slicePlaces ((n : Int) - 1) (-1) (-1) = n := by
  unfold Builtin.Slice.slicePlaces
  have h1 : ¬ ((-1 : Int) > 0) := by omega
  have h2 : -(-1 : Int) = 1 := by omega
  simp only [h1, if_false, h2, Int.ediv_one]
  split <;> omega
theorem applied_rev {sl : Addr} {vl vu vs : Value} {n : Nat} {Q : Int × Int × Nat → Shared → Prop} (hs : s.heap.IsSliceOf sl vl vu vs) (pl : IsPart vl none) (pu : IsPart vu none) (ps : IsPart vs (some (-1)))
    (h : Q ((n : Int) - 1, -1, n) s) : wpAny (model prog w) A (Builtin.Slice.sliceApplied (.ref sl) (pure (n : Int))) Q E s := by
  obtain ⟨os, hos, hcs, hds⟩ := id hs
  unfold Builtin.Slice.sliceApplied Builtin.Slice.sliceFields
  refine wpAny_bind (wpAny_bind (wpAny_field hos hds (x := vl) rfl (wpAny_bind (wpAny_field hos hds (x := vu) rfl (wpAny_bind (wpAny_field hos hds (x := vs) rfl (wpAny_pure ?_)))))))
  refine wpAny_bind (slicePart_ ps ?_)
  show wpAny _ _ (if ((-1 : Int) == 0) = true then _ else _) _ _ s
  rw [if_neg (by decide)]
  refine wpAny_bind (slicePart_ pl (wpAny_bind (slicePart_ pu (wpAny_bind (wpAny_pure ?_)))))
  show wpAny _ _ (match Builtin.Slice.sliceAdjust none none (-1) (n : Int) with | (lo, hi) => pure (lo, (-1 : Int), Builtin.Slice.slicePlaces lo hi (-1))) _ _ s
  rw [adjust_rev n]
  show wpAny _ _ (pure ((n : Int) - 1, (-1 : Int), Builtin.Slice.slicePlaces ((n : Int) - 1) (-1) (-1))) _ _ s
  rw [places_rev]
  exact wpAny_pure h
theorem fm_congr {α β : Type} {f g : α → Option β} : ∀ {l : List α}, (∀ a ∈ l, f a = g a) → l.filterMap f = l.filterMap g
  | [], _ => rfl
  | a :: l, h => by
    rw [List.filterMap_cons, List.filterMap_cons, h a List.mem_cons_self, fm_congr fun b hb => h b (List.mem_cons_of_mem _ hb)]
theorem pick_rev (xs : Array Value) : ((List.range xs.size).filterMap fun (m : Nat) => xs[(((xs.size : Int) - 1) + (m : Int) * (-1)).toNat]?).toArray = xs.toList.reverse.toArray := by
  congr 1
  have e : ∀ m ∈ List.range xs.size, xs[(((xs.size : Int) - 1) + (m : Int) * (-1)).toNat]? = some (xs.toList.reverse[m]?.getD .none) := fun m hm => by
    have hm := List.mem_range.mp hm
    have h1 : (((xs.size : Int) - 1) + (m : Int) * (-1)).toNat = xs.size - 1 - m := by omega
    rw [h1, List.getElem?_reverse (by rw [Array.length_toList]; exact hm), Array.length_toList]
    have h2 : xs.size - 1 - m < xs.size := by omega
    rw [Array.getElem?_toList, Array.getElem?_eq_getElem h2]
    rfl
  rw [fm_congr e]
  rw [show (List.range xs.size).filterMap (fun m => some (xs.toList.reverse[m]?.getD .none)) = (List.range xs.size).map fun m => xs.toList.reverse[m]?.getD .none from by
    rw [← List.filterMap_eq_map]; rfl]
  refine List.ext_getElem? fun i => ?_
  rw [List.getElem?_map]
  by_cases hi : i < xs.size
  · rw [List.getElem?_range hi]
    have h2 : i < xs.toList.reverse.length := by rw [List.length_reverse, Array.length_toList]; exact hi
    rw [Option.map_some, List.getElem?_eq_getElem h2]
    rfl
  · rw [List.getElem?_eq_none (by rw [List.length_range]; omega), List.getElem?_eq_none (by rw [List.length_reverse, Array.length_toList]; omega)]
    rfl
theorem getItem_tuple_rev {t sl : Addr} {items : Array Value} {vl vu vs : Value} {Q : Value → Shared → Prop} (ht : IsTup s.heap t items) (hs : s.heap.IsSliceOf sl vl vu vs) (pl : IsPart vl none) (pu : IsPart vu none) (ps : IsPart vs (some (-1)))
    (h : Q (.ref s.heap.objs.size) { s with heap := s.heap.push { cls := .type "tuple", data := .seq items.toList.reverse.toArray } })
    (hsz : items.size ≤ sizeLine) : wpAny (model prog w) A (getItem (.ref t) (.ref sl)) Q E s := by
  have htake : sizeOk (.seq items.toList.reverse.toArray) := by
    show items.toList.reverse.toArray.size ≤ sizeLine
    rw [List.size_toArray, List.length_reverse, Array.length_toList]
    omega
  obtain ⟨os, hos, hcs, hds⟩ := id hs
  have hTs : s.TypeIs (.ref sl) "slice" := ⟨os, hos, hcs⟩
  unfold getItem
  try with_reducible refine wpAny_holding ?_
  first | refine wpAny_bind (wpAny_pure ?_) | skip
  refine wpAny_bind (wpAny_sequenceKey ht.typeIs (by decide) ?_)
  refine wpAny_bind (wpAny_callSpecial?_slot (name := Str.ofString "__getitem__") ht.typeIs PyProof.Rows.slot_tuple_getitem
    (wpAny_call_entry PyProof.Rows.slot_tuple_getitem ht.typeIs entry_tuple_getitem ?_ (args_tuple_getitem _ _)))
  show wpAny _ _ (Builtin.Tuple.tupleItemsOf (.ref t) >>= _) _ _ s
  refine wpAny_bind (tupleItemsOf_ ht ?_)
  refine wpAny_bind (wpAny_typeOf hTs ?_)
  rw [if_pos (by decide)]
  refine wpAny_bind (applied_rev hs pl pu ps ?_)
  have hno : ¬ ((((items.size : Int) - 1) == 0 && (-1 : Int) == 1 && items.size == items.size) = true) := by
    rw [show ((-1 : Int) == 1) = false from rfl]; simp
  show wpAny _ _ (if (((items.size : Int) - 1) == 0 && (-1 : Int) == 1 && items.size == items.size) = true then _ else _) _ _ s
  rw [if_neg hno, pick_rev]
  first
    | exact wpAny_bind (m := Builtin.Tuple.tupleExact _) (wpAny_newObj_type (wpAny_pure ⟨_, rfl, wpAny_pure h⟩) htake)
    | exact wpAny_bind (m := Builtin.Tuple.tupleExact _) (wpAny_newObj_type (wpAny_bind (wpAny_pure (wpAny_pure ⟨_, rfl, wpAny_pure h⟩))) htake)
    | exact wpAny_bind (wpAny_bind (m := Builtin.Tuple.tupleExact _) (wpAny_newObj_type (wpAny_pure (wpAny_pure ⟨_, rfl, wpAny_pure h⟩)) htake))
    | exact wpAny_bind (wpAny_bind (m := Builtin.Tuple.tupleExact _) (wpAny_newObj_type (wpAny_pure ⟨_, rfl, wpAny_pure h⟩) htake))
end
def tRevT (K : PySem.W.Frag) (te : TE) : TE := fun σ H Q => te σ H fun x H1 => ∃ a xs, x = .ref a ∧ ((SqL K H1 a xs ∧ ∀ p, H1 p = none → Q (.ref p) (upd H1 p (.lst xs.reverse))) ∨ (SqT K H1 a xs ∧ ∀ p, H1 p = none → Q (.ref p) (upd H1 p (.tup xs.reverse))))
section
variable {X : Cx}
theorem pe_revA {e : Expr} {te : TE} {k : Nat} {p1 p2 p3 pos : Pos} (he : PE X e te) : PE X (.Subscript e (.Slice none none (some (.UnaryOp .USub (.Constant (.int 1) k p1) p2)) p3) pos) (tRevT X.K te) := by
  refine ⟨fun pins s σ H Q I h => ?_⟩
  refine Subscript_ (thn (he.run pins s σ H _ I h) fun v s1 ⟨x, H1, I1, r1, q1⟩ => ?_)
  obtain ⟨a, xs, ex, hxq⟩ := q1
  subst ex
  cases r1
  have hst : PO X (some (.UnaryOp .USub (.Constant (.int 1) k p1) p2)) (tPart (tUn (rU fun i => .int (-i)) (tC (.int 1)))) := po_some (pe_un un_neg pe_int)
  refine wpAny_Slice (thn (po_none.run pins s1 σ H1 (fun o H2 => o = none ∧ H2 = H1) I1 ⟨rfl, rfl⟩) fun vl s2 ⟨l, H2, I2, pl, el, e2⟩ => ?_)
  subst el e2
  refine thn (po_none.run pins s2 σ H2 (fun o H3 => o = none ∧ H3 = H2) I2 ⟨rfl, rfl⟩) fun vu s3 ⟨u, H3, I3, pu, eu, e3⟩ => ?_
  subst eu e3
  refine thn (hst.run pins s3 σ H3 (fun o H4 => o = some (-1) ∧ H4 = H3) I3 ⟨1, rfl, -1, rfl, rfl, rfl⟩) fun vs s4 ⟨o, H4, I4, ps, eo, e4⟩ => ?_
  subst eo e4
  have I5 : Inv X pins σ H4 { s4 with heap := s4.heap.push { cls := .type "slice", data := .fields #[vl, vu, vs] } } := I4.kept (t' := s4.toks) fun b ob q => Heap.get?_push_of_some _ q
  show wpAny (model X.prog X.w) X.A (subscriptTail e (.Slice none none (some (.UnaryOp .USub (.Constant (.int 1) k p1) p2)) p3) (.ref a) (.ref s4.heap.objs.size)) (EP X pins σ Q) X.xe { s4 with heap := s4.heap.push { cls := .type "slice", data := .fields #[vl, vu, vs] } }
  rcases hxq with ⟨hx, q⟩ | ⟨hx, q⟩
  · obtain ⟨its, r, ht, hz⟩ := I5.list hx
    have hlen := r.length
    refine tail_any (ops := [.ref a, .ref s4.heap.objs.size]) ht.isList.typeIs (PySem.slot_list_getitem.lookup) ?_ (by with_unfolding_all rfl)
    refine wpAny_getItem_list_slice ht.isList (Heap.IsSliceOf.new _ vl vu vs) pl pu ps (by decide) ?_ (by rw [List.size_toArray]; omega)
    rw [PySem.W.krv_pick]
    refine ⟨.ref _, _, I5.laid (t' := s4.toks) (o := .lst xs.reverse) (fun b ob q => Heap.get?_push_of_some _ q) (Nat.le_refl _) ?_, rfl, q _ (I5.hok.fresh (Nat.le_refl _))⟩
    exact ⟨by rw [List.length_reverse]; exact hz, _, 0, r.reverse, Heap.get?_push_size _ rfl⟩
  · obtain ⟨its, r, ht, hz⟩ := I5.tuple hx
    have hlen := r.length
    refine tail_any (ops := [.ref a, .ref s4.heap.objs.size]) ht.typeIs (PyProof.Rows.slot_tuple_getitem.lookup) ?_ (by with_unfolding_all rfl)
    refine getItem_tuple_rev ht (Heap.IsSliceOf.new _ vl vu vs) pl pu ps ?_ (by rw [List.size_toArray]; omega)
    refine ⟨.ref _, _, I5.laid (t' := s4.toks) (o := .tup xs.reverse) (fun b ob q => Heap.get?_push_of_some _ q) (Nat.le_refl _) ?_, rfl, q _ (I5.hok.fresh (Nat.le_refl _))⟩
    exact ⟨by rw [List.length_reverse]; exact hz, _, r.reverse, IsTup.new _ _⟩
end
end L2
namespace LH
open PySem PySem.Spec PyProof.Rows L2
def revAV (x : PV) (S : Sto) : Res PV := match x with
  | .tup xs => .ok (.tup xs.reverse) S
  | d => revV d S
section
variable {X : Cx} {W : WX}
theorem de_revA {e : Expr} {f : ExprD} {k : Nat} {p1 p2 p3 pos : Pos} (he : PE X e (tE X.K X.mg W f)) : PE X (.Subscript e (.Slice none none (some (.UnaryOp .USub (.Constant (.int 1) k p1) p2)) p3) pos) (tE X.K X.mg W (unE revAV f)) := (pe_revA he).imp fun σ H Q h => by
  obtain ⟨env, F, ci, S, sr, er, h⟩ := h
  refine ⟨env, F, ci, S, sr, er, (Out.bind h).imp fun dx F1 c1 S1 H1 l1 s1 h1 v1 r1 => ?_⟩
  unfold revAV at h1
  split at h1
  · rename_i xs
    cases r1 with
    | tup e z rs =>
      rename_i a vs
      refine ⟨a, vs, rfl, .inr ⟨s1.sqT e, fun p hp => ?_⟩⟩
      obtain ⟨s3, l3⟩ := s1.laid (o := .tup vs.reverse) hp
      exact h1 _ _ _ l3 s3 _ (.tup (.inl rd_new) (by rw [List.length_reverse]; exact z) (l3.rps rs.reverse))
  · unfold revV at h1
    split at h1
    · rename_i xs hx
      obtain ⟨a, vs, rfl, hs, rs, z⟩ := lst_rd s1 r1 hx
      refine ⟨a, vs, rfl, .inl ⟨hs, fun p hp => ?_⟩⟩
      obtain ⟨s3, l3⟩ := s1.laid (o := .lst vs.reverse) hp
      exact h1 _ _ _ l3 s3 _ (.lst upd_same (by rw [List.length_reverse]; exact z) (l3.rps rs.reverse))
    · exact h1.elim
end
end LH

/-! LOB: instances of own classes as cells: fields read and written. -/
namespace LH
open PySem PySem.Spec PyProof.Rows L2
/-- an instance of the class C: its fields' names -/
def insG (C : Addr) (ns : List Str) : Addr → List V → HO := fun dx vs => .ins C dx (ns.zip vs)
open Classical in
noncomputable def insAt (S : Sto) (C : Addr) (ns : List Str) (x : PV) : Option (Nat × List PV) := match x with
  | .cell n => match S[n]? with
    | some (.gen two g xs) => if two = true ∧ g = insG C ns ∧ xs.length = ns.length then some (n, xs) else none
    | _ => none
  | _ => none
theorem insAt_of {S : Sto} {C : Addr} {ns : List Str} {n : Nat} {xs : List PV} (h : S[n]? = some (.gen true (insG C ns) xs)) (hl : xs.length = ns.length) : insAt S C ns (.cell n) = some (n, xs) := by
  unfold insAt
  dsimp only
  rw [h]
  dsimp only
  rw [if_pos ⟨rfl, rfl, hl⟩]
section
variable {K : PySem.W.Frag} {F : Hp} {ci : List Addr} {S : Sto} {H : Hp} {C : Addr} {ns : List Str}
theorem ins_rd {d : PV} {v : V} {n : Nat} {xs : List PV} (s : SR K F ci S H) (r : Rp K F ci d v) (h : insAt S C ns d = some (n, xs)) :
    ∃ a dx vs, d = .cell n ∧ v = .ref a ∧ ci[n]? = some a ∧ S[n]? = some (.gen true (insG C ns) xs) ∧ F a = none ∧ H a = some (.ins C dx (ns.zip vs)) ∧ Rps K F ci xs vs ∧ xs.length = ns.length ∧ (xs.length ≤ sizeLine ∧ bels 0 xs = true) ∧ F dx = none ∧ dx ∉ ci ∧ H dx = some (.own a) := by
  unfold insAt at h
  split at h
  · rename_i m
    split at h
    · rename_i two g ys e
      split at h
      · rename_i hc
        cases h
        obtain ⟨rfl, rfl, hl⟩ := hc
        cases r with
        | cell ec =>
          obtain ⟨a, e1, dx, vs, h1, h2, h3, h4, h5⟩ := s.gel _ _ _ _ e
          rw [ec] at e1; cases e1
          obtain ⟨k1, k2, k3⟩ := h5 rfl
          exact ⟨_, dx, vs, rfl, rfl, ec, e, h1, h2, h4, hl, h3, k1, k2, k3⟩
      · cases h
    · cases h
  · cases h
/-- the thing of a cell written anew -/
theorem SR.regen (s : SR K F ci S H) {n : Nat} {a dx : Addr} {two : Bool} {g g' : Addr → List V → HO} {xs xs' : List PV} {vs' : List V} (hc : ci[n]? = some a) (ho : S[n]? = some (.gen two g xs)) (hF : F a = none)
    (hk : two = true → F dx = none ∧ dx ∉ ci ∧ H dx = some (.own a)) (z : xs'.length ≤ sizeLine ∧ bels 0 xs' = true) (r : Rps K F ci xs' vs') :
    SR K F ci (S.set n (.gen two g' xs')) (upd H a (g' dx vs')) ∧ Later F ci H F ci (upd H a (g' dx vs')) := by
  have hm : a ∈ ci := List.mem_of_getElem? hc
  have hl : n < S.length := (List.getElem?_eq_some_iff.mp ho).1
  have other : ∀ {m : Nat} {b : Addr}, n ≠ m → ci[m]? = some b → b ≠ a := by
    rintro m b hmn f1 rfl
    obtain ⟨h1, h2⟩ := List.getElem?_eq_some_iff.mp hc
    obtain ⟨h3, h4⟩ := List.getElem?_eq_some_iff.mp f1
    exact hmn ((List.getElem_inj s.nd).mp (h2.trans h4.symm))
  have away : ∀ {m : Nat} {c : Cell}, (S.set n (.gen two g' xs'))[m]? = some c → (∀ t g ys, c ≠ .gen t g ys) → n ≠ m ∧ S[m]? = some c := by
    intro m c e hc
    by_cases hmn : n = m
    · subst hmn
      rw [List.getElem?_set_self hl] at e
      cases e
      exact absurd rfl (hc _ _ _)
    · rw [List.getElem?_set_ne hmn] at e
      exact ⟨hmn, e⟩
  refine ⟨⟨fun c w q => ?_, by simp [s.len], s.nd, fun c hc' => ?_, fun m ys e => ?_, fun m w e => ?_, fun m t g2 ys e => ?_⟩, ⟨.refl _, List.prefix_refl _, fun c w q hn => ?_, fun c h1 h2 => absurd h1 h2, fun _ _ q => .inl q⟩⟩
  · have : c ≠ a := by rintro rfl; rw [hF] at q; cases q
    rw [upd_ne this]; exact s.le c w q
  · by_cases hca : c = a
    · subst hca; exact ⟨_, upd_same⟩
    · rw [upd_ne hca]; exact s.there c hc'
  · obtain ⟨hmn, e⟩ := away e (fun _ _ _ h => by cases h)
    obtain ⟨b, us, f1, f2, f3, f4, f5⟩ := s.cel m ys e
    exact ⟨b, us, f1, f2, by rw [upd_ne (other hmn f1)]; exact f3, f4, f5⟩
  · obtain ⟨hmn, e⟩ := away e (fun _ _ _ h => by cases h)
    obtain ⟨b, f1, f2, f3⟩ := s.kel m w e
    exact ⟨b, f1, f2, by rw [upd_ne (other hmn f1)]; exact f3⟩
  · by_cases hmn : n = m
    · subst hmn
      rw [List.getElem?_set_self hl] at e
      cases e
      refine ⟨a, hc, dx, vs', hF, upd_same, z, r, fun t => ?_⟩
      obtain ⟨k1, k2, k3⟩ := hk t
      have : dx ≠ a := fun e => k2 (e ▸ hm)
      exact ⟨k1, k2, by rw [upd_ne this]; exact k3⟩
    · rw [List.getElem?_set_ne hmn] at e
      obtain ⟨b, f1, hg⟩ := s.gel m t g2 ys e
      exact ⟨b, f1, hg.updc (other hmn f1) hm⟩
  · have : c ≠ a := fun z => hn (z ▸ hm)
    rw [upd_ne this]; exact q
end
noncomputable def fldV (C : Addr) (ns : List Str) (f : Str) (x : PV) (S : Sto) : Res PV := match insAt S C ns x with
  | some (_, xs) => match (ns.zip xs).lookup f with
    | some v => .ok v S
    | none => .stuck
  | none => .stuck
def putFl {α : Type} (f : Str) (y : α) : List Str → List α → List α
  | g :: ns, x :: xs => if g = f then y :: xs else x :: putFl f y ns xs
  | _, xs => xs
theorem putFl_len {α : Type} (f : Str) (y : α) : ∀ (ns : List Str) (xs : List α), (putFl f y ns xs).length = xs.length
  | [], _ => rfl
  | _ :: _, [] => rfl
  | g :: ns, x :: xs => by
    unfold putFl
    split
    · rfl
    · rw [List.length_cons, putFl_len f y ns xs]; rfl
theorem putF_zip (f : Str) (y : V) : ∀ (ns : List Str) (vs : List V), vs.length = ns.length → putF f y (ns.zip vs) = if f ∈ ns then ns.zip (putFl f y ns vs) else (ns ++ [f]).zip (vs ++ [y])
  | [], [], _ => by simp [putF]
  | [], _ :: _, h => by simp at h
  | _ :: _, [], h => by simp at h
  | g :: ns, v :: vs, h => by
    have ih := putF_zip f y ns vs (by simpa using h)
    rw [List.zip_cons_cons]
    unfold putF putFl
    by_cases hg : g = f
    · subst hg
      simp
    · rw [if_neg hg, if_neg hg, ih]
      have hg' : ¬ f = g := fun e => hg e.symm
      by_cases hf : f ∈ ns
      · rw [if_pos hf, if_pos (List.mem_cons_of_mem _ hf), List.zip_cons_cons]
      · rw [if_neg hf, if_neg (by simp [hg', hf])]
        rfl
open Classical in
/-- o.f = e: the value, the instance -/
noncomputable def setFS (C : Addr) (ns : List Str) (f : Str) (fo fv : ExprD) : StmtD := fun env S => runE (fv env S) env fun y S1 => runE (fo env S1) env fun d S2 => match insAt S2 C ns d with
  | some (n, xs) => if bel 0 y = true ∧ ns.length < 1000 then (if f ∈ ns then .ok (.nx env) (S2.set n (.gen true (insG C ns) (putFl f y ns xs))) else .ok (.nx env) (S2.set n (.gen true (insG C (ns ++ [f])) (xs ++ [y])))) else .stuck
  | none => .stuck
theorem rps_putFl {K : PySem.W.Frag} {F : Hp} {ci : List Addr} {f : Str} {y : PV} {v : V} (r : Rp K F ci y v) : ∀ {ns : List Str} {xs : List PV} {vs : List V}, Rps K F ci xs vs → Rps K F ci (putFl f y ns xs) (putFl f v ns vs)
  | [], _, _, .nil => .nil
  | [], _, _, .cons r1 rs => .cons r1 rs
  | _ :: _, _, _, .nil => .nil
  | g :: ns, _, _, .cons r1 rs => by
    unfold putFl
    split
    · exact .cons r rs
    · exact .cons r1 (rps_putFl r rs)
theorem bels_putFl {f : Str} {y : PV} (hy : bel 0 y = true) : ∀ {ns : List Str} {xs : List PV}, bels 0 xs = true → bels 0 (putFl f y ns xs) = true
  | [], _, h => h
  | _ :: _, [], h => h
  | g :: ns, x :: xs, h => by
    have h' : (bel 0 x && bels 0 xs) = true := h
    rw [Bool.and_eq_true] at h'
    unfold putFl
    split
    · show (bel 0 y && bels 0 xs) = true
      rw [hy, h'.2]; rfl
    · show (bel 0 x && bels 0 (putFl f y ns xs)) = true
      rw [h'.1, bels_putFl hy h'.2]; rfl
section
variable {X : Cx} {W : WX} {e o value : Expr} {fe fo fv : ExprD} {pos pos' : Pos} {C : Addr} {ns : List Str} {f : Str}
theorem ds_fldO (ho : PE X o (tE X.K X.mg W fo)) (hv : PE X value (tE X.K X.mg W fv)) (c : Cls X.K C) (na : NoAttr X.K C f) (hs : swapsWith value (some (.Attribute o f pos')) pos.line X.env = pure false := by rfl) :
    PS X (.Assign [.Attribute o f pos'] value pos) (tSX X W (setFS C ns f fo fv)) := (ps_fld ho hv hs).imp fun D σ H h => by
  obtain ⟨env, F, ci, S, sr, er, h⟩ := h
  refine ⟨env, F, ci, S, sr, er, (runE_out er h).imp fun y F1 c1 S1 H1 l1 s1 h1 v1 r1 => ?_⟩
  refine ⟨env, F1, c1, S1, s1, er.later l1, (runE_out (er.later l1) h1).imp fun d F2 c2 S2 H2 l2 s2 h2 v2 r2 => ?_⟩
  split at h2
  · rename_i n xs hx
    split at h2
    · rename_i hc
      obtain ⟨hbel, hns⟩ := hc
      obtain ⟨a, dx, vs, rfl, rfl, e1, e2, e3, e4, rs, hl, z, k1, k2, k3⟩ := ins_rd s2 r2 hx
      have hlv : vs.length = ns.length := by rw [← rs.length]; exact hl
      have r1' := l2.rp r1
      have hz := putF_zip f v1 ns vs hlv
      refine ⟨a, C, dx, _, rfl, e4, c, na, by rw [List.length_zip, hlv]; omega, ?_⟩
      rw [hz]
      split at h2
      · rename_i hf
        rw [if_pos hf]
        obtain ⟨s3, l3⟩ := s2.regen (g' := insG C ns) (dx := dx) (xs' := putFl f y ns xs) (vs' := putFl f v1 ns vs) e1 e2 e3 (fun _ => ⟨k1, k2, k3⟩) ⟨by rw [putFl_len]; exact z.1, bels_putFl hbel z.2⟩ (rps_putFl r1' rs)
        exact h2 _ _ _ l3 s3 _ ((er.later l1).later (l2.trans l3))
      · rename_i hf
        rw [if_neg hf]
        obtain ⟨s3, l3⟩ := s2.regen (g' := insG C (ns ++ [f])) (dx := dx) (xs' := xs ++ [y]) (vs' := vs ++ [v1]) e1 e2 e3 (fun _ => ⟨k1, k2, k3⟩) ⟨by rw [List.length_append, sizeLine_eq]; simp; omega, by rw [bels_append, z.2]; simp [bels, hbel]⟩ (rs.append (.cons r1' .nil))
        exact h2 _ _ _ l3 s3 _ ((er.later l1).later (l2.trans l3))
    · exact h2.elim
  · exact h2.elim
end
end LH

/-! LOC: new instances as cells. -/
namespace LH
open PySem PySem.Spec PyProof.Rows L2
section
variable {K : PySem.W.Frag} {F : Hp} {ci : List Addr} {S : Sto} {H : Hp}
/-- something new beside all that is kept -/
theorem SR.side (s : SR K F ci S H) {p : Addr} {o : HO} (h : H p = none) : SR K F ci S (upd H p o) ∧ Later F ci H F ci (upd H p o) := by
  refine ⟨⟨fun a u q => ?_, s.len, s.nd, fun a hm => ?_, fun n xs e => ?_, fun n u e => ?_, fun n two g xs e => ?_⟩, ⟨.refl _, List.prefix_refl _, fun a u q _ => ?_, fun a h1 h2 => absurd h1 h2, fun _ _ q => .inl q⟩⟩
  · have := s.le a u q
    rw [upd_ne (ne_of_none this h)]; exact this
  · obtain ⟨u, e⟩ := s.there a hm
    exact ⟨u, by rw [upd_ne (ne_of_none e h)]; exact e⟩
  · obtain ⟨a, vs, e1, e2, e3, e4⟩ := s.cel n xs e
    exact ⟨a, vs, e1, e2, by rw [upd_ne (ne_of_none e3 h)]; exact e3, e4⟩
  · obtain ⟨a, e1, e2, e3⟩ := s.kel n u e
    exact ⟨a, e1, e2, by rw [upd_ne (ne_of_none e3 h)]; exact e3⟩
  · obtain ⟨a, e1, hg⟩ := s.gel n two g xs e
    exact ⟨a, e1, hg.upd (hg.ne h) fun b q => by rw [h] at q; cases q⟩
  · rw [upd_ne (ne_of_none q h)]; exact q
/-- a new thing made of values -/
theorem SR.gened (s : SR K F ci S H) {p dx : Addr} {two : Bool} {g : Addr → List V → HO} {xs : List PV} {vs : List V} (h : H p = none) (z : xs.length ≤ sizeLine ∧ bels 0 xs = true) (r : Rps K F ci xs vs)
    (hk : two = true → F dx = none ∧ dx ∉ ci ∧ dx ≠ p ∧ H dx = some (.own p)) :
    SR K F (ci ++ [p]) (S ++ [.gen two g xs]) (upd H p (g dx vs)) ∧ Later F ci H F (ci ++ [p]) (upd H p (g dx vs)) ∧ (ci ++ [p])[S.length]? = some p := by
  have hp : ci <+: ci ++ [p] := List.prefix_append _ _
  have hg : (ci ++ [p])[S.length]? = some p := by rw [← s.len, List.getElem?_append_right (Nat.le_refl _), Nat.sub_self]; rfl
  have last : ∀ {n : Nat} {c : Cell}, ¬ n < S.length → (S ++ [Cell.gen two g xs])[n]? = some c → n = S.length ∧ c = .gen two g xs := by
    intro n c hn e
    have hn' : n = S.length := by
      have := (List.getElem?_eq_some_iff.mp e).1
      simp at this; omega
    subst hn'
    rw [List.getElem?_append_right (Nat.le_refl _), Nat.sub_self] at e
    exact ⟨rfl, by simpa using e.symm⟩
  have l : Later F ci H F (ci ++ [p]) (upd H p (g dx vs)) := by
    refine ⟨.refl _, hp, ?_, ?_, fun _ _ q => .inl q⟩
    · intro a w q _
      rw [upd_ne (ne_of_none q h)]; exact q
    · intro a hm hn
      rcases List.mem_append.mp hm with hm | hm
      · exact absurd hm hn
      · have : a = p := by simpa using hm
        subst this; exact h
  refine ⟨⟨fun a w q => ?_, by simp [s.len], ?_, fun a hm => ?_, fun n ys e => ?_, fun n w e => ?_, fun n t g2 ys e => ?_⟩, l, hg⟩
  · have := s.le a w q
    rw [upd_ne (ne_of_none this h)]; exact this
  · rw [List.nodup_append]
    refine ⟨s.nd, by simp, ?_⟩
    rintro a ha b hb rfl
    have : a = p := by simpa using hb
    subst this
    exact s.notIn h ha
  · rcases List.mem_append.mp hm with hm | hm
    · obtain ⟨w, e⟩ := s.there a hm
      exact ⟨w, by rw [upd_ne (ne_of_none e h)]; exact e⟩
    · have : a = p := by simpa using hm
      subst this
      exact ⟨_, upd_same⟩
  · by_cases hn : n < S.length
    · rw [List.getElem?_append_left hn] at e
      obtain ⟨a, ws, e1, e2, e3, z', e4⟩ := s.cel n ys e
      exact ⟨a, ws, pre_get hp e1, e2, by rw [upd_ne (ne_of_none e3 h)]; exact e3, z', e4.mono (.refl _) hp⟩
    · cases (last hn e).2
  · by_cases hn : n < S.length
    · rw [List.getElem?_append_left hn] at e
      obtain ⟨a, e1, e2, e3⟩ := s.kel n w e
      exact ⟨a, pre_get hp e1, e2, by rw [upd_ne (ne_of_none e3 h)]; exact e3⟩
    · cases (last hn e).2
  · by_cases hn : n < S.length
    · rw [List.getElem?_append_left hn] at e
      obtain ⟨a, e1, hgl⟩ := s.gel n t g2 ys e
      exact ⟨a, pre_get hp e1, l.gelat hgl hgl.f (upd_ne (hgl.ne h))⟩
    · obtain ⟨rfl, e2⟩ := last hn e
      cases e2
      refine ⟨p, hg, dx, vs, s.free h, upd_same, z, r.mono (.refl _) hp, fun t => ?_⟩
      obtain ⟨k1, k2, k3, k4⟩ := hk t
      refine ⟨k1, fun hm => ?_, by rw [upd_ne k3]; exact k4⟩
      rcases List.mem_append.mp hm with hm | hm
      · exact k2 hm
      · exact k3 (by simpa using hm)
/-- a new instance without fields -/
theorem SR.made (s : SR K F ci S H) {x dx C : Addr} (hx : H x = none) (hd : H dx = none) (hne : dx ≠ x) :
    SR K F (ci ++ [x]) (S ++ [.gen true (insG C []) []]) (upd (upd H dx (.own x)) x (.ins C dx [])) ∧ Later F ci H F (ci ++ [x]) (upd (upd H dx (.own x)) x (.ins C dx [])) ∧ (ci ++ [x])[S.length]? = some x := by
  obtain ⟨s1, l1⟩ := s.side (o := .own x) hd
  have hx1 : upd H dx (.own x) x = none := by rw [upd_ne (fun e => hne e.symm)]; exact hx
  obtain ⟨s2, l2, g2⟩ := s1.gened (p := x) (dx := dx) (two := true) (g := insG C []) (xs := []) (vs := []) hx1 ⟨Nat.zero_le _, rfl⟩ .nil (fun _ => ⟨s.free hd, s.notIn hd, hne, upd_same⟩)
  exact ⟨s2, l1.trans l2, g2⟩
end
end LH

/-! LOD: C(..) of an own class; o.m(..) of an instance. -/
namespace L2
open PySem PySem.Spec PyProof.Rows
def tMakeSD (C : Addr) (sp : Sp) (dvs : List V) (E : St → XK) (t : TA) : TE := fun σ H Q => t σ H fun vs H1 => ∀ x dx, H1 x = none → H1 dx = none → dx ≠ x →
  sp (.ref x :: (vs ++ dvs)) (upd (upd H1 dx (.own x)) x (.ins C dx [])) (fun v H2 => v = .non ∧ Q (.ref x) H2) (E σ)
def tMethSD (C : Addr) (m : Str) (sp : Sp) (dvs : List V) (E : St → XK) (ta : TE) (t : TA) : TE := fun σ H Q => ta σ H fun x H1 => ∃ a dx fs, x = .ref a ∧ H1 a = some (.ins C dx fs) ∧ fs.lookup m = none ∧
  t σ H1 fun vs H2 => sp (x :: (vs ++ dvs)) H2 Q (E σ)
section
variable {X : Cx} {CX : CXT} {k : Nat} {f C : Addr} {fd : FuncData} {ps : List Str} {sp : Sp} {E : St → XK} {x m : Str} {p pos apos : Pos} {e o : Expr} {es : List Expr} {ta : TE} {t : TA} {dvs : List V} {ds : List Value}
theorem run_makeSD {pins : List (Addr × Obj)} {σ : St} {H : Hp} {s : Shared} {Q : VK} {us : List Value} {vs : List V} (M : Mk X.K C f) (F : FnOk X.prog X.w X.K X.mg X.base CX k f fd ps sp) (hr : Room (k + 1) X.A) (hb : Binds X.K fd ps ds) (hd : Vals dvs ds)
    (hx : PassesAt CX X σ (E σ)) (I : Inv X pins σ H s) (r : Vals vs us)
    (h : ∀ x dx, H x = none → H dx = none → dx ≠ x → sp (.ref x :: (vs ++ dvs)) (upd (upd H dx (.own x)) x (.ins C dx [])) (fun v H2 => v = .non ∧ Q (.ref x) H2) (E σ)) :
    wpAny (model X.prog X.w) X.A (call (.ref C) us) (EP X pins σ Q) X.xe s := by
  have hq := h (s.heap.objs.size + 1) s.heap.objs.size (I.hok.fresh (Nat.le_succ _)) (I.hok.fresh (Nat.le_refl _)) (Nat.ne_of_lt (Nat.lt_succ_self _))
  have I2 := Inv.made (C := C) I
  have r2 : Vals (V.ref (s.heap.objs.size + 1) :: (vs ++ dvs)) (Value.ref (s.heap.objs.size + 1) :: (us ++ ds)) := .cons rfl (r.append hd)
  have hl : (Value.ref (s.heap.objs.size + 1) :: us ++ ds).length = ps.length := by
    have e := r2.length
    rw [F.len _ _ _ _ hq] at e
    exact e.symm
  refine wpAny_call (make_map (f := f) I.kIn M.makes M.init (beq_iff_eq.mp M.fn) (codeAny_mono (F.run _ X.stack _ _ ⟨Value.ref (s.heap.objs.size + 1) :: us, []⟩ (Value.ref (s.heap.objs.size + 1) :: (us ++ ds)) _ _ (E σ) (hr.make C us [])
    (I2.env0.make C us []) (hb _ (Value.ref (s.heap.objs.size + 1) :: us) I2.kIn hl) r2 hq) fun r s' hq' => ?_))
  cases r with
  | error e => exact hx pins _ _ e s' I2 hq'
  | ok fl =>
    cases fl with
    | ret u =>
      obtain ⟨v, H', I3, rv, ev, q3⟩ := I2.after hq'
      subst ev
      exact ⟨rv, ⟨V.ref (s.heap.objs.size + 1), H', I3, rfl, q3⟩⟩
    | next => exact False.elim hq'
    | brk => exact False.elim hq'
    | cont => exact False.elim hq'
theorem pe_makeSD (M : Mk X.K C f) (F : FnOk X.prog X.w X.K X.mg X.base CX k f fd ps sp) (hr : Room (k + 1) X.A) (hg : Gl X x) (hm : X.mg x = some (.ref C)) (hb : Binds X.K fd ps ds) (hd : Vals dvs ds) (hx : ∀ σ, PassesAt CX X σ (E σ))
    (ha : PA X (e :: es) t) (hdb : (x == ("__debug__" : Str)) = false := by decide) (he : starEach (e :: es) X.env = (false, eval e X.env) :: starEach es X.env := by rfl) (hpl : (backTo pos (starEach es X.env)).any (·.1) = false := by rfl) :
    PE X (.Call (.Name x p) (e :: es) [] pos) (tMakeSD C sp dvs E t) := by
  refine ⟨fun pins s σ H Q I h => ?_⟩
  refine wpAny_Call_Name_kw (ld_glob I hg hm ?_ hdb)
  refine PySem.W.callWith_K (h₀ := X.base) I.ok.mod.kin M.kp (thn (ha.run pos pins s σ H _ I h) fun us s1 ⟨vs, H1, I1, r, q⟩ => ⟨I1.kIn, ?_⟩) he hpl
  exact run_makeSD M F hr hb hd (hx σ) I1 r q
end
end L2
namespace LH
open PySem PySem.Spec PyProof.Rows L2
/-- a class that may be called by its name: its __init__ -/
structure CalleeC (P : Program) (w : World) (K : PySem.W.Frag) (mg : Str → Option Value) (base : Heap) (k : Nat) (x : Str) (C : Addr) (ps : List Str) (f : FnDen) : Prop where
  ex : ∃ fa fd, FnOk P w K mg base (L2.CX P w) k fa fd ps (spF K mg ps.length f) ∧ mg x = some (.ref C) ∧ Mk K C fa ∧ Binds K fd ps []
/-- a method of a class -/
structure CalleeM (P : Program) (w : World) (K : PySem.W.Frag) (mg : Str → Option Value) (base : Heap) (k : Nat) (C : Addr) (m : Str) (ps : List Str) (f : FnDen) : Prop where
  ex : ∃ fa fd, FnOk P w K mg base (L2.CX P w) k fa fd ps (spF K mg ps.length f) ∧ Cls K C ∧ Meth K C m fa ∧ Binds K fd ps []
noncomputable def makeE (C : Addr) (f : FnDen) (r : ArgsD) : ExprD := fun env S => (r env S).bind fun ds S1 => (f (.cell S1.length :: ds) (S1 ++ [.gen true (insG C []) []])).bind fun v S2 => if isNonB v = true then .ok (.cell S1.length) S2 else .stuck
/-- o.m(..): the instance, the arguments -/
noncomputable def methE (C : Addr) (ns : List Str) (f : FnDen) (fo : ExprD) (r : ArgsD) : ExprD := fun env S => (fo env S).bind fun d S1 => match insAt S1 C ns d with
  | some _ => (r env S1).bind fun ds S2 => f (d :: ds) S2
  | none => .stuck
section
variable {X : Cx} {W : WX} {k j : Nat} {x m : Str} {C : Addr} {ps ns : List Str} {f : FnDen} {e o : Expr} {es : List Expr} {fo : ExprD} {r : ArgsD} {p pos apos : Pos}
theorem isNon_inv {K : PySem.W.Frag} {F : Hp} {ci : List Addr} {d : PV} {v : V} (h : isNonB d = true) (r : Rp K F ci d v) : v = .non := by
  cases d <;> first | (cases r; rfl) | cases h
theorem de_makeO (cl : CalleeC X.prog X.w X.K X.mg X.base k x C ps f) (hl : Lets X W) (hr : Room j X.A) (ha : PA X (e :: es) (tA X.K X.mg W r)) (hk : k + 1 ≤ j := by decide) (hg : Gl X x := by rfl)
    (hn : (e :: es).length + 1 = ps.length := by rfl) (hrl : ∀ env S ds S', r env S = .ok ds S' → ds.length = (e :: es).length) (hdb : (x == ("__debug__" : Str)) = false := by decide) (he : starEach (e :: es) X.env = (false, eval e X.env) :: starEach es X.env := by rfl) (hpl : (backTo pos (starEach es X.env)).any (·.1) = false := by rfl) :
    PE X (.Call (.Name x p) (e :: es) [] pos) (tE X.K X.mg W (makeE C f r)) := by
  obtain ⟨fa, fd, F, hm, M, hb⟩ := cl.ex
  refine (pe_makeSD (E := WE W) M F (hr.mono hk) hg hm hb .nil hl ha hdb he hpl).imp fun σ H Q h => ?_
  obtain ⟨env, F0, ci, S, sr, er, h⟩ := h
  refine ⟨env, F0, ci, S, sr, er, ?_⟩
  have hx := Out.bind h
  cases hq : r env S with
  | ok ds S1 =>
    rw [hq] at hx
    refine fun F1 c1 H1 l1 s1 vs rs x dx hxn hdn hne => ?_
    obtain ⟨s2, l2, g2⟩ := s1.made (C := C) hxn hdn hne
    refine ⟨?_, F1, c1 ++ [x], _, .cell S1.length :: ds, s2, .cons (.cell g2) (by rw [List.append_nil]; exact l2.rps rs), ?_⟩
    · rw [List.append_nil, List.length_cons, ← rs.length, hrl _ _ _ _ hq, hn]
    · refine (Out.bind (Out.later (hx F1 c1 H1 l1 s1) l2)).imp fun d F3 c3 S3 H3 l3 s3 h3 v rv => ?_
      split at h3
      · rename_i hd
        exact ⟨isNon_inv hd rv, h3.here s3 _ (.cell (pre_get l3.pre g2))⟩
      · exact h3.elim
  | exc x S1 => rw [hq] at hx; exact hx
  | stuck => rw [hq] at hx; exact hx
/-- a property of a class -/
structure CalleeP (P : Program) (w : World) (K : PySem.W.Frag) (mg : Str → Option Value) (base : Heap) (k : Nat) (C : Addr) (m : Str) (f : FnDen) : Prop where
  ex : ∃ q fa fd ps, FnOk P w K mg base (L2.CX P w) k fa fd ps (spF K mg 1 f) ∧ Cls K C ∧ PropOf K C m q fa ∧ Binds K fd ps []
/-- o.m, a property -/
noncomputable def propE (C : Addr) (ns : List Str) (f : FnDen) (fo : ExprD) : ExprD := fun env S => (fo env S).bind fun d S1 => match insAt S1 C ns d with
  | some _ => match f [d] S1 with
    | .ok v S2 => .ok v S2
    | _ => .stuck
  | none => .stuck
end
end LH

/-! LOE: o(..) of an instance whose class has __call__. -/
namespace PySem.W
open PySem PySem.Spec PyProof.Rows
end PySem.W

/-! LOF: d(..) of an instance that a name holds. -/
namespace PySem.W
open PySem PySem.Spec PyProof.Rows
end PySem.W
namespace L2
open PySem PySem.Spec PyProof.Rows
def tInstSD (C : Addr) (sp : Sp) (dvs : List V) (E : St → XK) (ta : TE) (t : TA) : TE := fun σ H Q => ta σ H fun x H1 => t σ H1 fun vs H2 => ∃ a dx fs, x = .ref a ∧ H2 a = some (.ins C dx fs) ∧ sp (x :: (vs ++ dvs)) H2 Q (E σ)
section
variable {X : Cx} {CX : CXT} {k : Nat} {f C : Addr} {fd : FuncData} {ps : List Str} {sp : Sp} {E : St → XK} {x : Str} {p pos : Pos} {e : Expr} {es : List Expr} {ta : TE} {t : TA} {dvs : List V} {ds : List Value}
/-- the object of a def -/
def FnAt (K : PySem.W.Frag) (f : Addr) : Prop := ∃ oc od fd osl, K.lookup f = some ⟨oc, od, .func fd, osl⟩
end
end L2
namespace LH
open PySem PySem.Spec PyProof.Rows L2
/-- a class whose instances may be called -/
structure CalleeI (P : Program) (w : World) (K : PySem.W.Frag) (mg : Str → Option Value) (base : Heap) (k : Nat) (C : Addr) (ps : List Str) (f : FnDen) : Prop where
  ex : ∃ fa fd, FnOk P w K mg base (L2.CX P w) k fa fd ps (spF K mg ps.length f) ∧ FnAt K fa ∧ Meth K C "__call__" fa ∧ Binds K fd ps []
/-- d(..): the instance, the arguments -/
noncomputable def instE (C : Addr) (ns : List Str) (f : FnDen) (fo : ExprD) (r : ArgsD) : ExprD := fun env S => (fo env S).bind fun d S1 => (r env S1).bind fun ds S2 => match insAt S2 C ns d with
  | some _ => f (d :: ds) S2
  | none => .stuck
section
variable {X : Cx} {W : WX} {k j : Nat} {x : Str} {C : Addr} {ps ns : List Str} {f : FnDen} {e : Expr} {es : List Expr} {fo : ExprD} {r : ArgsD} {p pos : Pos}
end
end LH

/-! LOH: the head of a law with own classes. -/
namespace LH
open PySem PySem.Spec PyProof.Rows L2
/-! ### what may be called -/
section
variable {P : Program} {w : World} {K : PySem.W.Frag} {mg : Str → Option Value} {base : Heap} {k : Nat} {x qual m : Str} {ps : List Str} {f : FnDen} {params : Arguments} {body : List Stmt} {scope : Scope} {fa C : Addr} {fd : FuncData}
theorem calleeC_of (F : FunD K x qual params body scope [] [] fa fd) (o : FnOk P w K mg base (L2.CX P w) k fa fd ps (spF K mg ps.length f)) (hm : mg m = some (.ref C)) (mk : Mk K C fa)
    (hb : ∀ (kV doc pm : Value) (an : Option Addr) (cdv ct : Value) (us : List Value), us.length = ps.length → bindArgs (PySem.W.fnOf x qual params body scope .none kV doc pm an cdv ct) ⟨us, []⟩ = pure (ps.zip us)) :
    CalleeC P w K mg base k m C ps f := ⟨fa, fd, o, hm, mk, F.bindsN hb⟩
end
/-! ### the end -/
theorem walk_ownC {l : PySem.W.OpenLaw} {n k : Nat} {q : Program} {loose : List Str} {XP : (Str → Option Value) → Heap → Prop} {YP : World → Heap → Prop} {d : DefRec} {x : Str} {f : (Str → Addr) → FnDen}
    (hn : l.most = some n) (hn2 : n ≤ sizeLine) (hdf : d.params.defaults = []) (hr : Room k callerA)
    (F : ∀ (w : World) (mg : Str → Option Value) (fa : Addr) (h : Heap), YP w h → h.Ns mainGlobals mg → mg d.name = some (.ref fa) →
      ∃ (K : PySem.W.Frag) (fd : FuncData), K.In h ∧ (∀ (s : Shared) (u : Value), BindsTo s fd ⟨[u], []⟩ [(x, u)]) ∧ ∀ base : Heap, K.In base → base.Ns mainGlobals mg → FnOk l.prog w K mg base (L2.CX l.prog w) k fa fd [x] (spF K mg 1 (f (He.ga K))))
    (law : ∀ (c : Str → Addr) (ns : List Int), ns.length ≤ n → ∃ S, f c [.ro (ns.map .int)] [] = .ok (.bl true) S) :
    PySem.W.WalkO q loose XP YP l.row.toRowW d [] (fun f vs => PySem.call f vs) := by
  refine Att.attach_call hn hdf fun w s₀ s₁ mg mb fa o pm cd doc a vs ns G Y ho hd hcd hmg hobj hints hlen hg => ?_
  obtain ⟨K, fd, KX, hb, hF⟩ := F w mg fa _ Y G.T.g hmg
  refine law_call KX G.T.g G.T.b G.T.builtins G.T.nolimit hg hobj hints (Nat.le_trans hlen hn2) hr hF hb (fun H hO hS => ?_) fun H e s' z => ?_
  · obtain ⟨S, hS2⟩ := law (He.ga K) ns hlen
    refine ⟨rfl, H, [], [], [.ro (ns.map .int)], ⟨fun _ _ h => h, rfl, List.nodup_nil, fun _ h => absurd h (by simp), fun _ _ h => by simp at h, fun _ _ h => by simp at h, fun _ _ _ _ h => by simp at h⟩, .cons (.ro hS (by rw [List.length_map]; exact Nat.le_trans hlen hn2) ?_) .nil, ?_⟩
    · clear hS hints hlen hS2
      induction ns with
      | nil => exact .nil
      | cons n ns ih => exact .cons (.int n) ih
    · rw [hS2]
      intro F' ci' H' _ _ v r
      exact r.bl_inv
  · obtain ⟨_, _, _, _, _, _, _, _, _, _, _, _, z⟩ := z
    exact z
end LH

/-! LHB: properties of own classes in the head (leans on the kit alone). -/
namespace LH
open PySem PySem.Spec PyProof.Rows L2
/-- a property: its class, its name, its getter's def -/
structure PrD where
  cls : Str
  nm : Str
  d : He.DefD
def pAd (K : PySem.W.Frag) (p : PrD) : Addr := He.ma K (He.ga K p.cls) p.nm
def gAd (K : PySem.W.Frag) (p : PrD) : Addr := match PySem.W.recIn K (pAd K p) "property" with
  | some (.ref g :: _) => g
  | _ => 0
def fnWA (K : PySem.W.Frag) (a : Addr) : He.FnW := match K.lookup a with
  | some ⟨_, _, .func fd, _⟩ => some (fd.name, fd.qualname, fd.params, fd.body, fd.scope, fd.globals, fd.closure, fd.builtins)
  | _ => none
def fnB (K : PySem.W.Frag) (a : Addr) (q : Str) : Bool := PySem.W.keepIn K (.ref a) && (match K.lookup a with
  | some ⟨_, _, .func fd, _⟩ => PySem.W.codeIn K fd.code q && (He.dflB K fd.defaults [] && He.kwdB K fd.kwdefaults [])
  | _ => false)
theorem funD_at {K : PySem.W.Frag} {a : Addr} {d : He.DefD} (e : fnWA K a = d.val) (c : fnB K a d.qual = true) : ∃ fd, FunD K d.name d.qual d.params d.body d.scope [] [] a fd := by
  obtain ⟨kp, c2⟩ := He.ba c
  unfold fnWA at e
  cases q : K.lookup a with
  | none =>
    rw [q] at c2
    cases c2
  | some o =>
    obtain ⟨oc, od, dt, osl⟩ := o
    rw [q] at c2 e
    cases dt with
    | func fd =>
      obtain ⟨n1, n2, n3, n4, n5, n6, n7, n8, n9, n10, n11, n12, n13, n14, n15⟩ := fd
      have e2 : (some (n1, n2, n3, n4, n5, n6, n7, n15) : He.FnW) = some (d.name, d.qual, d.params, .stmts d.body, d.scope, mainGlobals, [], builtinsNs) := e
      simp only [Option.some.injEq, Prod.mk.injEq] at e2
      obtain ⟨h1, h2, h3, h4, h5, h6, h7, h8⟩ := e2
      subst h1 h2 h3 h4 h5 h6 h7 h8
      have c3 : (PySem.W.codeIn K n13 d.qual && (He.dflB K n8 [] && He.kwdB K n9 [])) = true := c2
      obtain ⟨k1, k2⟩ := He.ba c3
      obtain ⟨k3, k4⟩ := He.ba k2
      exact ⟨_, ⟨oc, od, n8, n9, n10, n11, n12, n13, n14, osl, rfl, q, k1, He.dflB_ok k3, He.kwdB_ok k4⟩, kp⟩
    | _ => cases c2
def prB (K : PySem.W.Frag) (p : PrD) : Bool := He.eqO (PySem.W.findIn K (.ref (He.ga K p.cls)) p.nm) (some (some (.ref (pAd K p)))) &&
  (He.eqO (PySem.W.specialIn K (.ref (pAd K p)) "__get__") (some (some (.builtin "property.__get__"))) &&
  (decide (PySem.W.takesIn K (.ref (pAd K p)) = some true) && ((match PySem.W.recIn K (pAd K p) "property" with
    | some (.ref _ :: _) => true
    | _ => false) && fnB K (gAd K p) p.d.qual)))
theorem prop_at {K : PySem.W.Frag} {p : PrD} (h : prB K p = true) : PropOf K (He.ga K p.cls) p.nm (pAd K p) (gAd K p) ∧ fnB K (gAd K p) p.d.qual = true := by
  obtain ⟨c1, h⟩ := He.ba h
  obtain ⟨c2, h⟩ := He.ba h
  obtain ⟨c3, h⟩ := He.ba h
  obtain ⟨c4, c5⟩ := He.ba h
  refine ⟨⟨He.eqO_ok c1, He.eqO_ok c2, of_decide_eq_true c3, ?_⟩, c5⟩
  unfold gAd
  cases q : PySem.W.recIn K (pAd K p) "property" with
  | none => rw [q] at c4; cases c4
  | some l =>
    rw [q] at c4
    cases l with
    | nil => cases c4
    | cons v r =>
      cases v with
      | ref g => exact ⟨r, rfl⟩
      | _ => cases c4
abbrev AlP : Type := (He.AlD × Bool) × List He.FnW
def obsP (cs : List Str) (fa : List He.Fa) (fn : List He.DefD) (ex : PySem.W.Frag → Bool) (ps : List PrD) (g : Addr → Option Obj) : AlP :=
  ((He.obsD fa fn (He.frG g (asC cs g)), ex (He.frG g (asC cs g)) && ps.all fun p => prB (He.frG g (asC cs g)) p), ps.map fun p => fnWA (He.frG g (asC cs g)) (gAd (He.frG g (asC cs g)) p))
def SaysP (ps : List PrD) (K : PySem.W.Frag) : Prop := (∀ p ∈ ps, prB K p = true) ∧ (ps.map fun p => fnWA K (gAd K p)) = ps.map fun p => p.d.val
def hookP (cs : List Str) (fa : List He.Fa) (fn : List He.DefD) (ex : PySem.W.Frag → Bool) (ps : List PrD) : PySem.W.Hook where
  α := AlP
  obs := fun s => obsP cs fa fn ex ps s.heap.get?
  val := fun _ => ((He.valD fn, true), ps.map fun p => p.d.val)
  says := fun _ h => ∃ K : PySem.W.Frag, K.In h ∧ He.SaysD fa fn K ∧ ex K = true ∧ SaysP ps K
  of := fun _ s e => by
    have e1 : He.obsD fa fn (He.frG s.heap.get? (asC cs s.heap.get?)) = He.valD fn := congrArg (fun z : AlP => z.1.1) e
    have e2 : (ex (He.frG s.heap.get? (asC cs s.heap.get?)) && ps.all fun p => prB (He.frG s.heap.get? (asC cs s.heap.get?)) p) = true := congrArg (fun z : AlP => z.1.2) e
    have e3 : (ps.map fun p => fnWA (He.frG s.heap.get? (asC cs s.heap.get?)) (gAd (He.frG s.heap.get? (asC cs s.heap.get?)) p)) = ps.map fun p => p.d.val := congrArg (fun z : AlP => z.2) e
    obtain ⟨e4, e5⟩ := He.ba e2
    exact ⟨_, He.frG_in, e1, e4, List.all_eq_true.mp e5, e3⟩
  keeps := fun _ _ _ ⟨K, hK, c⟩ k => ⟨K, PySem.W.Frag.In.keeps hK k, c⟩
theorem SaysP.def_ {ps : List PrD} {K : PySem.W.Frag} (c : SaysP ps K) (i : Nat) {p : PrD} (h : ps[i]? = some p) : PropOf K (He.ga K p.cls) p.nm (pAd K p) (gAd K p) ∧ ∃ fd, FunD K p.d.name p.d.qual p.d.params p.d.body p.d.scope [] [] (gAd K p) fd := by
  obtain ⟨c1, c2⟩ := c
  obtain ⟨h1, h2⟩ := prop_at (c1 p (List.mem_of_getElem? h))
  refine ⟨h1, funD_at ?_ h2⟩
  have e2 : (ps.map fun p => fnWA K (gAd K p))[i]? = (ps.map fun p => p.d.val)[i]? := by rw [c2]
  rw [List.getElem?_map, List.getElem?_map, h] at e2
  exact Option.some.inj e2
end LH

/-! LPR: properties of own classes in the head. -/
namespace LH
open PySem PySem.Spec PyProof.Rows L2
section
variable {P : Program} {w : World} {K : PySem.W.Frag} {mg : Str → Option Value} {base : Heap} {k : Nat} {x qual m y : Str} {f : FnDen} {params : Arguments} {body : List Stmt} {scope : Scope} {fa C p : Addr} {fd : FuncData}
end
end LH

/-! LSR: defs with a star parameter; instances made by such an __init__, also with starred arguments; methods without arguments. -/
namespace L2
open PySem PySem.Spec PyProof.Rows
section
variable {X : Cx} {CX : CXT} {k : Nat} {f C : Addr} {fd : FuncData} {ps : List Str} {sp : Sp} {E : St → XK} {x m : Str} {p pos apos : Pos} {e o : Expr} {es : List Expr} {ta : TE} {t : TA} {dvs : List V} {ds : List Value}
def tMakeRD (C : Addr) (sp : Sp) (E : St → XK) (t : TA) : TE := fun σ H Q => t σ H fun vs H1 => ∀ x dx, H1 x = none → H1 dx = none → dx ≠ x →
  sp (.ref x :: vs) (upd (upd H1 dx (.own x)) x (.ins C dx [])) (fun v H2 => v = .non ∧ Q (.ref x) H2) (E σ)
theorem run_makeRD {pins : List (Addr × Obj)} {σ : St} {H : Hp} {s : Shared} {Q : VK} {us : List Value} {vs : List V} (M : Mk X.K C f) (F : FnR X.prog X.w X.K X.mg X.base CX k f sp) (hr : Room (k + 1) X.A)
    (hx : PassesAt CX X σ (E σ)) (I : Inv X pins σ H s) (r : Vals vs us)
    (h : ∀ x dx, H x = none → H dx = none → dx ≠ x → sp (.ref x :: vs) (upd (upd H dx (.own x)) x (.ins C dx [])) (fun v H2 => v = .non ∧ Q (.ref x) H2) (E σ)) :
    wpAny (model X.prog X.w) X.A (call (.ref C) us) (EP X pins σ Q) X.xe s := by
  have hq := h (s.heap.objs.size + 1) s.heap.objs.size (I.hok.fresh (Nat.le_succ _)) (I.hok.fresh (Nat.le_refl _)) (Nat.ne_of_lt (Nat.lt_succ_self _))
  have I2 := Inv.made (C := C) I
  have r2 : Vals (V.ref (s.heap.objs.size + 1) :: vs) (Value.ref (s.heap.objs.size + 1) :: us) := .cons rfl r
  refine wpAny_call (make_map (f := f) I.kIn M.makes M.init (beq_iff_eq.mp M.fn) (codeAny_mono (F _ X.stack _ _ (Value.ref (s.heap.objs.size + 1) :: us) _ _ (E σ) (hr.make C us []) (I2.env0.make C us []) r2 hq) fun r s' hq' => ?_))
  cases r with
  | error e => exact hx pins _ _ e s' I2 hq'
  | ok fl =>
    cases fl with
    | ret u =>
      obtain ⟨v, H', I3, rv, ev, q3⟩ := I2.after hq'
      subst ev
      exact ⟨rv, ⟨V.ref (s.heap.objs.size + 1), H', I3, rfl, q3⟩⟩
    | next => exact False.elim hq'
    | brk => exact False.elim hq'
    | cont => exact False.elim hq'
theorem pe_makeRD (M : Mk X.K C f) (F : FnR X.prog X.w X.K X.mg X.base CX k f sp) (hr : Room (k + 1) X.A) (hg : Gl X x) (hm : X.mg x = some (.ref C)) (hx : ∀ σ, PassesAt CX X σ (E σ))
    (ha : PA X (e :: es) t) (hdb : (x == ("__debug__" : Str)) = false := by decide) (he : starEach (e :: es) X.env = (false, eval e X.env) :: starEach es X.env := by rfl) (hpl : (backTo pos (starEach es X.env)).any (·.1) = false := by rfl) :
    PE X (.Call (.Name x p) (e :: es) [] pos) (tMakeRD C sp E t) := by
  refine ⟨fun pins s σ H Q I h => ?_⟩
  refine wpAny_Call_Name_kw (ld_glob I hg hm ?_ hdb)
  refine PySem.W.callWith_K (h₀ := X.base) I.ok.mod.kin M.kp (thn (ha.run pos pins s σ H _ I h) fun us s1 ⟨vs, H1, I1, r, q⟩ => ⟨I1.kIn, ?_⟩) he hpl
  exact run_makeRD M F hr (hx σ) I1 r q
end
end L2
namespace LH
open PySem PySem.Spec PyProof.Rows L2
/-- def f(a, .., *v): what is left over is one tuple -/
noncomputable def packD (k : Nat) (f : FnDen) : FnDen := fun ds S => if k ≤ ds.length ∧ ds.length - k ≤ sizeLine then f (ds.take k ++ [.tup (ds.drop k)]) S else .stuck
/-- a promise by positional arguments, as many as there are -/
def spS (K : PySem.W.Frag) (mg : Str → Option Value) (f : FnDen) : Sp := fun vs H Q E => ∃ F ci S ds, SR K F ci S H ∧ Rps K F ci ds vs ∧ Out K (Zf K mg E) F ci H (f ds S) fun d F' ci' S' H' => ∀ v, Rp K F' ci' d v → Q v H'
theorem rps_take {K : PySem.W.Frag} {F : Hp} {ci : List Addr} : ∀ (k : Nat) {ds : List PV} {vs : List V}, Rps K F ci ds vs → Rps K F ci (ds.take k) (vs.take k)
  | 0, _, _, _ => .nil
  | _ + 1, _, _, .nil => .nil
  | k + 1, _, _, .cons r rs => .cons r (rps_take k rs)
theorem rps_drop {K : PySem.W.Frag} {F : Hp} {ci : List Addr} : ∀ (k : Nat) {ds : List PV} {vs : List V}, Rps K F ci ds vs → Rps K F ci (ds.drop k) (vs.drop k)
  | 0, _, _, rs => rs
  | _ + 1, _, _, .nil => .nil
  | k + 1, _, _, .cons _ rs => rps_drop k rs
theorem rps_app {K : PySem.W.Frag} {F : Hp} {ci : List Addr} : ∀ {ds : List PV} {vs : List V} {ds2 : List PV} {vs2 : List V}, Rps K F ci ds vs → Rps K F ci ds2 vs2 → Rps K F ci (ds ++ ds2) (vs ++ vs2)
  | _, _, _, _, .nil, r2 => r2
  | _, _, _, _, .cons r rs, r2 => .cons r (rps_app rs r2)
theorem fn_okS {P : Program} {w : World} {K : PySem.W.Frag} {mg : Str → Option Value} {base : Heap} {x qual : Str} {params : Arguments} {body : List Stmt} {scope : Scope} {fa : Addr} {fd : FuncData} {N ps : List Str} {pv : Str} {k : Nat} {b : StmtD}
    (F : FunD K x qual params body scope [] [] fa fd) (S : FnScope N (ps ++ [pv]) scope)
    (hb : ∀ (kV doc pm : Value) (an : Option Addr) (cdv ct : Value) (us rest : List Value), us.length = ps.length → bindArgs (PySem.W.fnOf x qual params body scope .none kV doc pm an cdv ct) ⟨us ++ rest, []⟩ = (newTuple rest >>= fun t => pure (ps.zip us ++ [(pv, t)])))
    (hbody : ∀ (cdv : Value) (A : Around) (outer : List Env) (s : Shared) (H : Hp) (E : XK), Room k (A.deeper (envOfC qual scope s.heap.objs.size fa cdv)) → Lets (cxOf (L2.CX P w) P w K mg base N qual scope fa cdv A outer s H E) (fun c d _ H => E c d H) →
      PassesOwn (model P w) (A.deeper (envOfC qual scope s.heap.objs.size fa cdv)) (envOfC qual scope s.heap.objs.size fa cdv) (cxOf (L2.CX P w) P w K mg base N qual scope fa cdv A outer s H E).xe →
      Takes (cxOf (L2.CX P w) P w K mg base N qual scope fa cdv A outer s H E) (fun c d _ H => E c d H) →
      PSs (cxOf (L2.CX P w) P w K mg base N qual scope fa cdv A outer s H E) body (tS K mg (fun c d _ H => E c d H) b)) :
    FnR P w K mg base (L2.CX P w) (k + 1) fa (spS K mg (packD ps.length (fnD (ps.length + 1) N.length b))) := by
  obtain ⟨oc, od, dV, kV, doc, pm, an, cdv, ct, osl, rfl, lk, hcd, hD, hK⟩ := F.ex
  rcases hD with ⟨_, rfl⟩ | ⟨e, _⟩
  · have main := StX.fn_star (P := P) (w := w) (K := K) (mg := mg) (base := base) (k := k) (sp := spF K mg (ps.length + 1) (fnD (ps.length + 1) N.length b)) (CX := L2.CX P w) (pv := pv) (ps := ps) (N := N) lk hcd S StX.cxUp (hb kV doc pm an cdv ct) fun A outer s H vs Q E hr h => by
      have tk : Takes (cxOf (L2.CX P w) P w K mg base N qual scope fa cdv A outer s H E) (fun c d _ H => E c d H) := takes_of rfl rfl rfl rfl
      refine ⟨_, hbody cdv A outer s H E hr (lets_of tk) (passes_of rfl) tk, ?_⟩
      obtain ⟨hl, F0, ci, S0, ds, sr, rs, h⟩ := h
      have hd : ds.length = ps.length + 1 := by rw [rs.length, hl]
      refine ⟨ds.map some ++ List.replicate (N.length - ds.length) none, F0, ci, S0, sr, er_start rs N, ?_⟩
      unfold fnD at h
      rw [if_pos hd] at h
      cases hb : b (ds.map some ++ List.replicate (N.length - ds.length) none) S0 with
      | ok fl S1 =>
        rw [hb] at h
        cases fl with
        | nx e' => exact fun F1 c1 H1 l1 s1 σ _ => h F1 c1 H1 l1 s1 _ .non
        | rt d => exact fun F1 c1 H1 l1 s1 v r => h F1 c1 H1 l1 s1 v r
        | ex y e' => exact fun F1 c1 H1 l1 s1 σ _ cls d xr => h F1 c1 H1 l1 s1 cls d xr
        | bk e' => exact h.elim
        | ct e' => exact h.elim
      | exc y S1 => rw [hb] at h; exact h.elim
      | stuck => rw [hb] at h; exact h.elim
    refine main.imp fun vs H Q E h => ?_
    obtain ⟨F0, ci, S0, ds, sr, rs, h⟩ := h
    unfold packD at h
    split at h
    · rename_i hc
      obtain ⟨c1, c2⟩ := hc
      have hlen := rs.length
      refine ⟨vs.take ps.length, vs.drop ps.length, (List.take_append_drop _ _).symm, by rw [List.length_take, ← hlen]; omega, by rw [List.length_drop, ← hlen]; exact c2, fun p hp => ?_⟩
      obtain ⟨s2, l2⟩ := sr.laid (o := .tup (vs.drop ps.length)) hp
      refine ⟨by rw [List.length_append, List.length_take, ← hlen]; simp; omega, _, _, S0, ds.take ps.length ++ [.tup (ds.drop ps.length)], s2, rps_app (rps_take _ (l2.rps rs)) (.cons (.tup (.inl rd_new) (by rw [List.length_drop]; exact c2) (rps_drop _ (l2.rps rs))) .nil), Out.later h l2⟩
    · exact h.elim
  · exact absurd rfl e
/-- a class that is made by an __init__ with a star parameter -/
structure CalleeCS (P : Program) (w : World) (K : PySem.W.Frag) (mg : Str → Option Value) (base : Heap) (k : Nat) (x : Str) (C : Addr) (f : FnDen) : Prop where
  ex : ∃ fa, FnR P w K mg base (L2.CX P w) k fa (spS K mg f) ∧ mg x = some (.ref C) ∧ Mk K C fa
section
variable {X : Cx} {W : WX} {k j : Nat} {x m : Str} {C : Addr} {ps ns : List Str} {f : FnDen} {e o : Expr} {es : List Expr} {fo : ExprD} {r : ArgsD} {p pos apos : Pos}
theorem made_out {M : TE} (hM : PE X (.Call (.Name x p) (e :: es) [] pos) (tMakeRD C (spS X.K X.mg f) (WE W) (tA X.K X.mg W r))) : PE X (.Call (.Name x p) (e :: es) [] pos) (tE X.K X.mg W (makeE C f r)) := hM.imp fun σ H Q h => by
  obtain ⟨env, F0, ci, S, sr, er, h⟩ := h
  refine ⟨env, F0, ci, S, sr, er, ?_⟩
  have hx := Out.bind h
  cases hq : r env S with
  | ok ds S1 =>
    rw [hq] at hx
    refine fun F1 c1 H1 l1 s1 vs rs x dx hxn hdn hne => ?_
    obtain ⟨s2, l2, g2⟩ := s1.made (C := C) hxn hdn hne
    refine ⟨F1, c1 ++ [x], _, .cell S1.length :: ds, s2, .cons (.cell g2) (l2.rps rs), ?_⟩
    refine (Out.bind (Out.later (hx F1 c1 H1 l1 s1) l2)).imp fun d F3 c3 S3 H3 l3 s3 h3 v rv => ?_
    split at h3
    · rename_i hd
      exact ⟨isNon_inv hd rv, h3.here s3 _ (.cell (pre_get l3.pre g2))⟩
    · exact h3.elim
  | exc x S1 => rw [hq] at hx; exact hx
  | stuck => rw [hq] at hx; exact hx
theorem de_makeS (cl : CalleeCS X.prog X.w X.K X.mg X.base k x C f) (hl : Lets X W) (hr : Room j X.A) (ha : PA X (e :: es) (tA X.K X.mg W r)) (hk : k + 1 ≤ j := by decide) (hg : Gl X x := by rfl)
    (hdb : (x == ("__debug__" : Str)) = false := by decide) (he : starEach (e :: es) X.env = (false, eval e X.env) :: starEach es X.env := by rfl) (hpl : (backTo pos (starEach es X.env)).any (·.1) = false := by rfl) :
    PE X (.Call (.Name x p) (e :: es) [] pos) (tE X.K X.mg W (makeE C f r)) := by
  obtain ⟨fa, F, hm, M⟩ := cl.ex
  exact made_out (M := tMakeRD C (spS X.K X.mg f) (WE W) (tA X.K X.mg W r)) (pe_makeRD (E := WE W) M F (hr.mono hk) hg hm hl ha hdb he hpl)
/-- o.m(): the instance alone -/
noncomputable def meth0E (C : Addr) (ns : List Str) (f : FnDen) (fo : ExprD) : ExprD := fun env S => (fo env S).bind fun d S1 => match insAt S1 C ns d with
  | some _ => f [d] S1
  | none => .stuck
end
end LH

/-! LOO: operators of own classes: in, &, ==, bool; isinstance. -/
namespace PySem
end PySem
namespace LH
open PySem PySem.Spec PyProof.Rows L2
/-- what a method hands back where nothing is raised -/
def quiet (r : Res PV) (g : PV → Bool) : Res PV := match r with
  | .ok v S2 => if g v = true then .ok v S2 else .stuck
  | _ => .stuck
def isBlB : PV → Bool
  | .bl _ => true
  | _ => false
def isCellB : PV → Bool
  | .cell _ => true
  | _ => false
noncomputable def inOV (C : Addr) (ns : List Str) (f : FnDen) : PV → PV → Sto → Res PV := fun x y S => match insAt S C ns y with
  | some _ => quiet (f [y, x] S) isBlB
  | none => .stuck
noncomputable def opOV (C : Addr) (ns : List Str) (f : FnDen) (g : PV → Bool) : PV → PV → Sto → Res PV := fun x y S => match insAt S C ns x with
  | some _ => match insAt S C ns y with
    | some _ => quiet (f [x, y] S) g
    | none => .stuck
  | none => .stuck
noncomputable def boolOB (C : Addr) (ns : List Str) (f : FnDen) : List PV → Sto → Res PV := fun ds S => match ds with
  | [d] => match insAt S C ns d with
    | some _ => quiet (f [d] S) isBlB
    | none => .stuck
  | _ => .stuck
section
variable {X : Cx} {E : XK} {k j : Nat} {C fa : Addr} {fd : FuncData} {ps ns : List Str} {f : FnDen} {m : Str}
end
noncomputable def isOV (C : Addr) (ns : List Str) : PV → Sto → Res PV := fun d S => match insAt S C ns d with
  | some _ => .ok (.bl true) S
  | none => .stuck
end LH

/-! OPO: an instance of an own class as a value that is only passed on. -/
namespace LH
open PySem PySem.Spec PyProof.Rows L2
/-- what is asked of the class -/
structure OpC (K : PySem.W.Frag) (C : Addr) : Prop where
  cl : Cls K C
  ha : PySem.W.findIn K (.ref C) "__class__" = some (some (.builtin "object.__class__"))
  hn : PySem.W.specialIn K (.builtin "object.__class__") "__get__" = some (some (.builtin "getset_descriptor.__get__"))
  htk : PySem.W.takesIn K (.builtin "object.__class__") = some true
  hm : PySem.W.mroIn K C (.type "object") = some true
  no : ∀ T ∈ ["int", "bool", "str", "tuple", "list"], PySem.W.kitOne K (.ref C) (.type T) = some false
theorem OpC.opq {K : PySem.W.Frag} {C : Addr} (O : OpC K C) {F : Hp} {a dx : Addr} {fs : List (Str × V)} (h : F a = some (.ins C dx fs)) : OpqAt K F a (.ref C) where
  at_ := ⟨_, h⟩
  ty := fun H q => .base (.ins (q _ _ h) O.cl O.ha O.hn O.htk O.hm)
  no := O.no
section
variable {K : PySem.W.Frag} {F : Hp} {ci : List Addr} {S : Sto} {H : Hp} {C : Addr} {ns : List Str}
theorem SR.opaqued {n : Nat} {xs : List PV} (s : SR K F ci S H) (e : S[n]? = some (.gen true (insG C ns) xs)) :
    ∃ a dx fs F', ci[n]? = some a ∧ F' a = some (.ins C dx fs) ∧ SR K F' ci (S.set n .dead) H ∧ Later F ci H F' ci H := by
  obtain ⟨a, e1, dx, vs, h1, h2, h3, h4, h5⟩ := s.gel _ _ _ _ e
  have hac : a ∈ ci := List.mem_of_getElem? e1
  have inj : ∀ {m : Nat}, ci[m]? = some a → m = n := fun {m} hm => by
    obtain ⟨g1, g2⟩ := List.getElem?_eq_some_iff.mp e1
    obtain ⟨g3, g4⟩ := List.getElem?_eq_some_iff.mp hm
    exact (List.getElem_inj s.nd).mp (g4.trans g2.symm)
  have old : ∀ {m : Nat} {c : Cell}, (S.set n .dead)[m]? = some c → c ≠ .dead → S[m]? = some c ∧ m ≠ n := fun {m c} h hd => by
    by_cases hm : m = n
    · subst hm
      rw [List.getElem?_set_self (List.getElem?_eq_some_iff.mp e).1] at h
      cases h
      exact absurd rfl hd
    · rw [List.getElem?_set_ne (Ne.symm hm)] at h
      exact ⟨h, hm⟩
  have hx : Ext F (upd F a (insG C ns dx vs)) := ext_new h1
  refine ⟨a, dx, ns.zip vs, upd F a (insG C ns dx vs), e1, upd_same, ⟨fun b o q => ?_, by rw [s.len, List.length_set], s.nd, s.there, fun m ys q => ?_, fun m u q => ?_, fun m two g ys q => ?_⟩, ⟨hx, List.prefix_refl _, fun _ _ q _ => q, fun _ h n => absurd h n, fun b o q => ?_⟩⟩
  · by_cases hb : b = a
    · subst hb; rw [upd_same] at q; cases q; exact h2
    · rw [upd_ne hb] at q; exact s.le b o q
  · obtain ⟨q, hm⟩ := old q (fun z => nomatch z)
    obtain ⟨b, ws, f1, f2, f3, f4, f5⟩ := s.cel m ys q
    have hb : b ≠ a := fun z => hm (inj (z ▸ f1))
    exact ⟨b, ws, f1, by rw [upd_ne hb]; exact f2, f3, f4, f5.mono hx (List.prefix_refl _)⟩
  · obtain ⟨q, hm⟩ := old q (fun z => nomatch z)
    obtain ⟨b, f1, f2, f3⟩ := s.kel m u q
    have hb : b ≠ a := fun z => hm (inj (z ▸ f1))
    exact ⟨b, f1, by rw [upd_ne hb]; exact f2, f3⟩
  · obtain ⟨q, hm⟩ := old q (fun z => nomatch z)
    obtain ⟨b, f1, hg⟩ := s.gel m two g ys q
    have hb : b ≠ a := fun z => hm (inj (z ▸ f1))
    exact ⟨b, f1, hg.frz hb h1 fun c q => by rw [h2] at q; cases q⟩
  · by_cases hb : b = a
    · subst hb; exact .inr (.inl hac)
    · rw [upd_ne hb] at q; exact .inl q
end
/-- the instance is passed on -/
noncomputable def opqV (C : Addr) (ns : List Str) : PV → Sto → Res PV := fun d S => match insAt S C ns d with
  | some (n, _) => .ok (.opq (.ref C)) (S.set n .dead)
  | none => .stuck
section
variable {X : Cx} {W : WX} {e : Expr} {f : ExprD} {C : Addr} {ns : List Str}
theorem de_opq (O : OpC X.K C) (he : PE X e (tE X.K X.mg W f)) : PE X e (tE X.K X.mg W (unE (opqV C ns) f)) := he.imp fun σ H Q h => by
  obtain ⟨env, F, ci, S, sr, er, h⟩ := h
  refine ⟨env, F, ci, S, sr, er, (Out.bind h).imp fun d F1 c1 S1 H1 l1 s1 h1 v1 r1 => ?_⟩
  unfold opqV at h1
  split at h1
  · rename_i n xs hi
    obtain ⟨a, _, _, rfl, rfl, ec, e1, _⟩ := ins_rd s1 r1 hi
    obtain ⟨a', dx, fs, F2, g1, g2, s2, l2⟩ := s1.opaqued e1
    rw [ec] at g1; cases g1
    exact h1 _ _ _ l2 s2 _ (.opq (O.opq g2))
  · exact h1.elim
end
end LH

/-! ODX: the empty dict as a value that is only passed on. -/
namespace LH
open PySem PySem.Spec PyProof.Rows L2
theorem opq_dict {K : PySem.W.Frag} {F : Hp} {a : Addr} {kvs : List (Key × V)} (h : F a = some (.dK kvs)) : OpqAt K F a (.type "dict") where
  at_ := ⟨_, h⟩
  ty := fun H q => .base (.dK (q _ _ h))
  no := fun T hT => by
    simp only [List.mem_cons, List.not_mem_nil, or_false] at hT
    rcases hT with rfl | rfl | rfl | rfl | rfl <;> exact kit_ty (by decide +kernel)
def dct0 : PV := .opq (.type "dict")
section
variable {X : Cx} {W : WX} {pos : Pos}
theorem de_dct0 : PE X (.Dict [] [] pos) (tE X.K X.mg W (cE dct0)) := pe_dnewK.imp fun σ H Q h => by
  obtain ⟨env, F, ci, S, sr, er, h⟩ := h
  intro p hp
  obtain ⟨s2, l2⟩ := sr.laid (o := .dK []) hp
  exact h _ _ _ l2 s2 _ (.opq (opq_dict upd_same))
end
end LH

/-! LOQ: a class whose instances are only passed on. -/
namespace LH
open PySem PySem.Spec PyProof.Rows L2
theorem opc_ok {K : PySem.W.Frag} {c : Str} (h : opcB K c = true) (cl : Cls K (He.ga K c)) : OpC K (He.ga K c) := by
  unfold opcB at h
  simp only [Bool.and_eq_true, decide_eq_true_iff, List.all_eq_true] at h
  obtain ⟨h1, h2, h3, h4, h5⟩ := h
  exact ⟨cl, h1, h2, h3, h4, fun T hT => h5 T hT⟩
end LH

/-! LSS: s.upper(), l.index(x), and whether a list or a tuple of any things is empty. -/
namespace LH
open PySem PySem.Spec PyProof.Rows L2
def upV : PV → Sto → Res PV := fun x S => match x with
  | .str z => if z.length ≤ 5592405 then .ok (.str (Txt.upper z)) S else .stuck
  | _ => .stuck
def findP (y : PV) : List PV → Option Nat
  | [] => none
  | x :: r => if feq x y = true then some 0 else (findP y r).map (· + 1)
def indexV (d y : PV) (S : Sto) : Res PV := match lstOf S d with
  | some xs => if flat y = true ∧ xs.all flat = true then (match findP y xs with
    | some j => .ok (.int (j : Nat)) S
    | none => .stuck) else .stuck
  | none => .stuck
def indexE (fo f : ExprD) : ExprD := fun env S => (fo env S).bind fun d S1 => match lstOf S1 d with
  | some _ => (f env S1).bind fun y S2 => indexV d y S2
  | none => .stuck
section
variable {X : Cx} {W : WX} {o e : Expr} {fo f : ExprD} {apos pos : Pos}
end
/-! ### is it empty? -/
def zlen (S : Sto) (x y : PV) : Option Nat := match x, y with
  | .tup xs, .tup [] => some xs.length
  | d, e => match lstOf S d, lstOf S e with
    | some xs, some [] => some xs.length
    | _, _ => none
def eqZV : PV → PV → Sto → Res PV := fun x y S => match zlen S x y with
  | some n => .ok (.bl (n == 0)) S
  | none => eqV x y S
def neZV : PV → PV → Sto → Res PV := fun x y S => match zlen S x y with
  | some n => .ok (.bl (!(n == 0))) S
  | none => neV x y S
@[simp] theorem eqZ_tup {xs : List PV} {S : Sto} : eqZV (.tup xs) (.tup []) S = .ok (.bl (xs.length == 0)) S := (rfl)
@[simp] theorem neZ_tup {xs : List PV} {S : Sto} : neZV (.tup xs) (.tup []) S = .ok (.bl (!(xs.length == 0))) S := (rfl)
@[simp] theorem eqZ_lst {xs : List PV} {S : Sto} : eqZV (.lst xs) (.lst []) S = .ok (.bl (xs.length == 0)) S := (rfl)
@[simp] theorem neZ_lst {xs : List PV} {S : Sto} : neZV (.lst xs) (.lst []) S = .ok (.bl (!(xs.length == 0))) S := (rfl)
theorem zlen_rd {K : PySem.W.Frag} {F : Hp} {ci : List Addr} {S : Sto} {H : Hp} {x y : PV} {v u : V} {n : Nat} (s : SR K F ci S H) (r1 : Rp K F ci x v) (r2 : Rp K F ci y u) (h : zlen S x y = some n) :
    ∃ a b vs, v = .ref a ∧ u = .ref b ∧ vs.length = n ∧ ((SqT K H a vs ∧ SqT K H b []) ∨ (SqL K H a vs ∧ SqL K H b [])) := by
  unfold zlen at h
  split at h
  · cases h
    cases r1 with
    | tup e z rs =>
      cases r2 with
      | tup e' z' rs' =>
        cases rs'.nil_inv
        exact ⟨_, _, _, rfl, rfl, rs.length.symm, .inl ⟨s.sqT e, s.sqT e'⟩⟩
  · split at h
    · rename_i xs h1 h2
      cases h
      obtain ⟨a, vs, rfl, hs, rs, _⟩ := lst_rd s r1 h1
      obtain ⟨b, ws, rfl, hs', rs', _⟩ := lst_rd s r2 h2
      cases rs'.nil_inv
      exact ⟨a, b, vs, rfl, rfl, rs.length.symm, .inr ⟨hs, hs'⟩⟩
    · cases h
theorem vals_nil {its : List Value} (r : Vals [] its) : its = [] := by cases r; rfl
section
variable {X : Cx} {E : XK}
theorem od_eqZ (hu : X.A.units + 64 < cLine) : OpR X (compareOp .Eq) (rD X.K X.mg E eqZV) := by
  intro pins s σ H x y v u Q I rx ry q
  obtain ⟨F, ci, S, dx, dy, sr, r1, r2, q⟩ := q
  have hc : X.A.units < cLine := by omega
  unfold eqZV at q
  split at q
  · rename_i n hn
    obtain ⟨a, b, vs, rfl, rfl, hl, hh⟩ := zlen_rd sr r1 r2 hn
    cases rx
    cases ry
    have hQ := q.here sr _ (.bl _)
    rcases hh with ⟨ha, hb⟩ | ⟨ha, hb⟩
    · obtain ⟨us, ra, pa, _⟩ := I.tuple ha
      obtain ⟨ws, rb, pb, _⟩ := I.tuple hb
      have := vals_nil rb
      subst this
      have hz : us.length = n := by rw [← ra.length]; exact hl
      refine SeqAt.RcAt.tuples (e := fun _ => true) pa pb hc (fun j _ h2 => absurd h2 (by simp)) X.prog X.w _ _ ⟨.bl (n == 0), H, I, ?_, hQ⟩
      show Value.bool _ = Value.bool _
      congr 1
      simp [hz]
    · obtain ⟨us, ra, pa, _⟩ := I.list ha
      obtain ⟨ws, rb, pb, _⟩ := I.list hb
      have := vals_nil rb
      subst this
      have hz : us.length = n := by rw [← ra.length]; exact hl
      by_cases h0 : n = 0
      · refine SeqAt.RcAt.lists (e := fun _ => true) pa.isList pb.isList (by simp [hz, h0]) hc (fun j _ h2 => absurd h2 (by simp)) X.prog X.w _ _ ⟨.bl (n == 0), H, I, ?_, hQ⟩
        show Value.bool _ = Value.bool _
        congr 1
        simp [hz, h0]
      · refine SeqAt.RcAt.lists_lengths pa.isList pb.isList (by simp [hz, h0]) hc X.prog X.w _ _ ⟨.bl (n == 0), H, I, ?_, hQ⟩
        show Value.bool _ = Value.bool _
        congr 1
        simp [hz, h0]
  · exact od_eq hu pins s σ H x y v u Q I rx ry ⟨F, ci, S, dx, dy, sr, r1, r2, q⟩
end
end LH

namespace LW
open PySem PySem.Spec PyProof.Rows L2 LH
abbrev FnP (K : PySem.W.Frag) (x : Str) (st : Stmt) (f : Addr) (fd : FuncData) : Prop := FunD K x x (defArgs st) (defBody st) (defScope st) [] [] f fd
abbrev FnQ (K : PySem.W.Frag) (x qual : Str) (st : Stmt) (f : Addr) (fd : FuncData) : Prop := FunD K x qual (defArgs st) (defBody st) (defScope st) [] [] f fd
/-! what they compute -/
-- _law_case_N: 0=_law_script 1=_law_at 2=_law_cell
noncomputable def d__law_case_N : FnDen := exitN (fnD 2 3 (seqS (asgS (.nm 2) (iteE (tstE (binE ltV (vE 1) (bE lenB (consA (vE 0) (nilA))))) (binE itemV (vE 0) (vE 1)) (cE (.int 0)))) (retS (cellE (consA (bE maxB (consA (cE (.int 0)) (consA (binE subV (bE absB (consA (vE 2) (nilA))) (binE powV (cE (.int 10)) (cE (.int 18)))) (nilA)))) (consA (binE addV (binE addV (binE mulV (binE modV (bE intB (consA (vE 2) (nilA))) (binE addV (binE powV (cE (.int 10)) (cE (.int 38))) (cE (.int 133)))) (cE (.int 97))) (binE mulV (cE (.int 67)) (vE 1))) (cE (.int 41))) (consA (cE (.int 0)) (nilA))))))))
-- _law_take_T: 0=_law_case_here 1=_law_below 2=_law_digit 3=_law_blend
noncomputable def d__law_take_T : FnDen := fnD 2 4 (seqS (ifS (tstE (binE gtV (binE itemV (vE 0) (cE (.int 0))) (cE (.int 0)))) (seqS (asgS (.nm 2) (binE modV (bE intB (consA (binE itemV (vE 0) (cE (.int 0))) (nilA))) (vE 1))) (seqS (setS (vE 0) (cE (.int 0)) (binE fdivV (binE itemV (vE 0) (cE (.int 0))) (vE 1))) (retS (vE 2)))) (skipS)) (seqS (setS (vE 0) (cE (.int 2)) (binE addV (binE itemV (vE 0) (cE (.int 2))) (cE (.int 1)))) (seqS (asgS (.nm 3) (binE modV (binE powV (bE intB (consA (binE addV (binE itemV (vE 0) (cE (.int 1))) (binE mulV (cE (.int 80021)) (binE itemV (vE 0) (cE (.int 2))))) (nilA))) (cE (.int 2))) (binE addV (binE powV (cE (.int 10)) (cE (.int 39))) (cE (.int 187))))) (seqS (asgS (.nm 3) (binE modV (binE powV (bE intB (consA (binE addV (vE 3) (binE mulV (cE (.int 1700021)) (binE itemV (vE 0) (cE (.int 2))))) (nilA))) (cE (.int 3))) (binE addV (binE powV (cE (.int 10)) (cE (.int 37))) (cE (.int 139))))) (retS (binE modV (binE fdivV (vE 3) (cE (.int 16384))) (vE 1)))))))
noncomputable def H__law_common_T_0 : TestD := tstE (binE neV (vE 1) (cE (.int 0)))
noncomputable def B__law_common_T_0 : StmtD := par2S 0 1 (consA (vE 1) (consA (binE modV (bE intB (consA (vE 0) (nilA))) (vE 1)) (nilA)))
-- _law_common_T: 0=_law_first 1=_law_second
noncomputable def d__law_common_T : FnDen := fnD 2 2 (seqS (whileS H__law_common_T_0 B__law_common_T_0) (retS (vE 0)))
-- _law_lowest_T: 0=_law_top 1=_law_bottom 2=_law_part
noncomputable def d__law_lowest_T : FnDen := fnD 2 3 (seqS (asgS (.nm 2) (callE d__law_common_T (consA (bE absB (consA (vE 0) (nilA))) (consA (vE 1) (nilA))))) (retS (tupE (consA (binE fdivV (vE 0) (vE 2)) (consA (binE fdivV (vE 1) (vE 2)) (nilA))))))
-- _law_fraction_T: 0=_law_case_here 1=_law_great 2=_law_bottom
noncomputable def d__law_fraction_T : FnDen := fnD 2 3 (seqS (asgS (.nm 2) (binE itemV (listE (consA (cE (.int 1)) (consA (cE (.int 1)) (consA (cE (.int 2)) (consA (binE addV (cE (.int 1)) (callE d__law_take_T (consA (vE 0) (consA (cE (.int 9)) (nilA))))) (consA (binE addV (cE (.int 1)) (callE d__law_take_T (consA (vE 0) (consA (binE powV (cE (.int 10)) (cE (.int 6))) (nilA))))) (nilA))))))) (callE d__law_take_T (consA (vE 0) (consA (cE (.int 5)) (nilA)))))) (retS (callE d__law_lowest_T (consA (callE d__law_take_T (consA (vE 0) (consA (binE addV (bE minB (consA (binE mulV (vE 1) (vE 2)) (consA (binE powV (cE (.int 10)) (cE (.int 6))) (nilA)))) (cE (.int 1))) (nilA)))) (consA (vE 2) (nilA))))))
-- _law_rule_T: 0=_law_case_here 1=_law_kind_here 2=_law_great 3=_law_gain_here 4=_law_wide
noncomputable def d__law_rule_T : FnDen := fnD 3 5 (seqS (ifS (orT (tstE (binE eqV (vE 1) (cE (.str "bucket")))) (tstE (binE eqV (vE 1) (cE (.str "meter"))))) (seqS (asgS (.nm 3) (callE d__law_fraction_T (consA (vE 0) (consA (binE itemV (listE (consA (cE (.int 1)) (consA (cE (.int 3)) (consA (vE 2) (nilA))))) (callE d__law_take_T (consA (vE 0) (consA (cE (.int 3)) (nilA))))) (nilA))))) (retS (tupE (consA (vE 1) (consA (callE d__law_fraction_T (consA (vE 0) (consA (vE 2) (nilA)))) (consA (vE 3) (nilA))))))) (skipS)) (seqS (ifS (tstE (binE eqV (vE 1) (cE (.str "gap")))) (retS (tupE (consA (vE 1) (consA (binE itemV (listE (consA (cE (.int 0)) (consA (callE d__law_take_T (consA (vE 0) (consA (cE (.int 9)) (nilA)))) (consA (callE d__law_take_T (consA (vE 0) (consA (binE addV (vE 2) (cE (.int 1))) (nilA)))) (nilA))))) (callE d__law_take_T (consA (vE 0) (consA (cE (.int 3)) (nilA))))) (nilA))))) (skipS)) (seqS (asgS (.nm 4) (binE addV (cE (.int 1)) (callE d__law_take_T (consA (vE 0) (consA (binE itemV (listE (consA (cE (.int 4)) (consA (cE (.int 12)) (consA (vE 2) (nilA))))) (callE d__law_take_T (consA (vE 0) (consA (cE (.int 3)) (nilA))))) (nilA)))))) (retS (tupE (consA (vE 1) (consA (vE 4) (consA (callE d__law_take_T (consA (vE 0) (consA (binE addV (vE 2) (cE (.int 1))) (nilA)))) (nilA)))))))))
-- is_integer_T: 0=value
noncomputable def d_is_integer_T : FnDen := fnD 1 1 (retS (andE (bE isinB (consA (vE 0) (consA (cE (.ty "int")) (nilA)))) (notE (bE isinB (consA (vE 0) (consA (cE (.ty "bool")) (nilA)))))))
-- is_at_least_T: 0=value 1=least
noncomputable def d_is_at_least_T : FnDen := fnD 2 2 (retS (andE (callE d_is_integer_T (consA (vE 0) (nilA))) (binE geV (vE 0) (vE 1))))
noncomputable def H_greatest_divisor_T_0 : TestD := tstE (binE neV (vE 1) (cE (.int 0)))
noncomputable def B_greatest_divisor_T_0 : StmtD := par2S 0 1 (consA (vE 1) (consA (binE modV (bE intB (consA (vE 0) (nilA))) (vE 1)) (nilA)))
-- greatest_divisor_T: 0=one 1=other
noncomputable def d_greatest_divisor_T : FnDen := fnD 2 2 (seqS (whileS H_greatest_divisor_T_0 B_greatest_divisor_T_0) (retS (vE 0)))
-- is_fraction_T: 0=value
noncomputable def d_is_fraction_T : FnDen := fnD 1 1 (seqS (ifS (orT (notT (tstE (bE isinB (consA (vE 0) (consA (cE (.ty "tuple")) (nilA)))))) (tstE (binE neV (bE lenB (consA (vE 0) (nilA))) (cE (.int 2))))) (retS (cE (.bl false))) (skipS)) (retS (andE (callE d_is_at_least_T (consA (binE itemV (vE 0) (cE (.int 0))) (consA (cE (.int 0)) (nilA)))) (andE (callE d_is_at_least_T (consA (binE itemV (vE 0) (cE (.int 1))) (consA (cE (.int 1)) (nilA)))) (binE eqV (callE d_greatest_divisor_T (consA (binE itemV (vE 0) (cE (.int 0))) (consA (binE itemV (vE 0) (cE (.int 1))) (nilA)))) (cE (.int 1)))))))
-- is_rule_T: 0=value
noncomputable def d_is_rule_T : FnDen := fnD 1 1 (seqS (ifS (orT (notT (tstE (bE isinB (consA (vE 0) (consA (cE (.ty "tuple")) (nilA)))))) (orT (tstE (binE eqZV (vE 0) (tupE (nilA)))) (notT (tstE (bE isinB (consA (binE itemV (vE 0) (cE (.int 0))) (consA (cE (.ty "str")) (nilA)))))))) (retS (cE (.bl false))) (skipS)) (seqS (ifS (tstE (binE inV (binE itemV (vE 0) (cE (.int 0))) (cE (.tup ((["bucket", "meter"] : List Str).map PV.str))))) (retS (andE (binE eqV (bE lenB (consA (vE 0) (nilA))) (cE (.int 3))) (andE (callE d_is_fraction_T (consA (binE itemV (vE 0) (cE (.int 1))) (nilA))) (callE d_is_fraction_T (consA (binE itemV (vE 0) (cE (.int 2))) (nilA)))))) (skipS)) (seqS (ifS (tstE (binE inV (binE itemV (vE 0) (cE (.int 0))) (cE (.tup ((["window", "frame"] : List Str).map PV.str))))) (retS (andE (binE eqV (bE lenB (consA (vE 0) (nilA))) (cE (.int 3))) (andE (callE d_is_at_least_T (consA (binE itemV (vE 0) (cE (.int 1))) (consA (cE (.int 1)) (nilA)))) (callE d_is_at_least_T (consA (binE itemV (vE 0) (cE (.int 2))) (consA (cE (.int 0)) (nilA))))))) (skipS)) (retS (andE (binE eqV (binE itemV (vE 0) (cE (.int 0))) (cE (.str "gap"))) (andE (binE eqV (bE lenB (consA (vE 0) (nilA))) (cE (.int 2))) (callE d_is_at_least_T (consA (binE itemV (vE 0) (cE (.int 1))) (consA (cE (.int 0)) (nilA))))))))))
-- _law_same_T: 0=_law_found 1=_law_due 2=_law_k
noncomputable def b__law_same_T (rec : FnDen) : FnDen := fnD 2 3 (seqS (ifS (orT (tstE (bE isinB (consA (vE 0) (consA (cE (.ty "bool")) (nilA))))) (tstE (bE isinB (consA (vE 1) (consA (cE (.ty "bool")) (nilA)))))) (retS (andE (bE isinB (consA (vE 0) (consA (cE (.ty "bool")) (nilA)))) (andE (bE isinB (consA (vE 1) (consA (cE (.ty "bool")) (nilA)))) (binE eqV (vE 0) (vE 1))))) (skipS)) (seqS (ifS (tstE (binE neV (bE isinB (consA (vE 0) (consA (cE (.ty "list")) (nilA)))) (bE isinB (consA (vE 1) (consA (cE (.ty "list")) (nilA)))))) (retS (cE (.bl false))) (skipS)) (seqS (ifS (andT (tstE (unE (isinsV ["list", "tuple"]) (vE 0))) (tstE (unE (isinsV ["list", "tuple"]) (vE 1)))) (seqS (ifS (tstE (binE neV (bE lenB (consA (vE 0) (nilA))) (bE lenB (consA (vE 1) (nilA))))) (retS (cE (.bl false))) (skipS)) (retS (binE eqV (compE (range1I (bE lenB (consA (vE 1) (nilA)))) (.nm 2) [2] (notT (tstE (callE rec (consA (binE itemV (vE 0) (vE 2)) (consA (binE itemV (vE 1) (vE 2)) (nilA)))))) (vE 2)) (listE (nilA))))) (skipS)) (retS (andE (binE eqV (vE 0) (vE 1)) (binE eqV (bE isinB (consA (vE 0) (consA (cE (.ty "int")) (nilA)))) (bE isinB (consA (vE 1) (consA (cE (.ty "int")) (nilA))))))))))
noncomputable def r__law_same_T : Nat → FnDen
  | 0 => fun _ _ => .stuck
  | n + 1 => b__law_same_T (r__law_same_T n)
noncomputable def d__law_same_T : FnDen := r__law_same_T 6
noncomputable def X__law_no_rule_T_0 : ExprD := binE addV (binE addV (sliceE (vE 1) noP (someP (vE 3))) (tupE (consA (vE 8) (nilA)))) (sliceE (vE 1) (someP (binE addV (vE 3) (cE (.int 1)))) noP)
noncomputable def X__law_no_rule_T_1 : ExprD := binE addV (tupE (consA (vE 9) (nilA))) (sliceE (vE 1) (someP (cE (.int 1))) noP)
-- _law_no_rule_T: 0=_law_case_here 1=_law_rule_here 2=_law_odd 3=_law_spot 4=_law_bads 5=_law_wrong 6=_law_word 7=_law_heads 8=_law_bad 9=_law_head
noncomputable def d__law_no_rule_T : FnDen := fnD 2 10 (seqS (asgS (.nm 2) (binE itemV (listE (consA (cE .non) (consA (cE (.bl true)) (consA (cE (.bl false)) (consA (cE (.str "1")) (consA (tupE (consA (cE (.int 1)) (consA (cE (.int 2)) (consA (cE (.int 3)) (consA (cE (.int 4)) (nilA)))))) (consA (listE (consA (cE (.int 2)) (nilA))) (consA (cE dct0) (consA (tupE (consA (cE (.int 1)) (nilA))) (consA (unE negV (cE (.int 1))) (nilA))))))))))) (callE d__law_take_T (consA (vE 0) (consA (cE (.int 9)) (nilA)))))) (seqS (asgS (.nm 3) (binE addV (cE (.int 1)) (callE d__law_take_T (consA (vE 0) (consA (binE subV (bE lenB (consA (vE 1) (nilA))) (cE (.int 1))) (nilA)))))) (seqS (asgS (.nm 4) (listE (consA (vE 2) (consA (tupE (consA (cE (.int 1)) (consA (vE 2) (nilA)))) (consA (tupE (consA (vE 2) (consA (cE (.int 1)) (nilA)))) (consA (tupE (consA (cE (.int 2)) (consA (cE (.int 4)) (nilA)))) (consA (tupE (consA (cE (.int 0)) (consA (cE (.int 2)) (nilA)))) (consA (tupE (consA (cE (.int 3)) (consA (cE (.int 9)) (nilA)))) (consA (tupE (consA (cE (.int 0)) (consA (cE (.int 3)) (nilA)))) (consA (tupE (consA (cE (.int 35)) (consA (cE (.int 49)) (nilA)))) (consA (tupE (consA (cE (.int 1)) (consA (cE (.int 0)) (nilA)))) (consA (tupE (consA (unE negV (cE (.int 1))) (consA (cE (.int 2)) (nilA)))) (nilA))))))))))))) (seqS (asgS (.nm 4) (binE addV (vE 4) (listE (consA (listE (consA (cE (.int 1)) (consA (cE (.int 2)) (nilA)))) (consA (tupE (consA (cE (.int 1)) (consA (cE (.int 2)) (consA (cE (.int 3)) (nilA))))) (consA (tupE (consA (cE (.int 1)) (consA (cE (.int 2)) (nilA)))) (nilA))))))) (seqS (ifS (orT (tstE (binE eqV (binE itemV (vE 1) (cE (.int 0))) (cE (.str "bucket")))) (tstE (binE eqV (binE itemV (vE 1) (cE (.int 0))) (cE (.str "meter"))))) (asgS (.nm 4) (binE addV (sliceE (vE 4) noP (someP (unE negV (cE (.int 1))))) (listE (consA (cE (.int 3)) (nilA))))) (skipS)) (seqS (asgS (.nm 5) (compE (seqI (vE 4)) (.nm 8) [8] yesT X__law_no_rule_T_0)) (seqS (ifS (orT (tstE (binE eqV (binE itemV (vE 1) (cE (.int 0))) (cE (.str "window")))) (tstE (binE eqV (binE itemV (vE 1) (cE (.int 0))) (cE (.str "frame"))))) (asgS (.nm 5) (binE addV (vE 5) (listE (consA (tupE (consA (binE itemV (vE 1) (cE (.int 0))) (consA (cE (.int 0)) (consA (cE (.int 3)) (nilA))))) (consA (tupE (consA (binE itemV (vE 1) (cE (.int 0))) (consA (cE (.int 3)) (consA (unE negV (cE (.int 1))) (nilA))))) (nilA)))))) (skipS)) (seqS (asgS (.nm 6) (binE itemV (vE 1) (cE (.int 0)))) (seqS (asgS (.nm 7) (listE (consA (cE .non) (consA (cE (.int 1)) (consA (listE (consA (vE 6) (nilA))) (consA (cE dct0) (consA (binE addV (vE 6) (cE (.str "s"))) (consA (sliceE (vE 6) noP (someP (unE negV (cE (.int 1))))) (consA (sliceE (vE 6) (someP (cE (.int 1))) noP) (consA (cE (.str "")) (consA (binE addV (cE (.str " ")) (vE 6)) (consA (tupE (consA (vE 6) (nilA))) (consA (cE (.str "Bucket")) (consA (cE (.str "leaky")) (nilA))))))))))))))) (seqS (asgS (.nm 5) (binE addV (vE 5) (compE (seqI (vE 7)) (.nm 9) [9] yesT X__law_no_rule_T_1))) (seqS (asgS (.nm 5) (binE addV (vE 5) (listE (consA (tupE (nilA)) (consA (cE .non) (consA (vE 6) (consA (bE listB (consA (vE 1) (nilA))) (consA (binE addV (vE 1) (tupE (consA (cE (.int 1)) (nilA)))) (consA (sliceE (vE 1) noP (someP (unE negV (cE (.int 1))))) (consA (sliceE (vE 1) (someP (cE (.int 1))) noP) (nilA))))))))))) (seqS (asgS (.nm 5) (binE addV (vE 5) (listE (consA (cE dct0) (consA (cE (.int 0)) (consA (tupE (consA (vE 1) (nilA))) (nilA))))))) (retS (binE itemV (vE 5) (callE d__law_take_T (consA (vE 0) (consA (bE lenB (consA (vE 5) (nilA))) (nilA))))))))))))))))))
-- _law_is_whole_T: 0=_law_thing 1=_law_least
noncomputable def d__law_is_whole_T : FnDen := fnD 2 2 (retS (andE (bE isinB (consA (vE 0) (consA (cE (.ty "int")) (nilA)))) (andE (notE (bE isinB (consA (vE 0) (consA (cE (.ty "bool")) (nilA))))) (binE geV (vE 0) (vE 1)))))
noncomputable def B__law_is_rule_T_0 : StmtD := seqS (ifS (orT (notT (tstE (bE isinB (consA (vE 1) (consA (cE (.ty "tuple")) (nilA)))))) (orT (tstE (binE neV (bE lenB (consA (vE 1) (nilA))) (cE (.int 2)))) (notT (tstE (callE d__law_is_whole_T (consA (binE itemV (vE 1) (cE (.int 0))) (consA (cE (.int 0)) (nilA)))))))) (retS (cE (.bl false))) (skipS)) (ifS (orT (notT (tstE (callE d__law_is_whole_T (consA (binE itemV (vE 1) (cE (.int 1))) (consA (cE (.int 1)) (nilA)))))) (tstE (binE neV (callE d__law_common_T (consA (binE itemV (vE 1) (cE (.int 0))) (consA (binE itemV (vE 1) (cE (.int 1))) (nilA)))) (cE (.int 1))))) (retS (cE (.bl false))) (skipS))
-- _law_is_rule_T: 0=_law_thing 1=_law_part
noncomputable def d__law_is_rule_T : FnDen := fnD 1 2 (seqS (ifS (orT (notT (tstE (bE isinB (consA (vE 0) (consA (cE (.ty "tuple")) (nilA)))))) (orT (tstE (binE ltV (bE lenB (consA (vE 0) (nilA))) (cE (.int 2)))) (notT (tstE (bE isinB (consA (binE itemV (vE 0) (cE (.int 0))) (consA (cE (.ty "str")) (nilA)))))))) (retS (cE (.bl false))) (skipS)) (seqS (ifS (tstE (binE eqV (binE itemV (vE 0) (cE (.int 0))) (cE (.str "gap")))) (retS (andE (binE eqV (bE lenB (consA (vE 0) (nilA))) (cE (.int 2))) (callE d__law_is_whole_T (consA (binE itemV (vE 0) (cE (.int 1))) (consA (cE (.int 0)) (nilA)))))) (skipS)) (seqS (ifS (tstE (binE neV (bE lenB (consA (vE 0) (nilA))) (cE (.int 3)))) (retS (cE (.bl false))) (skipS)) (seqS (ifS (orT (tstE (binE eqV (binE itemV (vE 0) (cE (.int 0))) (cE (.str "window")))) (tstE (binE eqV (binE itemV (vE 0) (cE (.int 0))) (cE (.str "frame"))))) (retS (andE (callE d__law_is_whole_T (consA (binE itemV (vE 0) (cE (.int 1))) (consA (cE (.int 1)) (nilA)))) (callE d__law_is_whole_T (consA (binE itemV (vE 0) (cE (.int 2))) (consA (cE (.int 0)) (nilA)))))) (skipS)) (seqS (ifS (andT (tstE (binE neV (binE itemV (vE 0) (cE (.int 0))) (cE (.str "bucket")))) (tstE (binE neV (binE itemV (vE 0) (cE (.int 0))) (cE (.str "meter"))))) (retS (cE (.bl false))) (skipS)) (seqS (forS (seqI (sliceE (vE 0) (someP (cE (.int 1))) noP)) (.nm 1) B__law_is_rule_T_0) (retS (cE (.bl true)))))))))
noncomputable def B__law_requests_T_0 : StmtD := seqS (asgS (.nm 5) (binE addV (vE 5) (binE itemV (listE (consA (cE (.int 0)) (consA (cE (.int 1)) (consA (callE d__law_take_T (consA (vE 0) (consA (cE (.int 4)) (nilA)))) (consA (callE d__law_take_T (consA (vE 0) (consA (binE addV (vE 2) (cE (.int 1))) (nilA)))) (nilA)))))) (callE d__law_take_T (consA (vE 0) (consA (cE (.int 4)) (nilA))))))) (exprS (appE (vE 4) (tupE (consA (vE 5) (consA (binE addV (cE (.int 1)) (callE d__law_take_T (consA (vE 0) (consA (binE itemV (listE (consA (cE (.int 2)) (consA (vE 3) (nilA)))) (callE d__law_take_T (consA (vE 0) (consA (cE (.int 2)) (nilA))))) (nilA))))) (nilA))))))
-- _law_requests_T: 0=_law_case_here 1=_law_many_here 2=_law_gap_here 3=_law_cost_here 4=_law_found 5=_law_moment 6=_law_k
noncomputable def d__law_requests_T : FnDen := exitT (fnD 4 7 (seqS (par2S 4 5 (consA (cellE (nilA)) (consA (callE d__law_take_T (consA (vE 0) (consA (binE addV (vE 2) (cE (.int 1))) (nilA)))) (nilA)))) (seqS (forS (range1I (callE d__law_take_T (consA (vE 0) (consA (binE addV (vE 1) (cE (.int 1))) (nilA))))) (.nm 6) B__law_requests_T_0) (retS (bE tupleB (consA (vE 4) (nilA)))))))
-- _law_draws_T: 0=_law_case_here 1=_law_many_here 2=_law_great 3=_law_gap_here 4=_law_cost_here
noncomputable def d__law_draws_T : FnDen := fnD 3 5 (seqS (par2S 3 4 (consA (binE itemV (listE (consA (cE (.int 6)) (consA (vE 2) (nilA)))) (callE d__law_take_T (consA (vE 0) (consA (cE (.int 2)) (nilA))))) (consA (binE itemV (listE (consA (cE (.int 4)) (consA (vE 2) (nilA)))) (callE d__law_take_T (consA (vE 0) (consA (cE (.int 2)) (nilA))))) (nilA)))) (retS (callE d__law_requests_T (consA (vE 0) (consA (binE itemV (listE (consA (cE (.int 4)) (consA (vE 1) (nilA)))) (callE d__law_take_T (consA (vE 0) (consA (cE (.int 2)) (nilA))))) (consA (vE 3) (consA (vE 4) (nilA))))))))
-- is_request_T: 0=value
noncomputable def d_is_request_T : FnDen := fnD 1 1 (retS (andE (bE isinB (consA (vE 0) (consA (cE (.ty "tuple")) (nilA)))) (andE (binE eqV (bE lenB (consA (vE 0) (nilA))) (cE (.int 2))) (andE (callE d_is_at_least_T (consA (binE itemV (vE 0) (cE (.int 0))) (consA (cE (.int 0)) (nilA)))) (callE d_is_at_least_T (consA (binE itemV (vE 0) (cE (.int 1))) (consA (cE (.int 1)) (nilA))))))))
-- is_entry_T: 0=value
noncomputable def d_is_entry_T : FnDen := fnD 1 1 (retS (andE (bE isinB (consA (vE 0) (consA (cE (.ty "tuple")) (nilA)))) (andE (binE eqV (bE lenB (consA (vE 0) (nilA))) (cE (.int 3))) (andE (callE d_is_request_T (consA (sliceE (vE 0) noP (someP (cE (.int 2)))) (nilA))) (bE isinB (consA (binE itemV (vE 0) (cE (.int 2))) (consA (cE (.ty "bool")) (nilA))))))))
noncomputable def X_is_rising_T_0 : ExprD := binE leV (binE itemV (vE 1) (cE (.int 0))) (binE itemV (vE 2) (cE (.int 0)))
-- is_rising_T: 0=rows 1=row 2=after
noncomputable def d_is_rising_T : FnDen := fnD 1 3 (retS (bE allB (consA (compE (zipMI (vE 0) (sliceE (vE 0) (someP (cE (.int 1))) noP)) (.tp [(.nm 1), (.nm 2)]) [1, 2] yesT X_is_rising_T_0) (nilA))))
noncomputable def X_is_log_T_0 : ExprD := callE d_is_entry_T (consA (vE 1) (nilA))
-- is_log_T: 0=value 1=entry
noncomputable def d_is_log_T : FnDen := fnD 1 2 (retS (andE (bE isinB (consA (vE 0) (consA (cE (.ty "tuple")) (nilA)))) (andE (bE allB (consA (compE (seqI (vE 0)) (.nm 1) [1] yesT X_is_log_T_0) (nilA))) (callE d_is_rising_T (consA (vE 0) (nilA))))))
noncomputable def X_is_row_T_0 : ExprD := callE d_is_request_T (consA (vE 1) (nilA))
-- is_row_T: 0=value 1=request
noncomputable def d_is_row_T : FnDen := fnD 1 2 (retS (andE (bE isinB (consA (vE 0) (consA (cE (.ty "tuple")) (nilA)))) (andE (bE allB (consA (compE (seqI (vE 0)) (.nm 1) [1] yesT X_is_row_T_0) (nilA))) (callE d_is_rising_T (consA (vE 0) (nilA))))))
noncomputable def X__law_no_log_T_0 : ExprD := binE addV (binE addV (sliceE (vE 1) noP (someP (vE 3))) (tupE (consA (vE 8) (nilA)))) (sliceE (vE 1) (someP (vE 3)) noP)
noncomputable def X__law_no_log_T_1 : ExprD := tupE (consA (binE addV (vE 4) (vE 9)) (consA (cE (.int 1)) (consA (binE gtV (vE 9) (cE (.int 4))) (nilA))))
-- _law_no_log_T: 0=_law_case_here 1=_law_log_here 2=_law_odd 3=_law_spot 4=_law_moment 5=_law_bads 6=_law_wrong 7=_law_steps 8=_law_bad 9=_law_step
noncomputable def d__law_no_log_T : FnDen := exitT (fnD 2 10 (seqS (asgS (.nm 2) (binE itemV (listE (consA (cE .non) (consA (cE (.bl true)) (consA (cE (.str "1")) (consA (tupE (consA (cE (.int 1)) (consA (cE (.int 2)) (consA (cE (.int 3)) (consA (cE (.int 4)) (nilA)))))) (consA (listE (consA (cE (.int 2)) (nilA))) (consA (cE dct0) (consA (tupE (consA (cE (.int 1)) (nilA))) (consA (unE negV (cE (.int 1))) (nilA)))))))))) (callE d__law_take_T (consA (vE 0) (consA (cE (.int 8)) (nilA)))))) (seqS (asgS (.nm 3) (callE d__law_take_T (consA (vE 0) (consA (binE addV (bE lenB (consA (vE 1) (nilA))) (cE (.int 1))) (nilA))))) (seqS (asgS (.nm 4) (iteE (tstE (binE gtV (vE 3) (cE (.int 0)))) (binE itemV (binE itemV (vE 1) (binE subV (vE 3) (cE (.int 1)))) (cE (.int 0))) (cE (.int 0)))) (seqS (asgS (.nm 5) (listE (consA (vE 2) (consA (tupE (consA (vE 4) (consA (cE (.int 1)) (nilA)))) (consA (tupE (consA (vE 4) (consA (cE (.int 1)) (consA (cE (.int 1)) (nilA))))) (consA (tupE (consA (vE 4) (consA (cE (.int 1)) (consA (cE (.int 0)) (nilA))))) (consA (tupE (consA (vE 4) (consA (cE (.int 0)) (consA (cE (.bl true)) (nilA))))) (consA (tupE (consA (vE 4) (consA (unE negV (cE (.int 2))) (consA (cE (.bl true)) (nilA))))) (consA (tupE (consA (vE 2) (consA (cE (.int 1)) (consA (cE (.bl true)) (nilA))))) (nilA)))))))))) (seqS (asgS (.nm 5) (binE addV (vE 5) (listE (consA (tupE (consA (vE 4) (consA (vE 2) (consA (cE (.bl false)) (nilA))))) (consA (listE (consA (vE 4) (consA (cE (.int 1)) (consA (cE (.bl true)) (nilA))))) (consA (tupE (consA (vE 4) (consA (cE (.int 1)) (consA (cE (.bl true)) (consA (cE (.bl true)) (nilA)))))) (nilA))))))) (seqS (asgS (.nm 5) (binE addV (vE 5) (listE (consA (tupE (consA (vE 4) (consA (cE (.int 1)) (consA (cE .non) (nilA))))) (consA (tupE (consA (cE (.bl true)) (consA (cE (.int 1)) (consA (cE (.bl true)) (nilA))))) (nilA)))))) (seqS (asgS (.nm 6) (compCE (seqI (vE 5)) (.nm 8) [8] yesT X__law_no_log_T_0)) (seqS (asgS (.nm 6) (binE addCV (vE 6) (listE (consA (cE .non) (consA (bE listB (consA (vE 1) (nilA))) (consA (cE (.str "")) (consA (cE dct0) (consA (cE (.int 0)) (consA (cE (.bl true)) (consA (tupE (consA (vE 1) (nilA))) (consA (listE (consA (vE 1) (nilA))) (nilA)))))))))))) (seqS (asgS (.nm 6) (binE addCV (vE 6) (listE (consA (binE addV (tupE (consA (tupE (consA (binE addV (vE 4) (cE (.int 9))) (consA (cE (.int 1)) (consA (cE (.bl true)) (nilA))))) (nilA))) (tupE (consA (tupE (consA (cE (.int 2)) (consA (cE (.int 1)) (consA (cE (.bl true)) (nilA))))) (nilA)))) (nilA))))) (seqS (asgS (.nm 7) (tupE (consA (cE (.int 5)) (consA (cE (.int 3)) (consA (cE (.int 9)) (nilA)))))) (seqS (exprS (appE (vE 6) (binE addV (sliceE (vE 1) noP (someP (vE 3))) (bE tupleB (consA (compE (seqI (vE 7)) (.nm 9) [9] yesT X__law_no_log_T_1) (nilA)))))) (seqS (ifS (andT (tstE (binE gtV (bE lenB (consA (vE 1) (nilA))) (cE (.int 1)))) (tstE (binE ltV (binE itemV (binE itemV (vE 1) (cE (.int 0))) (cE (.int 0))) (binE itemV (binE itemV (vE 1) (unE negV (cE (.int 1)))) (cE (.int 0)))))) (exprS (appE (vE 6) (unE revAV (vE 1)))) (skipS)) (retS (binE itemV (vE 6) (callE d__law_take_T (consA (vE 0) (consA (bE lenB (consA (vE 6) (nilA))) (nilA)))))))))))))))))))
noncomputable def B__law_is_log_T_0 : StmtD := seqS (ifS (orT (notT (tstE (bE isinB (consA (vE 2) (consA (cE (.ty "tuple")) (nilA)))))) (tstE (binE neV (bE lenB (consA (vE 2) (nilA))) (vE 1)))) (retS (cE (.bl false))) (skipS)) (seqS (ifS (orT (notT (tstE (callE d__law_is_whole_T (consA (binE itemV (vE 2) (cE (.int 0))) (consA (cE (.int 0)) (nilA)))))) (notT (tstE (callE d__law_is_whole_T (consA (binE itemV (vE 2) (cE (.int 1))) (consA (cE (.int 1)) (nilA))))))) (retS (cE (.bl false))) (skipS)) (ifS (andT (tstE (binE eqV (vE 1) (cE (.int 3)))) (notT (tstE (bE isinB (consA (binE itemV (vE 2) (cE (.int 2))) (consA (cE (.ty "bool")) (nilA))))))) (retS (cE (.bl false))) (skipS)))
noncomputable def X__law_is_log_T_0 : ExprD := vE 3
noncomputable def G__law_is_log_T_0 : TestD := tstE (binE gtV (binE itemV (binE itemV (vE 0) (binE subV (vE 3) (cE (.int 1)))) (cE (.int 0))) (binE itemV (binE itemV (vE 0) (vE 3)) (cE (.int 0))))
-- _law_is_log_T: 0=_law_thing 1=_law_size 2=_law_part 3=_law_k
noncomputable def d__law_is_log_T : FnDen := fnD 2 4 (seqS (ifS (notT (tstE (bE isinB (consA (vE 0) (consA (cE (.ty "tuple")) (nilA)))))) (retS (cE (.bl false))) (skipS)) (seqS (forS (seqI (vE 0)) (.nm 2) B__law_is_log_T_0) (retS (binE eqV (compE (range2I (cE (.int 1)) (bE lenB (consA (vE 0) (nilA)))) (.nm 3) [3] G__law_is_log_T_0 X__law_is_log_T_0) (listE (nilA))))))
noncomputable def X__law_no_row_T_0 : ExprD := binE addV (binE addV (sliceE (vE 1) noP (someP (vE 3))) (tupE (consA (vE 7) (nilA)))) (sliceE (vE 1) (someP (vE 3)) noP)
-- _law_no_row_T: 0=_law_case_here 1=_law_row_here 2=_law_odd 3=_law_spot 4=_law_moment 5=_law_bads 6=_law_wrong 7=_law_bad
noncomputable def d__law_no_row_T : FnDen := fnD 2 8 (seqS (asgS (.nm 2) (binE itemV (listE (consA (cE .non) (consA (cE (.bl true)) (consA (cE (.str "1")) (consA (tupE (consA (cE (.int 1)) (consA (cE (.int 2)) (consA (cE (.int 3)) (consA (cE (.int 4)) (nilA)))))) (consA (listE (consA (cE (.int 2)) (nilA))) (consA (cE dct0) (consA (tupE (consA (cE (.int 1)) (nilA))) (consA (unE negV (cE (.int 1))) (nilA)))))))))) (callE d__law_take_T (consA (vE 0) (consA (cE (.int 8)) (nilA)))))) (seqS (asgS (.nm 3) (callE d__law_take_T (consA (vE 0) (consA (binE addV (bE lenB (consA (vE 1) (nilA))) (cE (.int 1))) (nilA))))) (seqS (asgS (.nm 4) (iteE (tstE (binE gtV (vE 3) (cE (.int 0)))) (binE itemV (binE itemV (vE 1) (binE subV (vE 3) (cE (.int 1)))) (cE (.int 0))) (cE (.int 0)))) (seqS (asgS (.nm 5) (listE (consA (vE 2) (consA (tupE (consA (vE 4) (nilA))) (consA (tupE (consA (vE 4) (consA (cE (.int 1)) (consA (cE (.bl true)) (nilA))))) (consA (listE (consA (vE 4) (consA (cE (.int 1)) (nilA)))) (consA (tupE (consA (vE 2) (consA (cE (.int 1)) (nilA)))) (consA (tupE (consA (vE 4) (consA (vE 2) (nilA)))) (nilA))))))))) (seqS (asgS (.nm 5) (binE addV (vE 5) (listE (consA (tupE (consA (vE 4) (consA (cE (.int 0)) (nilA)))) (consA (tupE (consA (vE 4) (consA (unE negV (cE (.int 2))) (nilA)))) (consA (cE (.str "01")) (consA (tupE (nilA)) (nilA)))))))) (seqS (asgS (.nm 6) (compE (seqI (vE 5)) (.nm 7) [7] yesT X__law_no_row_T_0)) (seqS (asgS (.nm 6) (binE addV (vE 6) (listE (consA (cE .non) (consA (bE listB (consA (vE 1) (nilA))) (consA (cE (.str "")) (consA (cE dct0) (consA (cE (.int 0)) (consA (cE (.bl true)) (consA (tupE (consA (vE 1) (nilA))) (consA (tupE (consA (tupE (consA (cE (.int 7)) (consA (cE (.int 1)) (nilA)))) (consA (tupE (consA (cE (.int 3)) (consA (cE (.int 1)) (nilA)))) (nilA)))) (consA (tupE (consA (tupE (consA (cE (.int 7)) (consA (cE (.int 1)) (nilA)))) (consA (tupE (consA (cE (.int 9)) (consA (cE (.int 1)) (nilA)))) (consA (tupE (consA (cE (.int 8)) (consA (cE (.int 1)) (nilA)))) (nilA))))) (nilA))))))))))))) (seqS (asgS (.nm 6) (binE addV (vE 6) (listE (consA (binE addV (sliceE (vE 1) noP (someP (vE 3))) (tupE (consA (tupE (consA (binE addV (vE 4) (cE (.int 5))) (consA (cE (.int 1)) (nilA)))) (consA (tupE (consA (binE addV (vE 4) (cE (.int 3))) (consA (cE (.int 1)) (nilA)))) (consA (tupE (consA (binE addV (vE 4) (cE (.int 9))) (consA (cE (.int 1)) (nilA)))) (nilA)))))) (nilA))))) (seqS (asgS (.nm 6) (binE addV (vE 6) (listE (consA (tupE (consA (tupE (consA (cE (.int 0)) (consA (cE (.int 1)) (nilA)))) (consA (tupE (consA (cE (.int 5)) (consA (cE (.int 1)) (nilA)))) (consA (tupE (consA (cE (.int 3)) (consA (cE (.int 1)) (nilA)))) (consA (tupE (consA (cE (.int 9)) (consA (cE (.int 1)) (nilA)))) (nilA)))))) (nilA))))) (seqS (ifS (andT (tstE (binE neV (vE 1) (tupE (nilA)))) (tstE (binE gtV (binE itemV (binE itemV (vE 1) (unE negV (cE (.int 1)))) (cE (.int 0))) (cE (.int 0))))) (seqS (asgS (.nm 6) (binE addV (vE 6) (listE (consA (binE addV (vE 1) (tupE (consA (tupE (consA (binE subV (binE itemV (binE itemV (vE 1) (unE negV (cE (.int 1)))) (cE (.int 0))) (cE (.int 1))) (consA (cE (.int 1)) (nilA)))) (nilA)))) (consA (binE addV (vE 1) (tupE (consA (tupE (consA (cE (.int 0)) (consA (cE (.int 1)) (nilA)))) (nilA)))) (nilA)))))) (asgS (.nm 6) (binE addV (vE 6) (listE (consA (binE addV (vE 1) (tupE (consA (binE itemV (vE 1) (unE negV (cE (.int 1)))) (consA (tupE (consA (cE (.int 0)) (consA (cE (.int 2)) (nilA)))) (nilA))))) (nilA)))))) (skipS)) (seqS (ifS (andT (tstE (binE gtV (bE lenB (consA (vE 1) (nilA))) (cE (.int 2)))) (tstE (binE ltV (binE itemV (binE itemV (vE 1) (cE (.int 0))) (cE (.int 0))) (binE itemV (binE itemV (vE 1) (unE negV (cE (.int 1)))) (cE (.int 0)))))) (asgS (.nm 6) (binE addV (vE 6) (listE (consA (unE revAV (vE 1)) (consA (binE addV (sliceE (vE 1) (someP (cE (.int 1))) noP) (sliceE (vE 1) noP (someP (cE (.int 1))))) (nilA)))))) (skipS)) (retS (binE itemV (vE 6) (callE d__law_take_T (consA (vE 0) (consA (bE lenB (consA (vE 6) (nilA))) (nilA)))))))))))))))))
-- check_kind_T: 0=kind 1=kinds
noncomputable def d_check_kind_T : FnDen := fnD 2 2 (ifS (orT (notT (tstE (bE isinB (consA (vE 0) (consA (cE (.ty "str")) (nilA)))))) (tstE (binE notInV (vE 0) (vE 1)))) (neverS) (skipS))
-- check_log_T: 0=log
noncomputable def d_check_log_T : FnDen := fnD 1 1 (ifS (notT (tstE (callE d_is_log_T (consA (vE 0) (nilA))))) (neverS) (skipS))
noncomputable def B_Heard___init___T_0 : StmtD := exprS (callE d_check_log_T (consA (vE 3) (nilA)))
-- Heard___init___T: 0=self 1=kind 2=logs 3=log
noncomputable def d_Heard___init___T (cO : Str → Addr) : FnDen := fnD 3 4 (seqS (exprS (callE d_check_kind_T (consA (vE 1) (consA (cE (.tup ((["bucket", "meter", "window", "frame", "gap"] : List Str).map PV.str))) (nilA))))) (seqS (forS (seqI (vE 2)) (.nm 3) B_Heard___init___T_0) (seqS (setFS (cO "Heard") [] "heard_kind" (vE 0) (vE 1)) (setFS (cO "Heard") ["heard_kind"] "heard_logs" (vE 0) (iteE (tstE (binE neV (vE 2) (tupE (nilA)))) (vE 2) (tupE (consA (tupE (nilA)) (nilA))))))))
-- check_rule_T: 0=rule
noncomputable def d_check_rule_T : FnDen := fnD 1 1 (ifS (notT (tstE (callE d_is_rule_T (consA (vE 0) (nilA))))) (neverS) (skipS))
-- Door___init___T: 0=self 1=rule
noncomputable def d_Door___init___T (cO : Str → Addr) : FnDen := fnD 2 2 (seqS (exprS (callE d_check_rule_T (consA (vE 1) (nilA)))) (seqS (setFS (cO "Door") [] "door_rule" (vE 0) (vE 1)) (setFS (cO "Door") ["door_rule"] "asked" (vE 0) (tupE (nilA)))))
noncomputable def B_law_T_0 : StmtD := seqS (asgS (.nm 7) (callE d__law_no_rule_T (consA (vE 3) (consA (vE 5) (nilA))))) (ifS (notT (tstE (callE d__law_same_T (consA (callE d_is_rule_T (consA (vE 7) (nilA))) (consA (callE d__law_is_rule_T (consA (vE 7) (nilA))) (nilA)))))) (retS (cE (.bl false))) (skipS))
noncomputable def X_law_T_0 : ExprD := tupE (consA (binE itemV (vE 13) (cE (.int 0))) (consA (binE itemV (vE 13) (cE (.int 1))) (consA (binE eqV (callE d__law_take_T (consA (vE 3) (consA (cE (.int 2)) (nilA)))) (cE (.int 0))) (nilA))))
noncomputable def B_law_T_1 : StmtD := seqS (asgS (.nm 7) (callE d__law_no_log_T (consA (vE 3) (consA (vE 9) (nilA))))) (seqS (ifS (notT (tstE (callE d__law_same_T (consA (callE d_is_log_T (consA (vE 7) (nilA))) (consA (callE d__law_is_log_T (consA (vE 7) (consA (cE (.int 3)) (nilA)))) (nilA)))))) (retS (cE (.bl false))) (skipS)) (seqS (ifS (notT (tstE (callE d__law_same_T (consA (callE d_is_row_T (consA (vE 7) (nilA))) (consA (callE d__law_is_log_T (consA (vE 7) (consA (cE (.int 2)) (nilA)))) (nilA)))))) (retS (cE (.bl false))) (skipS)) (seqS (asgS (.nm 7) (callE d__law_no_row_T (consA (vE 3) (consA (vE 8) (nilA))))) (ifS (notT (tstE (callE d__law_same_T (consA (listE (consA (callE d_is_row_T (consA (vE 7) (nilA))) (consA (callE d_is_log_T (consA (vE 7) (nilA))) (nilA)))) (consA (listE (consA (callE d__law_is_log_T (consA (vE 7) (consA (cE (.int 2)) (nilA)))) (consA (callE d__law_is_log_T (consA (vE 7) (consA (cE (.int 3)) (nilA)))) (nilA)))) (nilA)))))) (retS (cE (.bl false))) (skipS)))))
noncomputable def B_law_T_2 : StmtD := seqS (asgS (.nm 5) (callE d__law_rule_T (consA (vE 3) (consA (vE 4) (consA (binE itemV (listE (consA (cE (.int 9)) (consA (binE powV (cE (.int 10)) (cE (.int 6))) (consA (binE subV (binE powV (cE (.int 10)) (cE (.int 9))) (cE (.int 1))) (nilA))))) (callE d__law_take_T (consA (vE 3) (consA (cE (.int 3)) (nilA))))) (nilA)))))) (seqS (ifS (notT (tstE (callE d__law_same_T (consA (listE (consA (callE d_is_rule_T (consA (vE 5) (nilA))) (consA (callKE d_is_rule_T [0] nilA (consA (vE 5) (nilA))) (nilA)))) (consA (listE (consA (cE (.bl true)) (consA (cE (.bl true)) (nilA)))) (nilA)))))) (retS (cE (.bl false))) (skipS)) (seqS (forS (range1I (cE (.int 6))) (.nm 6) B_law_T_0) (seqS (asgS (.nm 8) (callE d__law_draws_T (consA (vE 3) (consA (cE (.int 40)) (consA (binE powV (cE (.int 10)) (cE (.int 7))) (nilA)))))) (seqS (asgS (.nm 9) (bE tupleB (consA (compE (seqI (vE 8)) (.nm 13) [13] yesT X_law_T_0) (nilA)))) (seqS (asgS (.nm 10) (listE (consA (callE d_is_row_T (consA (vE 8) (nilA))) (consA (callKE d_is_row_T [0] nilA (consA (vE 8) (nilA))) (consA (callE d_is_log_T (consA (vE 9) (nilA))) (consA (callKE d_is_log_T [0] nilA (consA (vE 9) (nilA))) (nilA))))))) (seqS (asgS (.nm 11) (binE eqV (vE 8) (tupE (nilA)))) (seqS (ifS (notT (tstE (callE d__law_same_T (consA (binE addV (vE 10) (listE (consA (callE d_is_row_T (consA (vE 9) (nilA))) (consA (callE d_is_log_T (consA (vE 8) (nilA))) (nilA))))) (consA (binE addV (binE repV (listE (consA (cE (.bl true)) (nilA))) (cE (.int 4))) (listE (consA (vE 11) (consA (vE 11) (nilA))))) (nilA)))))) (retS (cE (.bl false))) (skipS)) (forS (range1I (cE (.int 6))) (.nm 6) B_law_T_1))))))))
noncomputable def B_law_T_3 : StmtD := seqS (asgS (.nm 3) (callE d__law_case_N (consA (vE 0) (consA (vE 2) (nilA))))) (forS (seqI (vE 1)) (.nm 4) B_law_T_2)
noncomputable def X_law_T_1 : ExprD := vE 7
noncomputable def G_law_T_0 : TestD := orT (tstE (callE d_is_row_T (consA (vE 7) (nilA)))) (tstE (callE d_is_log_T (consA (vE 7) (nilA))))
-- law_T: 0=_law_script 1=_law_words 2=_law_at 3=_law_case_here 4=_law_kind_here 5=_law_rule_here 6=_law_turn 7=_law_thing 8=_law_row_here 9=_law_log_here 10=_law_heard 11=_law_empty 12=_law_some 13=_law_pair
noncomputable def d_law_T (cO : Str → Addr) : FnDen := exitT (fnD 1 14 (seqS (asgS (.nm 1) (listE (consA (cE (.str "bucket")) (consA (cE (.str "meter")) (consA (cE (.str "window")) (consA (cE (.str "frame")) (consA (cE (.str "gap")) (nilA)))))))) (seqS (forS (range1I (bE maxB (consA (cE (.int 1)) (consA (bE minB (consA (cE (.int 6)) (consA (bE lenB (consA (vE 0) (nilA))) (nilA)))) (nilA))))) (.nm 2) B_law_T_3) (seqS (asgS (.nm 12) (listE (consA (unE (opqV (cO "Door") ["door_rule", "asked"]) (makeE (cO "Door") (d_Door___init___T cO) (consA (tupE (consA (cE (.str "gap")) (consA (cE (.int 1)) (nilA)))) (nilA)))) (consA (unE (opqV (cO "Heard") ["heard_kind", "heard_logs"]) (makeE (cO "Heard") (packD 2 (d_Heard___init___T cO)) (consA (cE (.str "gap")) (nilA)))) (consA (tupE (consA (cE (.str "gap")) (consA (cE (.int 1)) (nilA)))) (nilA)))))) (seqS (ifS (tstE (binE neV (compE (seqI (vE 12)) (.nm 7) [7] G_law_T_0 X_law_T_1) (listE (nilA)))) (retS (cE (.bl false))) (skipS)) (retS (andE (binE isBV (callE d_is_rule_T (consA (unE (opqV (cO "Door") ["door_rule", "asked"]) (makeE (cO "Door") (d_Door___init___T cO) (consA (tupE (consA (cE (.str "gap")) (consA (cE (.int 1)) (nilA)))) (nilA)))) (nilA))) (cE (.bl false))) (andE (binE isBV (callE d_is_log_T (consA (tupE (nilA)) (nilA))) (cE (.bl true))) (binE isBV (callE d_is_row_T (consA (tupE (nilA)) (nilA))) (cE (.bl true)))))))))))
end LW

namespace LW
open PySem PySem.Spec PyProof.Rows L2 LH
structure Fx (K : PySem.W.Frag) (mg : Str → Option Value) (cO : Str → Addr) : Prop where
  cl_Door : Cls K (cO "Door")
  na_door_rule : NoAttr K (cO "Door") "door_rule"
  na_asked : NoAttr K (cO "Door") "asked"
  oc_Door : OpC K (cO "Door")
  cl_Heard : Cls K (cO "Heard")
  na_heard_kind : NoAttr K (cO "Heard") "heard_kind"
  na_heard_logs : NoAttr K (cO "Heard") "heard_logs"
  oc_Heard : OpC K (cO "Heard")
  n_abs : mg "abs" = none
  n_all : mg "all" = none
  n_bool : mg "bool" = none
  n_int : mg "int" = none
  n_isinstance : mg "isinstance" = none
  n_len : mg "len" = none
  n_list : mg "list" = none
  n_max : mg "max" = none
  n_min : mg "min" = none
  n_range : mg "range" = none
  n_str : mg "str" = none
  n_tuple : mg "tuple" = none
  n_zip : mg "zip" = none
  g_GAP : ∃ t, mg "GAP" = some (.str "gap" t)
  g_FILLED : ∃ u, mg "FILLED" = some (.ref u) ∧ ∀ H, SqT K H u ((["bucket", "meter"] : List Str).map V.str)
  g_KINDS : ∃ u, mg "KINDS" = some (.ref u) ∧ ∀ H, SqT K H u ((["bucket", "meter", "window", "frame", "gap"] : List Str).map V.str)
  g_SPANNED : ∃ u, mg "SPANNED" = some (.ref u) ∧ ∀ H, SqT K H u ((["window", "frame"] : List Str).map V.str)
/-! the walk -/
theorem sc__law_case : FnScope ["_law_script", "_law_at", "_law_cell"] ["_law_script", "_law_at"] (defScope s__law_case) := ⟨rfl, rfl, rfl, by decide +kernel, rfl, by decide +kernel, by decide +kernel⟩
theorem sc__law_take : FnScope ["_law_case_here", "_law_below", "_law_digit", "_law_blend"] ["_law_case_here", "_law_below"] (defScope s__law_take) := ⟨rfl, rfl, rfl, by decide +kernel, rfl, by decide +kernel, by decide +kernel⟩
theorem sc__law_common : FnScope ["_law_first", "_law_second"] ["_law_first", "_law_second"] (defScope s__law_common) := ⟨rfl, rfl, rfl, by decide +kernel, rfl, by decide +kernel, by decide +kernel⟩
theorem sc__law_lowest : FnScope ["_law_top", "_law_bottom", "_law_part"] ["_law_top", "_law_bottom"] (defScope s__law_lowest) := ⟨rfl, rfl, rfl, by decide +kernel, rfl, by decide +kernel, by decide +kernel⟩
theorem sc__law_fraction : FnScope ["_law_case_here", "_law_great", "_law_bottom"] ["_law_case_here", "_law_great"] (defScope s__law_fraction) := ⟨rfl, rfl, rfl, by decide +kernel, rfl, by decide +kernel, by decide +kernel⟩
theorem sc__law_rule : FnScope ["_law_case_here", "_law_kind_here", "_law_great", "_law_gain_here", "_law_wide"] ["_law_case_here", "_law_kind_here", "_law_great"] (defScope s__law_rule) := ⟨rfl, rfl, rfl, by decide +kernel, rfl, by decide +kernel, by decide +kernel⟩
theorem sc_is_integer : FnScope ["value"] ["value"] (defScope s_is_integer) := ⟨rfl, rfl, rfl, by decide +kernel, rfl, by decide +kernel, by decide +kernel⟩
theorem sc_is_at_least : FnScope ["value", "least"] ["value", "least"] (defScope s_is_at_least) := ⟨rfl, rfl, rfl, by decide +kernel, rfl, by decide +kernel, by decide +kernel⟩
theorem sc_greatest_divisor : FnScope ["one", "other"] ["one", "other"] (defScope s_greatest_divisor) := ⟨rfl, rfl, rfl, by decide +kernel, rfl, by decide +kernel, by decide +kernel⟩
theorem sc_is_fraction : FnScope ["value"] ["value"] (defScope s_is_fraction) := ⟨rfl, rfl, rfl, by decide +kernel, rfl, by decide +kernel, by decide +kernel⟩
theorem sc_is_rule : FnScope ["value"] ["value"] (defScope s_is_rule) := ⟨rfl, rfl, rfl, by decide +kernel, rfl, by decide +kernel, by decide +kernel⟩
theorem sc__law_same : FnScope ["_law_found", "_law_due", "_law_k"] ["_law_found", "_law_due"] (defScope s__law_same) := ⟨rfl, rfl, rfl, by decide +kernel, rfl, by decide +kernel, by decide +kernel⟩
theorem sc__law_no_rule : FnScope ["_law_case_here", "_law_rule_here", "_law_odd", "_law_spot", "_law_bads", "_law_wrong", "_law_word", "_law_heads", "_law_bad", "_law_head"] ["_law_case_here", "_law_rule_here"] (defScope s__law_no_rule) := ⟨rfl, rfl, rfl, by decide +kernel, rfl, by decide +kernel, by decide +kernel⟩
theorem sc__law_is_whole : FnScope ["_law_thing", "_law_least"] ["_law_thing", "_law_least"] (defScope s__law_is_whole) := ⟨rfl, rfl, rfl, by decide +kernel, rfl, by decide +kernel, by decide +kernel⟩
theorem sc__law_is_rule : FnScope ["_law_thing", "_law_part"] ["_law_thing"] (defScope s__law_is_rule) := ⟨rfl, rfl, rfl, by decide +kernel, rfl, by decide +kernel, by decide +kernel⟩
theorem sc__law_requests : FnScope ["_law_case_here", "_law_many_here", "_law_gap_here", "_law_cost_here", "_law_found", "_law_moment", "_law_k"] ["_law_case_here", "_law_many_here", "_law_gap_here", "_law_cost_here"] (defScope s__law_requests) := ⟨rfl, rfl, rfl, by decide +kernel, rfl, by decide +kernel, by decide +kernel⟩
theorem sc__law_draws : FnScope ["_law_case_here", "_law_many_here", "_law_great", "_law_gap_here", "_law_cost_here"] ["_law_case_here", "_law_many_here", "_law_great"] (defScope s__law_draws) := ⟨rfl, rfl, rfl, by decide +kernel, rfl, by decide +kernel, by decide +kernel⟩
theorem sc_is_request : FnScope ["value"] ["value"] (defScope s_is_request) := ⟨rfl, rfl, rfl, by decide +kernel, rfl, by decide +kernel, by decide +kernel⟩
theorem sc_is_entry : FnScope ["value"] ["value"] (defScope s_is_entry) := ⟨rfl, rfl, rfl, by decide +kernel, rfl, by decide +kernel, by decide +kernel⟩
theorem sc_is_rising : FnScope ["rows", "row", "after"] ["rows"] (defScope s_is_rising) := ⟨rfl, rfl, rfl, by decide +kernel, rfl, by decide +kernel, by decide +kernel⟩
theorem sc_is_log : FnScope ["value", "entry"] ["value"] (defScope s_is_log) := ⟨rfl, rfl, rfl, by decide +kernel, rfl, by decide +kernel, by decide +kernel⟩
theorem sc_is_row : FnScope ["value", "request"] ["value"] (defScope s_is_row) := ⟨rfl, rfl, rfl, by decide +kernel, rfl, by decide +kernel, by decide +kernel⟩
theorem sc__law_no_log : FnScope ["_law_case_here", "_law_log_here", "_law_odd", "_law_spot", "_law_moment", "_law_bads", "_law_wrong", "_law_steps", "_law_bad", "_law_step"] ["_law_case_here", "_law_log_here"] (defScope s__law_no_log) := ⟨rfl, rfl, rfl, by decide +kernel, rfl, by decide +kernel, by decide +kernel⟩
theorem sc__law_is_log : FnScope ["_law_thing", "_law_size", "_law_part", "_law_k"] ["_law_thing", "_law_size"] (defScope s__law_is_log) := ⟨rfl, rfl, rfl, by decide +kernel, rfl, by decide +kernel, by decide +kernel⟩
theorem sc__law_no_row : FnScope ["_law_case_here", "_law_row_here", "_law_odd", "_law_spot", "_law_moment", "_law_bads", "_law_wrong", "_law_bad"] ["_law_case_here", "_law_row_here"] (defScope s__law_no_row) := ⟨rfl, rfl, rfl, by decide +kernel, rfl, by decide +kernel, by decide +kernel⟩
theorem sc_check_kind : FnScope ["kind", "kinds"] ["kind", "kinds"] (defScope s_check_kind) := ⟨rfl, rfl, rfl, by decide +kernel, rfl, by decide +kernel, by decide +kernel⟩
theorem sc_check_log : FnScope ["log"] ["log"] (defScope s_check_log) := ⟨rfl, rfl, rfl, by decide +kernel, rfl, by decide +kernel, by decide +kernel⟩
theorem sc_Heard___init__ : FnScope ["self", "kind", "logs", "log"] ["self", "kind", "logs"] (defScope s_Heard___init__) := ⟨rfl, rfl, rfl, by decide +kernel, rfl, by decide +kernel, by decide +kernel⟩
theorem sc_check_rule : FnScope ["rule"] ["rule"] (defScope s_check_rule) := ⟨rfl, rfl, rfl, by decide +kernel, rfl, by decide +kernel, by decide +kernel⟩
theorem sc_Door___init__ : FnScope ["self", "rule"] ["self", "rule"] (defScope s_Door___init__) := ⟨rfl, rfl, rfl, by decide +kernel, rfl, by decide +kernel, by decide +kernel⟩
theorem sc_law : FnScope ["_law_script", "_law_words", "_law_at", "_law_case_here", "_law_kind_here", "_law_rule_here", "_law_turn", "_law_thing", "_law_row_here", "_law_log_here", "_law_heard", "_law_empty", "_law_some", "_law_pair"] ["_law_script"] (defScope s_law) := ⟨rfl, rfl, rfl, by decide +kernel, rfl, by decide +kernel, by decide +kernel⟩
section
variable {P : Program} {w : World} {K : PySem.W.Frag} {mg : Str → Option Value} {base : Heap} {cO : Str → Addr}
theorem ok__law_case_N {f : Addr} {fd : FuncData} (F : FnP K "_law_case" s__law_case f fd) (x : Fx K mg cO) : FnOk P w K mg base (L2.CX P w) 1 f fd ["_law_script", "_law_at"] (spF K mg 2 d__law_case_N) :=
  fn_exitN (fn_ok F sc__law_case fun cdv A outer s H E hr hl hp tk => by
      have hu := hr.units
      have hN := sc__law_case.nd
      exact dss_cons (ds_set 2 hN (de_ite (dt_cmp (fun _ => od_lt) (de_v 1) (de_b (fun _ => cd_len) x.n_len bt_len (da_cons (de_v 0) (da_nil))) (nomark _)) (de_ix (de_v 0) (de_v 1)) (de_int))) (dss_one (ds_ret (de_cell (da_cons (de_b (fun _ => (cd_max rfl)) x.n_max bt_max (da_cons (de_int) (da_cons (de_op (fun _ => od_sub) (de_b (fun _ => cd_abs) x.n_abs bt_abs (da_cons (de_v 2) (da_nil))) (de_op (fun _ => od_pow) (de_int) (de_int))) (da_nil)))) (da_cons (de_op (fun _ => od_add) (de_op (fun _ => od_add) (de_op (fun _ => od_mul) (de_op (fun _ => od_mod) (de_ty (fun _ => cd_int) x.n_int bt_int (da_cons (de_v 2) (da_nil))) (de_op (fun _ => od_add) (de_op (fun _ => od_pow) (de_int) (de_int)) (de_int))) (de_int)) (de_op (fun _ => od_mul) (de_int) (de_v 1))) (de_int)) (da_cons (de_int) (da_nil))))))))
theorem ok__law_take_T {f : Addr} {fd : FuncData} (F : FnP K "_law_take" s__law_take f fd) (x : Fx K mg cO) : FnOk P w K mg base (L2.CX P w) 1 f fd ["_law_case_here", "_law_below"] (spF K mg 2 d__law_take_T) :=
  fn_ok F sc__law_take fun cdv A outer s H E hr hl hp tk => by
      have hu := hr.units
      have hN := sc__law_take.nd
      exact dss_cons (ds_if (dt_cmp (fun _ => od_gt) (de_ix (de_v 0) (de_int)) (de_int) (nomark _)) (dss_cons (ds_set 2 hN (de_op (fun _ => od_mod) (de_ty (fun _ => cd_int) x.n_int bt_int (da_cons (de_ix (de_v 0) (de_int)) (da_nil))) (de_v 1))) (dss_cons (ds_sub (de_v 0) (de_int) (de_op (fun _ => od_fdiv) (de_ix (de_v 0) (de_int)) (de_v 1)) (pg_sub (de_v 0) (de_int) set_list)) (dss_one (ds_ret (de_v 2))))) (dss_nil)) (dss_cons (ds_sub (de_v 0) (de_int) (de_op (fun _ => od_add) (de_ix (de_v 0) (de_int)) (de_int)) (pg_sub (de_v 0) (de_int) set_list)) (dss_cons (ds_set 3 hN (de_op (fun _ => od_mod) (de_op (fun _ => od_pow) (de_ty (fun _ => cd_int) x.n_int bt_int (da_cons (de_op (fun _ => od_add) (de_ix (de_v 0) (de_int)) (de_op (fun _ => od_mul) (de_int) (de_ix (de_v 0) (de_int)))) (da_nil))) (de_int)) (de_op (fun _ => od_add) (de_op (fun _ => od_pow) (de_int) (de_int)) (de_int)))) (dss_cons (ds_set 3 hN (de_op (fun _ => od_mod) (de_op (fun _ => od_pow) (de_ty (fun _ => cd_int) x.n_int bt_int (da_cons (de_op (fun _ => od_add) (de_v 3) (de_op (fun _ => od_mul) (de_int) (de_ix (de_v 0) (de_int)))) (da_nil))) (de_int)) (de_op (fun _ => od_add) (de_op (fun _ => od_pow) (de_int) (de_int)) (de_int)))) (dss_one (ds_ret (de_op (fun _ => od_mod) (de_op (fun _ => od_fdiv) (de_v 3) (de_int)) (de_v 1)))))))
theorem ok__law_common_T {f : Addr} {fd : FuncData} (F : FnP K "_law_common" s__law_common f fd) (x : Fx K mg cO) : FnOk P w K mg base (L2.CX P w) 1 f fd ["_law_first", "_law_second"] (spF K mg 2 d__law_common_T) :=
  fn_ok F sc__law_common fun cdv A outer s H E hr hl hp tk => by
      have hu := hr.units
      have hN := sc__law_common.nd
      exact dss_cons (ds_whileS hp (dt_cmp (fun _ => (od_ne hu)) (de_v 1) (de_int) (nomark _)) (dss_one (ds_par2 0 1 hN (da_cons (de_v 1) (da_cons (de_op (fun _ => od_mod) (de_ty (fun _ => cd_int) x.n_int bt_int (da_cons (de_v 0) (da_nil))) (de_v 1)) (da_nil)))))) (dss_one (ds_ret (de_v 0)))
theorem ok__law_lowest_T {f : Addr} {fd : FuncData} (F : FnP K "_law_lowest" s__law_lowest f fd) (x : Fx K mg cO) (c__law_common_T : Callee P w K mg base 1 "_law_common" ["_law_first", "_law_second"] d__law_common_T) : FnOk P w K mg base (L2.CX P w) 2 f fd ["_law_top", "_law_bottom"] (spF K mg 2 d__law_lowest_T) :=
  fn_ok F sc__law_lowest fun cdv A outer s H E hr hl hp tk => by
      have hu := hr.units
      have hN := sc__law_lowest.nd
      exact dss_cons (ds_set 2 hN (de_call c__law_common_T hl hr (da_cons (de_b (fun _ => cd_abs) x.n_abs bt_abs (da_cons (de_v 0) (da_nil))) (da_cons (de_v 1) (da_nil))) (hrl := len_consA (len_consA (len_nilA))))) (dss_one (ds_ret (de_tup (da_cons (de_op (fun _ => od_fdiv) (de_v 0) (de_v 2)) (da_cons (de_op (fun _ => od_fdiv) (de_v 1) (de_v 2)) (da_nil))))))
theorem ok__law_fraction_T {f : Addr} {fd : FuncData} (F : FnP K "_law_fraction" s__law_fraction f fd) (x : Fx K mg cO) (c__law_take_T : Callee P w K mg base 1 "_law_take" ["_law_case_here", "_law_below"] d__law_take_T) (c__law_lowest_T : Callee P w K mg base 2 "_law_lowest" ["_law_top", "_law_bottom"] d__law_lowest_T) : FnOk P w K mg base (L2.CX P w) 3 f fd ["_law_case_here", "_law_great"] (spF K mg 2 d__law_fraction_T) :=
  fn_ok F sc__law_fraction fun cdv A outer s H E hr hl hp tk => by
      have hu := hr.units
      have hN := sc__law_fraction.nd
      exact dss_cons (ds_set 2 hN (de_ix (de_list (da_cons (de_int) (da_cons (de_int) (da_cons (de_int) (da_cons (de_op (fun _ => od_add) (de_int) (de_call c__law_take_T hl hr (da_cons (de_v 0) (da_cons (de_int) (da_nil))) (hrl := len_consA (len_consA (len_nilA))))) (da_cons (de_op (fun _ => od_add) (de_int) (de_call c__law_take_T hl hr (da_cons (de_v 0) (da_cons (de_op (fun _ => od_pow) (de_int) (de_int)) (da_nil))) (hrl := len_consA (len_consA (len_nilA))))) (da_nil))))))) (de_call c__law_take_T hl hr (da_cons (de_v 0) (da_cons (de_int) (da_nil))) (hrl := len_consA (len_consA (len_nilA)))))) (dss_one (ds_ret (de_call c__law_lowest_T hl hr (da_cons (de_call c__law_take_T hl hr (da_cons (de_v 0) (da_cons (de_op (fun _ => od_add) (de_b (fun _ => (cd_min rfl)) x.n_min bt_min (da_cons (de_op (fun _ => od_mul) (de_v 1) (de_v 2)) (da_cons (de_op (fun _ => od_pow) (de_int) (de_int)) (da_nil)))) (de_int)) (da_nil))) (hrl := len_consA (len_consA (len_nilA)))) (da_cons (de_v 2) (da_nil))) (hrl := len_consA (len_consA (len_nilA))))))
theorem ok__law_rule_T {f : Addr} {fd : FuncData} (F : FnP K "_law_rule" s__law_rule f fd) (x : Fx K mg cO) (c__law_take_T : Callee P w K mg base 1 "_law_take" ["_law_case_here", "_law_below"] d__law_take_T) (c__law_fraction_T : Callee P w K mg base 3 "_law_fraction" ["_law_case_here", "_law_great"] d__law_fraction_T) : FnOk P w K mg base (L2.CX P w) 4 f fd ["_law_case_here", "_law_kind_here", "_law_great"] (spF K mg 3 d__law_rule_T) :=
  fn_ok F sc__law_rule fun cdv A outer s H E hr hl hp tk => by
      have hu := hr.units
      have hN := sc__law_rule.nd
      exact dss_cons (ds_if ((dw_or (dt_cmp (fun _ => (od_eq hu)) (de_v 1) (de_str) (nomark _)) (dw_or1 (dt_cmp (fun _ => (od_eq hu)) (de_v 1) (de_str) (nomark _)))).pt) (dss_cons (ds_set 3 hN (de_call c__law_fraction_T hl hr (da_cons (de_v 0) (da_cons (de_ix (de_list (da_cons (de_int) (da_cons (de_int) (da_cons (de_v 2) (da_nil))))) (de_call c__law_take_T hl hr (da_cons (de_v 0) (da_cons (de_int) (da_nil))) (hrl := len_consA (len_consA (len_nilA))))) (da_nil))) (hrl := len_consA (len_consA (len_nilA))))) (dss_one (ds_ret (de_tup (da_cons (de_v 1) (da_cons (de_call c__law_fraction_T hl hr (da_cons (de_v 0) (da_cons (de_v 2) (da_nil))) (hrl := len_consA (len_consA (len_nilA)))) (da_cons (de_v 3) (da_nil)))))))) (dss_nil)) (dss_cons (ds_if (dt_cmp (fun _ => (od_eq hu)) (de_v 1) (de_str) (nomark _)) (dss_one (ds_ret (de_tup (da_cons (de_v 1) (da_cons (de_ix (de_list (da_cons (de_int) (da_cons (de_call c__law_take_T hl hr (da_cons (de_v 0) (da_cons (de_int) (da_nil))) (hrl := len_consA (len_consA (len_nilA)))) (da_cons (de_call c__law_take_T hl hr (da_cons (de_v 0) (da_cons (de_op (fun _ => od_add) (de_v 2) (de_int)) (da_nil))) (hrl := len_consA (len_consA (len_nilA)))) (da_nil))))) (de_call c__law_take_T hl hr (da_cons (de_v 0) (da_cons (de_int) (da_nil))) (hrl := len_consA (len_consA (len_nilA))))) (da_nil)))))) (dss_nil)) (dss_cons (ds_set 4 hN (de_op (fun _ => od_add) (de_int) (de_call c__law_take_T hl hr (da_cons (de_v 0) (da_cons (de_ix (de_list (da_cons (de_int) (da_cons (de_int) (da_cons (de_v 2) (da_nil))))) (de_call c__law_take_T hl hr (da_cons (de_v 0) (da_cons (de_int) (da_nil))) (hrl := len_consA (len_consA (len_nilA))))) (da_nil))) (hrl := len_consA (len_consA (len_nilA)))))) (dss_one (ds_ret (de_tup (da_cons (de_v 1) (da_cons (de_v 4) (da_cons (de_call c__law_take_T hl hr (da_cons (de_v 0) (da_cons (de_op (fun _ => od_add) (de_v 2) (de_int)) (da_nil))) (hrl := len_consA (len_consA (len_nilA)))) (da_nil)))))))))
theorem ok_is_integer_T {f : Addr} {fd : FuncData} (F : FnP K "is_integer" s_is_integer f fd) (x : Fx K mg cO) : FnOk P w K mg base (L2.CX P w) 1 f fd ["value"] (spF K mg 1 d_is_integer_T) :=
  fn_ok F sc_is_integer fun cdv A outer s H E hr hl hp tk => by
      have hu := hr.units
      have hN := sc_is_integer.nd
      exact dss_one (ds_ret (de_and (de_b (fun _ => cd_isin) x.n_isinstance bt_isinstance (da_cons (de_v 0) (da_cons (de_tyv x.n_int bt_int) (da_nil)))) (de_one (de_not (de_b (fun _ => cd_isin) x.n_isinstance bt_isinstance (da_cons (de_v 0) (da_cons (de_tyv x.n_bool bt_bool) (da_nil))))))))
theorem ok_is_at_least_T {f : Addr} {fd : FuncData} (F : FnP K "is_at_least" s_is_at_least f fd) (x : Fx K mg cO) (c_is_integer_T : Callee P w K mg base 1 "is_integer" ["value"] d_is_integer_T) : FnOk P w K mg base (L2.CX P w) 2 f fd ["value", "least"] (spF K mg 2 d_is_at_least_T) :=
  fn_ok F sc_is_at_least fun cdv A outer s H E hr hl hp tk => by
      have hu := hr.units
      have hN := sc_is_at_least.nd
      exact dss_one (ds_ret (de_and (de_call c_is_integer_T hl hr (da_cons (de_v 0) (da_nil)) (hrl := len_consA (len_nilA))) (de_one (de_cmp (fun _ => od_ge) (de_v 0) (de_v 1) (nomark _)))))
theorem ok_greatest_divisor_T {f : Addr} {fd : FuncData} (F : FnP K "greatest_divisor" s_greatest_divisor f fd) (x : Fx K mg cO) : FnOk P w K mg base (L2.CX P w) 1 f fd ["one", "other"] (spF K mg 2 d_greatest_divisor_T) :=
  fn_ok F sc_greatest_divisor fun cdv A outer s H E hr hl hp tk => by
      have hu := hr.units
      have hN := sc_greatest_divisor.nd
      exact dss_cons (ds_whileS hp (dt_cmp (fun _ => (od_ne hu)) (de_v 1) (de_int) (nomark _)) (dss_one (ds_par2 0 1 hN (da_cons (de_v 1) (da_cons (de_op (fun _ => od_mod) (de_ty (fun _ => cd_int) x.n_int bt_int (da_cons (de_v 0) (da_nil))) (de_v 1)) (da_nil)))))) (dss_one (ds_ret (de_v 0)))
theorem ok_is_fraction_T {f : Addr} {fd : FuncData} (F : FnP K "is_fraction" s_is_fraction f fd) (x : Fx K mg cO) (c_is_at_least_T : Callee P w K mg base 2 "is_at_least" ["value", "least"] d_is_at_least_T) (c_greatest_divisor_T : Callee P w K mg base 1 "greatest_divisor" ["one", "other"] d_greatest_divisor_T) : FnOk P w K mg base (L2.CX P w) 3 f fd ["value"] (spF K mg 1 d_is_fraction_T) :=
  fn_ok F sc_is_fraction fun cdv A outer s H E hr hl hp tk => by
      have hu := hr.units
      have hN := sc_is_fraction.nd
      exact dss_cons (ds_if ((dw_or (dt_not (dt_val (de_b (fun _ => cd_isin) x.n_isinstance bt_isinstance (da_cons (de_v 0) (da_cons (de_tyv x.n_tuple bt_tuple) (da_nil)))))) (dw_or1 (dt_cmp (fun _ => (od_ne hu)) (de_b (fun _ => cd_len) x.n_len bt_len (da_cons (de_v 0) (da_nil))) (de_int) (nomark _)))).pt) (dss_one (ds_ret (de_bl))) (dss_nil)) (dss_one (ds_ret (de_and (de_call c_is_at_least_T hl hr (da_cons (de_ix (de_v 0) (de_int)) (da_cons (de_int) (da_nil))) (hrl := len_consA (len_consA (len_nilA)))) (de_and (de_call c_is_at_least_T hl hr (da_cons (de_ix (de_v 0) (de_int)) (da_cons (de_int) (da_nil))) (hrl := len_consA (len_consA (len_nilA)))) (de_one (de_cmp (fun _ => (od_eq hu)) (de_call c_greatest_divisor_T hl hr (da_cons (de_ix (de_v 0) (de_int)) (da_cons (de_ix (de_v 0) (de_int)) (da_nil))) (hrl := len_consA (len_consA (len_nilA)))) (de_int) (nomark _)))))))
theorem ok_is_rule_T {f : Addr} {fd : FuncData} (F : FnP K "is_rule" s_is_rule f fd) (x : Fx K mg cO) (c_is_fraction_T : Callee P w K mg base 3 "is_fraction" ["value"] d_is_fraction_T) (c_is_at_least_T : Callee P w K mg base 2 "is_at_least" ["value", "least"] d_is_at_least_T) : FnOk P w K mg base (L2.CX P w) 4 f fd ["value"] (spF K mg 1 d_is_rule_T) :=
  fn_ok F sc_is_rule fun cdv A outer s H E hr hl hp tk => by
      have hu := hr.units
      have hN := sc_is_rule.nd
      exact dss_cons (ds_if ((dw_or (dt_not (dt_val (de_b (fun _ => cd_isin) x.n_isinstance bt_isinstance (da_cons (de_v 0) (da_cons (de_tyv x.n_tuple bt_tuple) (da_nil)))))) (dw_or (dt_cmp (fun _ => (od_eqZ hu)) (de_v 0) (de_tup (da_nil)) (nomark _)) (dw_or1 (dt_not (dt_val (de_b (fun _ => cd_isin) x.n_isinstance bt_isinstance (da_cons (de_ix (de_v 0) (de_int)) (da_cons (de_tyv x.n_str bt_str) (da_nil))))))))).pt) (dss_one (ds_ret (de_bl))) (dss_nil)) (dss_cons (ds_if (dt_cmp (fun _ => od_in) (de_ix (de_v 0) (de_int)) (de_gtupE x.g_FILLED) (by rfl)) (dss_one (ds_ret (de_and (de_cmp (fun _ => (od_eq hu)) (de_b (fun _ => cd_len) x.n_len bt_len (da_cons (de_v 0) (da_nil))) (de_int) (nomark _)) (de_and (de_call c_is_fraction_T hl hr (da_cons (de_ix (de_v 0) (de_int)) (da_nil)) (hrl := len_consA (len_nilA))) (de_one (de_call c_is_fraction_T hl hr (da_cons (de_ix (de_v 0) (de_int)) (da_nil)) (hrl := len_consA (len_nilA)))))))) (dss_nil)) (dss_cons (ds_if (dt_cmp (fun _ => od_in) (de_ix (de_v 0) (de_int)) (de_gtupE x.g_SPANNED) (by rfl)) (dss_one (ds_ret (de_and (de_cmp (fun _ => (od_eq hu)) (de_b (fun _ => cd_len) x.n_len bt_len (da_cons (de_v 0) (da_nil))) (de_int) (nomark _)) (de_and (de_call c_is_at_least_T hl hr (da_cons (de_ix (de_v 0) (de_int)) (da_cons (de_int) (da_nil))) (hrl := len_consA (len_consA (len_nilA)))) (de_one (de_call c_is_at_least_T hl hr (da_cons (de_ix (de_v 0) (de_int)) (da_cons (de_int) (da_nil))) (hrl := len_consA (len_consA (len_nilA))))))))) (dss_nil)) (dss_one (ds_ret (de_and (de_cmp (fun _ => (od_eq hu)) (de_ix (de_v 0) (de_int)) (de_gstrE x.g_GAP) (nomark _)) (de_and (de_cmp (fun _ => (od_eq hu)) (de_b (fun _ => cd_len) x.n_len bt_len (da_cons (de_v 0) (da_nil))) (de_int) (nomark _)) (de_one (de_call c_is_at_least_T hl hr (da_cons (de_ix (de_v 0) (de_int)) (da_cons (de_int) (da_nil))) (hrl := len_consA (len_consA (len_nilA)))))))))))
theorem okr__law_same_T {f : Addr} {fd : FuncData} (F : FnP K "_law_same" s__law_same f fd) (x : Fx K mg cO) (hm : mg "_law_same" = some (.ref f)) : ∀ n : Nat, FnOk P w K mg base (L2.CX P w) (n + 0) f fd ["_law_found", "_law_due"] (spF K mg 2 (r__law_same_T n))
  | 0 => fnok_stuck
  | n + 1 => by
    have c_rec : Callee P w K mg base (n + 0) "_law_same" ["_law_found", "_law_due"] (r__law_same_T n) := callee_of F (okr__law_same_T F x hm n) hm (fun _ _ _ _ _ _ us hl => match us, hl with | [_, _], _ => rfl)
    have e : n + 1 + 0 = n + 0 + 1 := by omega
    rw [e]
    exact fn_ok F sc__law_same fun cdv A outer s H E hr hl hp tk => by
      have hu := hr.units
      have hN := sc__law_same.nd
      exact dss_cons (ds_if ((dw_or (dt_val (de_b (fun _ => cd_isin) x.n_isinstance bt_isinstance (da_cons (de_v 0) (da_cons (de_tyv x.n_bool bt_bool) (da_nil))))) (dw_or1 (dt_val (de_b (fun _ => cd_isin) x.n_isinstance bt_isinstance (da_cons (de_v 1) (da_cons (de_tyv x.n_bool bt_bool) (da_nil))))))).pt) (dss_one (ds_ret (de_and (de_b (fun _ => cd_isin) x.n_isinstance bt_isinstance (da_cons (de_v 0) (da_cons (de_tyv x.n_bool bt_bool) (da_nil)))) (de_and (de_b (fun _ => cd_isin) x.n_isinstance bt_isinstance (da_cons (de_v 1) (da_cons (de_tyv x.n_bool bt_bool) (da_nil)))) (de_one (de_cmp (fun _ => (od_eq hu)) (de_v 0) (de_v 1) (nomark _))))))) (dss_nil)) (dss_cons (ds_if (dt_cmp (fun _ => (od_ne hu)) (de_b (fun _ => cd_isin) x.n_isinstance bt_isinstance (da_cons (de_v 0) (da_cons (de_tyv x.n_list bt_list) (da_nil)))) (de_b (fun _ => cd_isin) x.n_isinstance bt_isinstance (da_cons (de_v 1) (da_cons (de_tyv x.n_list bt_list) (da_nil)))) (nomark _)) (dss_one (ds_ret (de_bl))) (dss_nil)) (dss_cons (ds_if ((dw_and (dt_val (de_isins (de_v 0) (dty_cons x.n_list bt_list (dty_cons x.n_tuple bt_tuple (dty_nil))) x.n_isinstance)) (dw_and1 (dt_val (de_isins (de_v 1) (dty_cons x.n_list bt_list (dty_cons x.n_tuple bt_tuple (dty_nil))) x.n_isinstance)))).pt) (dss_cons (ds_if (dt_cmp (fun _ => (od_ne hu)) (de_b (fun _ => cd_len) x.n_len bt_len (da_cons (de_v 0) (da_nil))) (de_b (fun _ => cd_len) x.n_len bt_len (da_cons (de_v 1) (da_nil))) (nomark _)) (dss_one (ds_ret (de_bl))) (dss_nil)) (dss_one (ds_ret (de_cmp (fun _ => (od_eq hu)) (de_lc (own := [("_law_k", 2)]) hN (di_range1 (de_b (fun _ => cd_len) x.n_len bt_len (da_cons (de_v 1) (da_nil))) x.n_range) (by show blkC ["_law_found", "_law_due", "_law_k"] (defScope s__law_same) _ _ = true; decide +kernel) (by decide +kernel) (fun _ _ _ _ _ => dg_name 2 hN) (fun _ _ _ _ _ => dts_one (dt_not (dt_val (de_call c_rec lets0 hr (da_cons (de_ix (de_v 0) (de_v 2)) (da_cons (de_ix (de_v 1) (de_v 2)) (da_nil))) (hrl := len_consA (len_consA (len_nilA))) (hk := by first | decide | omega))))) (fun _ _ _ _ _ => de_v 2)) (de_list (da_nil)) (nomark _))))) (dss_nil)) (dss_one (ds_ret (de_and (de_cmp (fun _ => (od_eq hu)) (de_v 0) (de_v 1) (nomark _)) (de_one (de_cmp (fun _ => (od_eq hu)) (de_b (fun _ => cd_isin) x.n_isinstance bt_isinstance (da_cons (de_v 0) (da_cons (de_tyv x.n_int bt_int) (da_nil)))) (de_b (fun _ => cd_isin) x.n_isinstance bt_isinstance (da_cons (de_v 1) (da_cons (de_tyv x.n_int bt_int) (da_nil)))) (nomark _))))))))
theorem ok__law_same_T {f : Addr} {fd : FuncData} (F : FnP K "_law_same" s__law_same f fd) (x : Fx K mg cO) (hm : mg "_law_same" = some (.ref f)) : FnOk P w K mg base (L2.CX P w) 6 f fd ["_law_found", "_law_due"] (spF K mg 2 d__law_same_T) := okr__law_same_T F x hm 6
theorem ok__law_no_rule_T {f : Addr} {fd : FuncData} (F : FnP K "_law_no_rule" s__law_no_rule f fd) (x : Fx K mg cO) (c__law_take_T : Callee P w K mg base 1 "_law_take" ["_law_case_here", "_law_below"] d__law_take_T) : FnOk P w K mg base (L2.CX P w) 2 f fd ["_law_case_here", "_law_rule_here"] (spF K mg 2 d__law_no_rule_T) :=
  fn_ok F sc__law_no_rule fun cdv A outer s H E hr hl hp tk => by
      have hu := hr.units
      have hN := sc__law_no_rule.nd
      exact dss_cons (ds_set 2 hN (de_ix (de_list (da_cons (de_non) (da_cons (de_bl) (da_cons (de_bl) (da_cons (de_str) (da_cons (de_tup (da_cons (de_int) (da_cons (de_int) (da_cons (de_int) (da_cons (de_int) (da_nil)))))) (da_cons (de_list (da_cons (de_int) (da_nil))) (da_cons (de_dct0) (da_cons (de_tup (da_cons (de_int) (da_nil))) (da_cons (de_un (fun _ => ud_neg) (de_int)) (da_nil))))))))))) (de_call c__law_take_T hl hr (da_cons (de_v 0) (da_cons (de_int) (da_nil))) (hrl := len_consA (len_consA (len_nilA)))))) (dss_cons (ds_set 3 hN (de_op (fun _ => od_add) (de_int) (de_call c__law_take_T hl hr (da_cons (de_v 0) (da_cons (de_op (fun _ => od_sub) (de_b (fun _ => cd_len) x.n_len bt_len (da_cons (de_v 1) (da_nil))) (de_int)) (da_nil))) (hrl := len_consA (len_consA (len_nilA)))))) (dss_cons (ds_set 4 hN (de_list (da_cons (de_v 2) (da_cons (de_tup (da_cons (de_int) (da_cons (de_v 2) (da_nil)))) (da_cons (de_tup (da_cons (de_v 2) (da_cons (de_int) (da_nil)))) (da_cons (de_tup (da_cons (de_int) (da_cons (de_int) (da_nil)))) (da_cons (de_tup (da_cons (de_int) (da_cons (de_int) (da_nil)))) (da_cons (de_tup (da_cons (de_int) (da_cons (de_int) (da_nil)))) (da_cons (de_tup (da_cons (de_int) (da_cons (de_int) (da_nil)))) (da_cons (de_tup (da_cons (de_int) (da_cons (de_int) (da_nil)))) (da_cons (de_tup (da_cons (de_int) (da_cons (de_int) (da_nil)))) (da_cons (de_tup (da_cons (de_un (fun _ => ud_neg) (de_int)) (da_cons (de_int) (da_nil)))) (da_nil))))))))))))) (dss_cons (ds_set 4 hN (de_op (fun _ => od_add) (de_v 4) (de_list (da_cons (de_list (da_cons (de_int) (da_cons (de_int) (da_nil)))) (da_cons (de_tup (da_cons (de_int) (da_cons (de_int) (da_cons (de_int) (da_nil))))) (da_cons (de_tup (da_cons (de_int) (da_cons (de_int) (da_nil)))) (da_nil))))))) (dss_cons (ds_if ((dw_or (dt_cmp (fun _ => (od_eq hu)) (de_ix (de_v 1) (de_int)) (de_str) (nomark _)) (dw_or1 (dt_cmp (fun _ => (od_eq hu)) (de_ix (de_v 1) (de_int)) (de_str) (nomark _)))).pt) (dss_one (ds_set 4 hN (de_op (fun _ => od_add) (de_slice (de_v 4) dp_none (dp_some (de_un (fun _ => ud_neg) (de_int)))) (de_list (da_cons (de_int) (da_nil)))))) (dss_nil)) (dss_cons (ds_setLc (own := [("_law_bad", 8)]) 5 hN (di_seq (de_v 4)) (by show blkC ["_law_case_here", "_law_rule_here", "_law_odd", "_law_spot", "_law_bads", "_law_wrong", "_law_word", "_law_heads", "_law_bad", "_law_head"] (defScope s__law_no_rule) _ _ = true; decide +kernel) (by decide +kernel) (fun _ _ _ _ _ => dg_name 8 hN) (fun _ _ _ _ _ => dts_nil) (fun _ _ _ _ _ => de_op (fun _ => od_add) (de_op (fun _ => od_add) (de_slice (de_v 1) dp_none (dp_some (de_v 3))) (de_tup (da_cons (de_v 8) (da_nil)))) (de_slice (de_v 1) (dp_some (de_op (fun _ => od_add) (de_v 3) (de_int))) dp_none)) (sw_true rfl rfl rfl (by decide +kernel))) (dss_cons (ds_if ((dw_or (dt_cmp (fun _ => (od_eq hu)) (de_ix (de_v 1) (de_int)) (de_str) (nomark _)) (dw_or1 (dt_cmp (fun _ => (od_eq hu)) (de_ix (de_v 1) (de_int)) (de_str) (nomark _)))).pt) (dss_one (ds_set 5 hN (de_op (fun _ => od_add) (de_v 5) (de_list (da_cons (de_tup (da_cons (de_ix (de_v 1) (de_int)) (da_cons (de_int) (da_cons (de_int) (da_nil))))) (da_cons (de_tup (da_cons (de_ix (de_v 1) (de_int)) (da_cons (de_int) (da_cons (de_un (fun _ => ud_neg) (de_int)) (da_nil))))) (da_nil))))))) (dss_nil)) (dss_cons (ds_set 6 hN (de_ix (de_v 1) (de_int))) (dss_cons (ds_set 7 hN (de_list (da_cons (de_non) (da_cons (de_int) (da_cons (de_list (da_cons (de_v 6) (da_nil))) (da_cons (de_dct0) (da_cons (de_op (fun _ => od_add) (de_v 6) (de_str)) (da_cons (de_slice (de_v 6) dp_none (dp_some (de_un (fun _ => ud_neg) (de_int)))) (da_cons (de_slice (de_v 6) (dp_some (de_int)) dp_none) (da_cons (de_str) (da_cons (de_op (fun _ => od_add) (de_str) (de_v 6)) (da_cons (de_tup (da_cons (de_v 6) (da_nil))) (da_cons (de_str) (da_cons (de_str) (da_nil))))))))))))))) (dss_cons (ds_set 5 hN (de_op (fun _ => od_add) (de_v 5) (de_lc (own := [("_law_head", 9)]) hN (di_seq (de_v 7)) (by show blkC ["_law_case_here", "_law_rule_here", "_law_odd", "_law_spot", "_law_bads", "_law_wrong", "_law_word", "_law_heads", "_law_bad", "_law_head"] (defScope s__law_no_rule) _ _ = true; decide +kernel) (by decide +kernel) (fun _ _ _ _ _ => dg_name 9 hN) (fun _ _ _ _ _ => dts_nil) (fun _ _ _ _ _ => de_op (fun _ => od_add) (de_tup (da_cons (de_v 9) (da_nil))) (de_slice (de_v 1) (dp_some (de_int)) dp_none))))) (dss_cons (ds_set 5 hN (de_op (fun _ => od_add) (de_v 5) (de_list (da_cons (de_tup (da_nil)) (da_cons (de_non) (da_cons (de_v 6) (da_cons (de_ty (fun _ => cd_list) x.n_list bt_list (da_cons (de_v 1) (da_nil))) (da_cons (de_op (fun _ => od_add) (de_v 1) (de_tup (da_cons (de_int) (da_nil)))) (da_cons (de_slice (de_v 1) dp_none (dp_some (de_un (fun _ => ud_neg) (de_int)))) (da_cons (de_slice (de_v 1) (dp_some (de_int)) dp_none) (da_nil))))))))))) (dss_cons (ds_set 5 hN (de_op (fun _ => od_add) (de_v 5) (de_list (da_cons (de_dct0) (da_cons (de_int) (da_cons (de_tup (da_cons (de_v 1) (da_nil))) (da_nil))))))) (dss_one (ds_ret (de_ix (de_v 5) (de_call c__law_take_T hl hr (da_cons (de_v 0) (da_cons (de_b (fun _ => cd_len) x.n_len bt_len (da_cons (de_v 5) (da_nil))) (da_nil))) (hrl := len_consA (len_consA (len_nilA))))))))))))))))))
theorem ok__law_is_whole_T {f : Addr} {fd : FuncData} (F : FnP K "_law_is_whole" s__law_is_whole f fd) (x : Fx K mg cO) : FnOk P w K mg base (L2.CX P w) 1 f fd ["_law_thing", "_law_least"] (spF K mg 2 d__law_is_whole_T) :=
  fn_ok F sc__law_is_whole fun cdv A outer s H E hr hl hp tk => by
      have hu := hr.units
      have hN := sc__law_is_whole.nd
      exact dss_one (ds_ret (de_and (de_b (fun _ => cd_isin) x.n_isinstance bt_isinstance (da_cons (de_v 0) (da_cons (de_tyv x.n_int bt_int) (da_nil)))) (de_and (de_not (de_b (fun _ => cd_isin) x.n_isinstance bt_isinstance (da_cons (de_v 0) (da_cons (de_tyv x.n_bool bt_bool) (da_nil))))) (de_one (de_cmp (fun _ => od_ge) (de_v 0) (de_v 1) (nomark _))))))
theorem ok__law_is_rule_T {f : Addr} {fd : FuncData} (F : FnP K "_law_is_rule" s__law_is_rule f fd) (x : Fx K mg cO) (c__law_is_whole_T : Callee P w K mg base 1 "_law_is_whole" ["_law_thing", "_law_least"] d__law_is_whole_T) (c__law_common_T : Callee P w K mg base 1 "_law_common" ["_law_first", "_law_second"] d__law_common_T) : FnOk P w K mg base (L2.CX P w) 2 f fd ["_law_thing"] (spF K mg 1 d__law_is_rule_T) :=
  fn_ok F sc__law_is_rule fun cdv A outer s H E hr hl hp tk => by
      have hu := hr.units
      have hN := sc__law_is_rule.nd
      exact dss_cons (ds_if ((dw_or (dt_not (dt_val (de_b (fun _ => cd_isin) x.n_isinstance bt_isinstance (da_cons (de_v 0) (da_cons (de_tyv x.n_tuple bt_tuple) (da_nil)))))) (dw_or (dt_cmp (fun _ => od_lt) (de_b (fun _ => cd_len) x.n_len bt_len (da_cons (de_v 0) (da_nil))) (de_int) (nomark _)) (dw_or1 (dt_not (dt_val (de_b (fun _ => cd_isin) x.n_isinstance bt_isinstance (da_cons (de_ix (de_v 0) (de_int)) (da_cons (de_tyv x.n_str bt_str) (da_nil))))))))).pt) (dss_one (ds_ret (de_bl))) (dss_nil)) (dss_cons (ds_if (dt_cmp (fun _ => (od_eq hu)) (de_ix (de_v 0) (de_int)) (de_str) (nomark _)) (dss_one (ds_ret (de_and (de_cmp (fun _ => (od_eq hu)) (de_b (fun _ => cd_len) x.n_len bt_len (da_cons (de_v 0) (da_nil))) (de_int) (nomark _)) (de_one (de_call c__law_is_whole_T hl hr (da_cons (de_ix (de_v 0) (de_int)) (da_cons (de_int) (da_nil))) (hrl := len_consA (len_consA (len_nilA)))))))) (dss_nil)) (dss_cons (ds_if (dt_cmp (fun _ => (od_ne hu)) (de_b (fun _ => cd_len) x.n_len bt_len (da_cons (de_v 0) (da_nil))) (de_int) (nomark _)) (dss_one (ds_ret (de_bl))) (dss_nil)) (dss_cons (ds_if ((dw_or (dt_cmp (fun _ => (od_eq hu)) (de_ix (de_v 0) (de_int)) (de_str) (nomark _)) (dw_or1 (dt_cmp (fun _ => (od_eq hu)) (de_ix (de_v 0) (de_int)) (de_str) (nomark _)))).pt) (dss_one (ds_ret (de_and (de_call c__law_is_whole_T hl hr (da_cons (de_ix (de_v 0) (de_int)) (da_cons (de_int) (da_nil))) (hrl := len_consA (len_consA (len_nilA)))) (de_one (de_call c__law_is_whole_T hl hr (da_cons (de_ix (de_v 0) (de_int)) (da_cons (de_int) (da_nil))) (hrl := len_consA (len_consA (len_nilA)))))))) (dss_nil)) (dss_cons (ds_if ((dw_and (dt_cmp (fun _ => (od_ne hu)) (de_ix (de_v 0) (de_int)) (de_str) (nomark _)) (dw_and1 (dt_cmp (fun _ => (od_ne hu)) (de_ix (de_v 0) (de_int)) (de_str) (nomark _)))).pt) (dss_one (ds_ret (de_bl))) (dss_nil)) (dss_cons (ds_for hp (di_seq (de_slice (de_v 0) (dp_some (de_int)) dp_none)) (dg_name 1 hN) (dss_cons (ds_if ((dw_or (dt_not (dt_val (de_b (fun _ => cd_isin) x.n_isinstance bt_isinstance (da_cons (de_v 1) (da_cons (de_tyv x.n_tuple bt_tuple) (da_nil)))))) (dw_or (dt_cmp (fun _ => (od_ne hu)) (de_b (fun _ => cd_len) x.n_len bt_len (da_cons (de_v 1) (da_nil))) (de_int) (nomark _)) (dw_or1 (dt_not (dt_val (de_call c__law_is_whole_T hl hr (da_cons (de_ix (de_v 1) (de_int)) (da_cons (de_int) (da_nil))) (hrl := len_consA (len_consA (len_nilA))))))))).pt) (dss_one (ds_ret (de_bl))) (dss_nil)) (dss_one (ds_if ((dw_or (dt_not (dt_val (de_call c__law_is_whole_T hl hr (da_cons (de_ix (de_v 1) (de_int)) (da_cons (de_int) (da_nil))) (hrl := len_consA (len_consA (len_nilA)))))) (dw_or1 (dt_cmp (fun _ => (od_ne hu)) (de_call c__law_common_T hl hr (da_cons (de_ix (de_v 1) (de_int)) (da_cons (de_ix (de_v 1) (de_int)) (da_nil))) (hrl := len_consA (len_consA (len_nilA)))) (de_int) (nomark _)))).pt) (dss_one (ds_ret (de_bl))) (dss_nil))))) (dss_one (ds_ret (de_bl))))))))
theorem ok__law_requests_T {f : Addr} {fd : FuncData} (F : FnP K "_law_requests" s__law_requests f fd) (x : Fx K mg cO) (c__law_take_T : Callee P w K mg base 1 "_law_take" ["_law_case_here", "_law_below"] d__law_take_T) : FnOk P w K mg base (L2.CX P w) 2 f fd ["_law_case_here", "_law_many_here", "_law_gap_here", "_law_cost_here"] (spF K mg 4 d__law_requests_T) :=
  fn_exitT (fn_ok F sc__law_requests fun cdv A outer s H E hr hl hp tk => by
      have hu := hr.units
      have hN := sc__law_requests.nd
      exact dss_cons (ds_par2 4 5 hN (da_cons (de_cell (da_nil)) (da_cons (de_call c__law_take_T hl hr (da_cons (de_v 0) (da_cons (de_op (fun _ => od_add) (de_v 2) (de_int)) (da_nil))) (hrl := len_consA (len_consA (len_nilA)))) (da_nil)))) (dss_cons (ds_for hp (di_range1 (de_call c__law_take_T hl hr (da_cons (de_v 0) (da_cons (de_op (fun _ => od_add) (de_v 1) (de_int)) (da_nil))) (hrl := len_consA (len_consA (len_nilA)))) x.n_range) (dg_name 6 hN) (dss_cons (ds_set 5 hN (de_op (fun _ => od_add) (de_v 5) (de_ix (de_list (da_cons (de_int) (da_cons (de_int) (da_cons (de_call c__law_take_T hl hr (da_cons (de_v 0) (da_cons (de_int) (da_nil))) (hrl := len_consA (len_consA (len_nilA)))) (da_cons (de_call c__law_take_T hl hr (da_cons (de_v 0) (da_cons (de_op (fun _ => od_add) (de_v 2) (de_int)) (da_nil))) (hrl := len_consA (len_consA (len_nilA)))) (da_nil)))))) (de_call c__law_take_T hl hr (da_cons (de_v 0) (da_cons (de_int) (da_nil))) (hrl := len_consA (len_consA (len_nilA))))))) (dss_one (ds_expr (de_app (de_v 4) (de_tup (da_cons (de_v 5) (da_cons (de_op (fun _ => od_add) (de_int) (de_call c__law_take_T hl hr (da_cons (de_v 0) (da_cons (de_ix (de_list (da_cons (de_int) (da_cons (de_v 3) (da_nil)))) (de_call c__law_take_T hl hr (da_cons (de_v 0) (da_cons (de_int) (da_nil))) (hrl := len_consA (len_consA (len_nilA))))) (da_nil))) (hrl := len_consA (len_consA (len_nilA))))) (da_nil))))))))) (dss_one (ds_ret (de_ty (fun _ => cd_tuple) x.n_tuple bt_tuple (da_cons (de_v 4) (da_nil)))))))
theorem ok__law_draws_T {f : Addr} {fd : FuncData} (F : FnP K "_law_draws" s__law_draws f fd) (x : Fx K mg cO) (c__law_take_T : Callee P w K mg base 1 "_law_take" ["_law_case_here", "_law_below"] d__law_take_T) (c__law_requests_T : Callee P w K mg base 2 "_law_requests" ["_law_case_here", "_law_many_here", "_law_gap_here", "_law_cost_here"] d__law_requests_T) : FnOk P w K mg base (L2.CX P w) 3 f fd ["_law_case_here", "_law_many_here", "_law_great"] (spF K mg 3 d__law_draws_T) :=
  fn_ok F sc__law_draws fun cdv A outer s H E hr hl hp tk => by
      have hu := hr.units
      have hN := sc__law_draws.nd
      exact dss_cons (ds_par2 3 4 hN (da_cons (de_ix (de_list (da_cons (de_int) (da_cons (de_v 2) (da_nil)))) (de_call c__law_take_T hl hr (da_cons (de_v 0) (da_cons (de_int) (da_nil))) (hrl := len_consA (len_consA (len_nilA))))) (da_cons (de_ix (de_list (da_cons (de_int) (da_cons (de_v 2) (da_nil)))) (de_call c__law_take_T hl hr (da_cons (de_v 0) (da_cons (de_int) (da_nil))) (hrl := len_consA (len_consA (len_nilA))))) (da_nil)))) (dss_one (ds_ret (de_call c__law_requests_T hl hr (da_cons (de_v 0) (da_cons (de_ix (de_list (da_cons (de_int) (da_cons (de_v 1) (da_nil)))) (de_call c__law_take_T hl hr (da_cons (de_v 0) (da_cons (de_int) (da_nil))) (hrl := len_consA (len_consA (len_nilA))))) (da_cons (de_v 3) (da_cons (de_v 4) (da_nil))))) (hrl := len_consA (len_consA (len_consA (len_consA (len_nilA))))))))
theorem ok_is_request_T {f : Addr} {fd : FuncData} (F : FnP K "is_request" s_is_request f fd) (x : Fx K mg cO) (c_is_at_least_T : Callee P w K mg base 2 "is_at_least" ["value", "least"] d_is_at_least_T) : FnOk P w K mg base (L2.CX P w) 3 f fd ["value"] (spF K mg 1 d_is_request_T) :=
  fn_ok F sc_is_request fun cdv A outer s H E hr hl hp tk => by
      have hu := hr.units
      have hN := sc_is_request.nd
      exact dss_one (ds_ret (de_and (de_b (fun _ => cd_isin) x.n_isinstance bt_isinstance (da_cons (de_v 0) (da_cons (de_tyv x.n_tuple bt_tuple) (da_nil)))) (de_and (de_cmp (fun _ => (od_eq hu)) (de_b (fun _ => cd_len) x.n_len bt_len (da_cons (de_v 0) (da_nil))) (de_int) (nomark _)) (de_and (de_call c_is_at_least_T hl hr (da_cons (de_ix (de_v 0) (de_int)) (da_cons (de_int) (da_nil))) (hrl := len_consA (len_consA (len_nilA)))) (de_one (de_call c_is_at_least_T hl hr (da_cons (de_ix (de_v 0) (de_int)) (da_cons (de_int) (da_nil))) (hrl := len_consA (len_consA (len_nilA)))))))))
theorem ok_is_entry_T {f : Addr} {fd : FuncData} (F : FnP K "is_entry" s_is_entry f fd) (x : Fx K mg cO) (c_is_request_T : Callee P w K mg base 3 "is_request" ["value"] d_is_request_T) : FnOk P w K mg base (L2.CX P w) 4 f fd ["value"] (spF K mg 1 d_is_entry_T) :=
  fn_ok F sc_is_entry fun cdv A outer s H E hr hl hp tk => by
      have hu := hr.units
      have hN := sc_is_entry.nd
      exact dss_one (ds_ret (de_and (de_b (fun _ => cd_isin) x.n_isinstance bt_isinstance (da_cons (de_v 0) (da_cons (de_tyv x.n_tuple bt_tuple) (da_nil)))) (de_and (de_cmp (fun _ => (od_eq hu)) (de_b (fun _ => cd_len) x.n_len bt_len (da_cons (de_v 0) (da_nil))) (de_int) (nomark _)) (de_and (de_call c_is_request_T hl hr (da_cons (de_slice (de_v 0) dp_none (dp_some (de_int))) (da_nil)) (hrl := len_consA (len_nilA))) (de_one (de_b (fun _ => cd_isin) x.n_isinstance bt_isinstance (da_cons (de_ix (de_v 0) (de_int)) (da_cons (de_tyv x.n_bool bt_bool) (da_nil)))))))))
theorem ok_is_rising_T {f : Addr} {fd : FuncData} (F : FnP K "is_rising" s_is_rising f fd) (x : Fx K mg cO) : FnOk P w K mg base (L2.CX P w) 1 f fd ["rows"] (spF K mg 1 d_is_rising_T) :=
  fn_ok F sc_is_rising fun cdv A outer s H E hr hl hp tk => by
      have hu := hr.units
      have hN := sc_is_rising.nd
      exact dss_one (ds_ret (de_b (fun _ => (cd_all rfl)) x.n_all bt_all (da_cons (de_lc (own := [("row", 1), ("after", 2)]) hN (di_zipM (de_v 0) (de_slice (de_v 0) (dp_some (de_int)) dp_none) x.n_zip) (by show blkC ["rows", "row", "after"] (defScope s_is_rising) _ _ = true; decide +kernel) (by decide +kernel) (fun _ _ _ _ _ => dg_tup rfl (dgs_cons (dg_name 1 hN) (dgs_cons (dg_name 2 hN) (dgs_nil)))) (fun _ _ _ _ _ => dts_nil) (fun _ _ _ _ _ => de_cmp (fun _ => od_le) (de_ix (de_v 1) (de_int)) (de_ix (de_v 2) (de_int)) (nomark _))) (da_nil))))
theorem ok_is_log_T {f : Addr} {fd : FuncData} (F : FnP K "is_log" s_is_log f fd) (x : Fx K mg cO) (c_is_entry_T : Callee P w K mg base 4 "is_entry" ["value"] d_is_entry_T) (c_is_rising_T : Callee P w K mg base 1 "is_rising" ["rows"] d_is_rising_T) : FnOk P w K mg base (L2.CX P w) 5 f fd ["value"] (spF K mg 1 d_is_log_T) :=
  fn_ok F sc_is_log fun cdv A outer s H E hr hl hp tk => by
      have hu := hr.units
      have hN := sc_is_log.nd
      exact dss_one (ds_ret (de_and (de_b (fun _ => cd_isin) x.n_isinstance bt_isinstance (da_cons (de_v 0) (da_cons (de_tyv x.n_tuple bt_tuple) (da_nil)))) (de_and (de_b (fun _ => (cd_all rfl)) x.n_all bt_all (da_cons (de_lc (own := [("entry", 1)]) hN (di_seq (de_v 0)) (by show blkC ["value", "entry"] (defScope s_is_log) _ _ = true; decide +kernel) (by decide +kernel) (fun _ _ _ _ _ => dg_name 1 hN) (fun _ _ _ _ _ => dts_nil) (fun _ _ _ _ _ => de_call c_is_entry_T lets0 hr (da_cons (de_v 1) (da_nil)) (hrl := len_consA (len_nilA)))) (da_nil))) (de_one (de_call c_is_rising_T hl hr (da_cons (de_v 0) (da_nil)) (hrl := len_consA (len_nilA)))))))
theorem ok_is_row_T {f : Addr} {fd : FuncData} (F : FnP K "is_row" s_is_row f fd) (x : Fx K mg cO) (c_is_request_T : Callee P w K mg base 3 "is_request" ["value"] d_is_request_T) (c_is_rising_T : Callee P w K mg base 1 "is_rising" ["rows"] d_is_rising_T) : FnOk P w K mg base (L2.CX P w) 4 f fd ["value"] (spF K mg 1 d_is_row_T) :=
  fn_ok F sc_is_row fun cdv A outer s H E hr hl hp tk => by
      have hu := hr.units
      have hN := sc_is_row.nd
      exact dss_one (ds_ret (de_and (de_b (fun _ => cd_isin) x.n_isinstance bt_isinstance (da_cons (de_v 0) (da_cons (de_tyv x.n_tuple bt_tuple) (da_nil)))) (de_and (de_b (fun _ => (cd_all rfl)) x.n_all bt_all (da_cons (de_lc (own := [("request", 1)]) hN (di_seq (de_v 0)) (by show blkC ["value", "request"] (defScope s_is_row) _ _ = true; decide +kernel) (by decide +kernel) (fun _ _ _ _ _ => dg_name 1 hN) (fun _ _ _ _ _ => dts_nil) (fun _ _ _ _ _ => de_call c_is_request_T lets0 hr (da_cons (de_v 1) (da_nil)) (hrl := len_consA (len_nilA)))) (da_nil))) (de_one (de_call c_is_rising_T hl hr (da_cons (de_v 0) (da_nil)) (hrl := len_consA (len_nilA)))))))
theorem ok__law_no_log_T {f : Addr} {fd : FuncData} (F : FnP K "_law_no_log" s__law_no_log f fd) (x : Fx K mg cO) (c__law_take_T : Callee P w K mg base 1 "_law_take" ["_law_case_here", "_law_below"] d__law_take_T) : FnOk P w K mg base (L2.CX P w) 2 f fd ["_law_case_here", "_law_log_here"] (spF K mg 2 d__law_no_log_T) :=
  fn_exitT (fn_ok F sc__law_no_log fun cdv A outer s H E hr hl hp tk => by
      have hu := hr.units
      have hN := sc__law_no_log.nd
      exact dss_cons (ds_set 2 hN (de_ix (de_list (da_cons (de_non) (da_cons (de_bl) (da_cons (de_str) (da_cons (de_tup (da_cons (de_int) (da_cons (de_int) (da_cons (de_int) (da_cons (de_int) (da_nil)))))) (da_cons (de_list (da_cons (de_int) (da_nil))) (da_cons (de_dct0) (da_cons (de_tup (da_cons (de_int) (da_nil))) (da_cons (de_un (fun _ => ud_neg) (de_int)) (da_nil)))))))))) (de_call c__law_take_T hl hr (da_cons (de_v 0) (da_cons (de_int) (da_nil))) (hrl := len_consA (len_consA (len_nilA)))))) (dss_cons (ds_set 3 hN (de_call c__law_take_T hl hr (da_cons (de_v 0) (da_cons (de_op (fun _ => od_add) (de_b (fun _ => cd_len) x.n_len bt_len (da_cons (de_v 1) (da_nil))) (de_int)) (da_nil))) (hrl := len_consA (len_consA (len_nilA))))) (dss_cons (ds_set 4 hN (de_ite (dt_cmp (fun _ => od_gt) (de_v 3) (de_int) (nomark _)) (de_ix (de_ix (de_v 1) (de_op (fun _ => od_sub) (de_v 3) (de_int))) (de_int)) (de_int))) (dss_cons (ds_set 5 hN (de_list (da_cons (de_v 2) (da_cons (de_tup (da_cons (de_v 4) (da_cons (de_int) (da_nil)))) (da_cons (de_tup (da_cons (de_v 4) (da_cons (de_int) (da_cons (de_int) (da_nil))))) (da_cons (de_tup (da_cons (de_v 4) (da_cons (de_int) (da_cons (de_int) (da_nil))))) (da_cons (de_tup (da_cons (de_v 4) (da_cons (de_int) (da_cons (de_bl) (da_nil))))) (da_cons (de_tup (da_cons (de_v 4) (da_cons (de_un (fun _ => ud_neg) (de_int)) (da_cons (de_bl) (da_nil))))) (da_cons (de_tup (da_cons (de_v 2) (da_cons (de_int) (da_cons (de_bl) (da_nil))))) (da_nil)))))))))) (dss_cons (ds_set 5 hN (de_op (fun _ => od_add) (de_v 5) (de_list (da_cons (de_tup (da_cons (de_v 4) (da_cons (de_v 2) (da_cons (de_bl) (da_nil))))) (da_cons (de_list (da_cons (de_v 4) (da_cons (de_int) (da_cons (de_bl) (da_nil))))) (da_cons (de_tup (da_cons (de_v 4) (da_cons (de_int) (da_cons (de_bl) (da_cons (de_bl) (da_nil)))))) (da_nil))))))) (dss_cons (ds_set 5 hN (de_op (fun _ => od_add) (de_v 5) (de_list (da_cons (de_tup (da_cons (de_v 4) (da_cons (de_int) (da_cons (de_non) (da_nil))))) (da_cons (de_tup (da_cons (de_bl) (da_cons (de_int) (da_cons (de_bl) (da_nil))))) (da_nil)))))) (dss_cons (ds_setLcC (own := [("_law_bad", 8)]) 6 hN (di_seq (de_v 5)) (by show blkC ["_law_case_here", "_law_log_here", "_law_odd", "_law_spot", "_law_moment", "_law_bads", "_law_wrong", "_law_steps", "_law_bad", "_law_step"] (defScope s__law_no_log) _ _ = true; decide +kernel) (by decide +kernel) (fun _ _ _ _ _ => dg_name 8 hN) (fun _ _ _ _ _ => dts_nil) (fun _ _ _ _ _ => de_op (fun _ => od_add) (de_op (fun _ => od_add) (de_slice (de_v 1) dp_none (dp_some (de_v 3))) (de_tup (da_cons (de_v 8) (da_nil)))) (de_slice (de_v 1) (dp_some (de_v 3)) dp_none)) (sw_true rfl rfl rfl (by decide +kernel))) (dss_cons (ds_set 6 hN (de_op (fun _ => od_addC) (de_v 6) (de_list (da_cons (de_non) (da_cons (de_ty (fun _ => cd_list) x.n_list bt_list (da_cons (de_v 1) (da_nil))) (da_cons (de_str) (da_cons (de_dct0) (da_cons (de_int) (da_cons (de_bl) (da_cons (de_tup (da_cons (de_v 1) (da_nil))) (da_cons (de_list (da_cons (de_v 1) (da_nil))) (da_nil)))))))))))) (dss_cons (ds_set 6 hN (de_op (fun _ => od_addC) (de_v 6) (de_list (da_cons (de_op (fun _ => od_add) (de_tup (da_cons (de_tup (da_cons (de_op (fun _ => od_add) (de_v 4) (de_int)) (da_cons (de_int) (da_cons (de_bl) (da_nil))))) (da_nil))) (de_tup (da_cons (de_tup (da_cons (de_int) (da_cons (de_int) (da_cons (de_bl) (da_nil))))) (da_nil)))) (da_nil))))) (dss_cons (ds_set 7 hN (de_tup (da_cons (de_int) (da_cons (de_int) (da_cons (de_int) (da_nil)))))) (dss_cons (ds_expr (de_app (de_v 6) (de_op (fun _ => od_add) (de_slice (de_v 1) dp_none (dp_some (de_v 3))) (de_ty (fun _ => cd_tuple) x.n_tuple bt_tuple (da_cons (de_lc (own := [("_law_step", 9)]) hN (di_seq (de_v 7)) (by show blkC ["_law_case_here", "_law_log_here", "_law_odd", "_law_spot", "_law_moment", "_law_bads", "_law_wrong", "_law_steps", "_law_bad", "_law_step"] (defScope s__law_no_log) _ _ = true; decide +kernel) (by decide +kernel) (fun _ _ _ _ _ => dg_name 9 hN) (fun _ _ _ _ _ => dts_nil) (fun _ _ _ _ _ => de_tup (da_cons (de_op (fun _ => od_add) (de_v 4) (de_v 9)) (da_cons (de_int) (da_cons (de_cmp (fun _ => od_gt) (de_v 9) (de_int) (nomark _)) (da_nil)))))) (da_nil)))))) (dss_cons (ds_if ((dw_and (dt_cmp (fun _ => od_gt) (de_b (fun _ => cd_len) x.n_len bt_len (da_cons (de_v 1) (da_nil))) (de_int) (nomark _)) (dw_and1 (dt_cmp (fun _ => od_lt) (de_ix (de_ix (de_v 1) (de_int)) (de_int)) (de_ix (de_ix (de_v 1) (de_un (fun _ => ud_neg) (de_int))) (de_int)) (nomark _)))).pt) (dss_one (ds_expr (de_app (de_v 6) (de_revA (de_v 1))))) (dss_nil)) (dss_one (ds_ret (de_ix (de_v 6) (de_call c__law_take_T hl hr (da_cons (de_v 0) (da_cons (de_b (fun _ => cd_len) x.n_len bt_len (da_cons (de_v 6) (da_nil))) (da_nil))) (hrl := len_consA (len_consA (len_nilA)))))))))))))))))))
theorem ok__law_is_log_T {f : Addr} {fd : FuncData} (F : FnP K "_law_is_log" s__law_is_log f fd) (x : Fx K mg cO) (c__law_is_whole_T : Callee P w K mg base 1 "_law_is_whole" ["_law_thing", "_law_least"] d__law_is_whole_T) : FnOk P w K mg base (L2.CX P w) 2 f fd ["_law_thing", "_law_size"] (spF K mg 2 d__law_is_log_T) :=
  fn_ok F sc__law_is_log fun cdv A outer s H E hr hl hp tk => by
      have hu := hr.units
      have hN := sc__law_is_log.nd
      exact dss_cons (ds_if (dt_not (dt_val (de_b (fun _ => cd_isin) x.n_isinstance bt_isinstance (da_cons (de_v 0) (da_cons (de_tyv x.n_tuple bt_tuple) (da_nil)))))) (dss_one (ds_ret (de_bl))) (dss_nil)) (dss_cons (ds_for hp (di_seq (de_v 0)) (dg_name 2 hN) (dss_cons (ds_if ((dw_or (dt_not (dt_val (de_b (fun _ => cd_isin) x.n_isinstance bt_isinstance (da_cons (de_v 2) (da_cons (de_tyv x.n_tuple bt_tuple) (da_nil)))))) (dw_or1 (dt_cmp (fun _ => (od_ne hu)) (de_b (fun _ => cd_len) x.n_len bt_len (da_cons (de_v 2) (da_nil))) (de_v 1) (nomark _)))).pt) (dss_one (ds_ret (de_bl))) (dss_nil)) (dss_cons (ds_if ((dw_or (dt_not (dt_val (de_call c__law_is_whole_T hl hr (da_cons (de_ix (de_v 2) (de_int)) (da_cons (de_int) (da_nil))) (hrl := len_consA (len_consA (len_nilA)))))) (dw_or1 (dt_not (dt_val (de_call c__law_is_whole_T hl hr (da_cons (de_ix (de_v 2) (de_int)) (da_cons (de_int) (da_nil))) (hrl := len_consA (len_consA (len_nilA)))))))).pt) (dss_one (ds_ret (de_bl))) (dss_nil)) (dss_one (ds_if ((dw_and (dt_cmp (fun _ => (od_eq hu)) (de_v 1) (de_int) (nomark _)) (dw_and1 (dt_not (dt_val (de_b (fun _ => cd_isin) x.n_isinstance bt_isinstance (da_cons (de_ix (de_v 2) (de_int)) (da_cons (de_tyv x.n_bool bt_bool) (da_nil)))))))).pt) (dss_one (ds_ret (de_bl))) (dss_nil)))))) (dss_one (ds_ret (de_cmp (fun _ => (od_eq hu)) (de_lc (own := [("_law_k", 3)]) hN (di_range2 (de_int) (de_b (fun _ => cd_len) x.n_len bt_len (da_cons (de_v 0) (da_nil))) x.n_range) (by show blkC ["_law_thing", "_law_size", "_law_part", "_law_k"] (defScope s__law_is_log) _ _ = true; decide +kernel) (by decide +kernel) (fun _ _ _ _ _ => dg_name 3 hN) (fun _ _ _ _ _ => dts_one (dt_cmp (fun _ => od_gt) (de_ix (de_ix (de_v 0) (de_op (fun _ => od_sub) (de_v 3) (de_int))) (de_int)) (de_ix (de_ix (de_v 0) (de_v 3)) (de_int)) (nomark _))) (fun _ _ _ _ _ => de_v 3)) (de_list (da_nil)) (nomark _)))))
theorem ok__law_no_row_T {f : Addr} {fd : FuncData} (F : FnP K "_law_no_row" s__law_no_row f fd) (x : Fx K mg cO) (c__law_take_T : Callee P w K mg base 1 "_law_take" ["_law_case_here", "_law_below"] d__law_take_T) : FnOk P w K mg base (L2.CX P w) 2 f fd ["_law_case_here", "_law_row_here"] (spF K mg 2 d__law_no_row_T) :=
  fn_ok F sc__law_no_row fun cdv A outer s H E hr hl hp tk => by
      have hu := hr.units
      have hN := sc__law_no_row.nd
      exact dss_cons (ds_set 2 hN (de_ix (de_list (da_cons (de_non) (da_cons (de_bl) (da_cons (de_str) (da_cons (de_tup (da_cons (de_int) (da_cons (de_int) (da_cons (de_int) (da_cons (de_int) (da_nil)))))) (da_cons (de_list (da_cons (de_int) (da_nil))) (da_cons (de_dct0) (da_cons (de_tup (da_cons (de_int) (da_nil))) (da_cons (de_un (fun _ => ud_neg) (de_int)) (da_nil)))))))))) (de_call c__law_take_T hl hr (da_cons (de_v 0) (da_cons (de_int) (da_nil))) (hrl := len_consA (len_consA (len_nilA)))))) (dss_cons (ds_set 3 hN (de_call c__law_take_T hl hr (da_cons (de_v 0) (da_cons (de_op (fun _ => od_add) (de_b (fun _ => cd_len) x.n_len bt_len (da_cons (de_v 1) (da_nil))) (de_int)) (da_nil))) (hrl := len_consA (len_consA (len_nilA))))) (dss_cons (ds_set 4 hN (de_ite (dt_cmp (fun _ => od_gt) (de_v 3) (de_int) (nomark _)) (de_ix (de_ix (de_v 1) (de_op (fun _ => od_sub) (de_v 3) (de_int))) (de_int)) (de_int))) (dss_cons (ds_set 5 hN (de_list (da_cons (de_v 2) (da_cons (de_tup (da_cons (de_v 4) (da_nil))) (da_cons (de_tup (da_cons (de_v 4) (da_cons (de_int) (da_cons (de_bl) (da_nil))))) (da_cons (de_list (da_cons (de_v 4) (da_cons (de_int) (da_nil)))) (da_cons (de_tup (da_cons (de_v 2) (da_cons (de_int) (da_nil)))) (da_cons (de_tup (da_cons (de_v 4) (da_cons (de_v 2) (da_nil)))) (da_nil))))))))) (dss_cons (ds_set 5 hN (de_op (fun _ => od_add) (de_v 5) (de_list (da_cons (de_tup (da_cons (de_v 4) (da_cons (de_int) (da_nil)))) (da_cons (de_tup (da_cons (de_v 4) (da_cons (de_un (fun _ => ud_neg) (de_int)) (da_nil)))) (da_cons (de_str) (da_cons (de_tup (da_nil)) (da_nil)))))))) (dss_cons (ds_setLc (own := [("_law_bad", 7)]) 6 hN (di_seq (de_v 5)) (by show blkC ["_law_case_here", "_law_row_here", "_law_odd", "_law_spot", "_law_moment", "_law_bads", "_law_wrong", "_law_bad"] (defScope s__law_no_row) _ _ = true; decide +kernel) (by decide +kernel) (fun _ _ _ _ _ => dg_name 7 hN) (fun _ _ _ _ _ => dts_nil) (fun _ _ _ _ _ => de_op (fun _ => od_add) (de_op (fun _ => od_add) (de_slice (de_v 1) dp_none (dp_some (de_v 3))) (de_tup (da_cons (de_v 7) (da_nil)))) (de_slice (de_v 1) (dp_some (de_v 3)) dp_none)) (sw_true rfl rfl rfl (by decide +kernel))) (dss_cons (ds_set 6 hN (de_op (fun _ => od_add) (de_v 6) (de_list (da_cons (de_non) (da_cons (de_ty (fun _ => cd_list) x.n_list bt_list (da_cons (de_v 1) (da_nil))) (da_cons (de_str) (da_cons (de_dct0) (da_cons (de_int) (da_cons (de_bl) (da_cons (de_tup (da_cons (de_v 1) (da_nil))) (da_cons (de_tup (da_cons (de_tup (da_cons (de_int) (da_cons (de_int) (da_nil)))) (da_cons (de_tup (da_cons (de_int) (da_cons (de_int) (da_nil)))) (da_nil)))) (da_cons (de_tup (da_cons (de_tup (da_cons (de_int) (da_cons (de_int) (da_nil)))) (da_cons (de_tup (da_cons (de_int) (da_cons (de_int) (da_nil)))) (da_cons (de_tup (da_cons (de_int) (da_cons (de_int) (da_nil)))) (da_nil))))) (da_nil))))))))))))) (dss_cons (ds_set 6 hN (de_op (fun _ => od_add) (de_v 6) (de_list (da_cons (de_op (fun _ => od_add) (de_slice (de_v 1) dp_none (dp_some (de_v 3))) (de_tup (da_cons (de_tup (da_cons (de_op (fun _ => od_add) (de_v 4) (de_int)) (da_cons (de_int) (da_nil)))) (da_cons (de_tup (da_cons (de_op (fun _ => od_add) (de_v 4) (de_int)) (da_cons (de_int) (da_nil)))) (da_cons (de_tup (da_cons (de_op (fun _ => od_add) (de_v 4) (de_int)) (da_cons (de_int) (da_nil)))) (da_nil)))))) (da_nil))))) (dss_cons (ds_set 6 hN (de_op (fun _ => od_add) (de_v 6) (de_list (da_cons (de_tup (da_cons (de_tup (da_cons (de_int) (da_cons (de_int) (da_nil)))) (da_cons (de_tup (da_cons (de_int) (da_cons (de_int) (da_nil)))) (da_cons (de_tup (da_cons (de_int) (da_cons (de_int) (da_nil)))) (da_cons (de_tup (da_cons (de_int) (da_cons (de_int) (da_nil)))) (da_nil)))))) (da_nil))))) (dss_cons (ds_if ((dw_and (dt_cmp (fun _ => (od_ne hu)) (de_v 1) (de_tup (da_nil)) (nomark _)) (dw_and1 (dt_cmp (fun _ => od_gt) (de_ix (de_ix (de_v 1) (de_un (fun _ => ud_neg) (de_int))) (de_int)) (de_int) (nomark _)))).pt) (dss_cons (ds_set 6 hN (de_op (fun _ => od_add) (de_v 6) (de_list (da_cons (de_op (fun _ => od_add) (de_v 1) (de_tup (da_cons (de_tup (da_cons (de_op (fun _ => od_sub) (de_ix (de_ix (de_v 1) (de_un (fun _ => ud_neg) (de_int))) (de_int)) (de_int)) (da_cons (de_int) (da_nil)))) (da_nil)))) (da_cons (de_op (fun _ => od_add) (de_v 1) (de_tup (da_cons (de_tup (da_cons (de_int) (da_cons (de_int) (da_nil)))) (da_nil)))) (da_nil)))))) (dss_one (ds_set 6 hN (de_op (fun _ => od_add) (de_v 6) (de_list (da_cons (de_op (fun _ => od_add) (de_v 1) (de_tup (da_cons (de_ix (de_v 1) (de_un (fun _ => ud_neg) (de_int))) (da_cons (de_tup (da_cons (de_int) (da_cons (de_int) (da_nil)))) (da_nil))))) (da_nil))))))) (dss_nil)) (dss_cons (ds_if ((dw_and (dt_cmp (fun _ => od_gt) (de_b (fun _ => cd_len) x.n_len bt_len (da_cons (de_v 1) (da_nil))) (de_int) (nomark _)) (dw_and1 (dt_cmp (fun _ => od_lt) (de_ix (de_ix (de_v 1) (de_int)) (de_int)) (de_ix (de_ix (de_v 1) (de_un (fun _ => ud_neg) (de_int))) (de_int)) (nomark _)))).pt) (dss_one (ds_set 6 hN (de_op (fun _ => od_add) (de_v 6) (de_list (da_cons (de_revA (de_v 1)) (da_cons (de_op (fun _ => od_add) (de_slice (de_v 1) (dp_some (de_int)) dp_none) (de_slice (de_v 1) dp_none (dp_some (de_int)))) (da_nil))))))) (dss_nil)) (dss_one (ds_ret (de_ix (de_v 6) (de_call c__law_take_T hl hr (da_cons (de_v 0) (da_cons (de_b (fun _ => cd_len) x.n_len bt_len (da_cons (de_v 6) (da_nil))) (da_nil))) (hrl := len_consA (len_consA (len_nilA)))))))))))))))))
theorem ok_check_kind_T {f : Addr} {fd : FuncData} (F : FnP K "check_kind" s_check_kind f fd) (x : Fx K mg cO) : FnOk P w K mg base (L2.CX P w) 1 f fd ["kind", "kinds"] (spF K mg 2 d_check_kind_T) :=
  fn_ok F sc_check_kind fun cdv A outer s H E hr hl hp tk => by
      have hu := hr.units
      have hN := sc_check_kind.nd
      exact dss_one (ds_if ((dw_or (dt_not (dt_val (de_b (fun _ => cd_isin) x.n_isinstance bt_isinstance (da_cons (de_v 0) (da_cons (de_tyv x.n_str bt_str) (da_nil)))))) (dw_or1 (dt_cmp (fun _ => od_notIn) (de_v 0) (de_v 1) (by rfl)))).pt) (dss_one (ds_never)) (dss_nil))
theorem ok_check_log_T {f : Addr} {fd : FuncData} (F : FnP K "check_log" s_check_log f fd) (x : Fx K mg cO) (c_is_log_T : Callee P w K mg base 5 "is_log" ["value"] d_is_log_T) : FnOk P w K mg base (L2.CX P w) 6 f fd ["log"] (spF K mg 1 d_check_log_T) :=
  fn_ok F sc_check_log fun cdv A outer s H E hr hl hp tk => by
      have hu := hr.units
      have hN := sc_check_log.nd
      exact dss_one (ds_if (dt_not (dt_val (de_call c_is_log_T hl hr (da_cons (de_v 0) (da_nil)) (hrl := len_consA (len_nilA))))) (dss_one (ds_never)) (dss_nil))
theorem ok_Heard___init___T {f : Addr} {fd : FuncData} (F : FnQ K "__init__" "Heard.__init__" s_Heard___init__ f fd) (x : Fx K mg cO) (c_check_kind_T : Callee P w K mg base 1 "check_kind" ["kind", "kinds"] d_check_kind_T) (c_check_log_T : Callee P w K mg base 6 "check_log" ["log"] d_check_log_T) : FnR P w K mg base (L2.CX P w) 7 f (spS K mg (packD 2 (d_Heard___init___T cO))) :=
  fn_okS (ps := ["self", "kind"]) (pv := "logs") F sc_Heard___init__ (fun kV doc pm an cdv ct => StX.bind_star2 (B := fun us => bindArgs (PySem.W.fnOf "__init__" "Heard.__init__" (defArgs s_Heard___init__) (defBody s_Heard___init__) (defScope s_Heard___init__) .none kV doc pm an cdv ct) ⟨us, []⟩) (fun a b => rfl) (fun a b r rs => rfl)) fun cdv A outer s H E hr hl hp tk => by
      have hu := hr.units
      have hN := sc_Heard___init__.nd
      exact dss_cons (ds_expr (de_call c_check_kind_T hl hr (da_cons (de_v 1) (da_cons (de_gtupE x.g_KINDS) (da_nil))) (hrl := len_consA (len_consA (len_nilA))))) (dss_cons (ds_for hp (di_seq (de_v 2)) (dg_name 3 hN) (dss_one (ds_expr (de_call c_check_log_T hl hr (da_cons (de_v 3) (da_nil)) (hrl := len_consA (len_nilA)))))) (dss_cons (ds_fldO (de_v 0) (de_v 1) x.cl_Heard x.na_heard_kind) (dss_one (ds_fldO (de_v 0) (de_ite (dt_cmp (fun _ => (od_ne hu)) (de_v 2) (de_tup (da_nil)) (nomark _)) (de_v 2) (de_tup (da_cons (de_tup (da_nil)) (da_nil)))) x.cl_Heard x.na_heard_logs))))
theorem ok_check_rule_T {f : Addr} {fd : FuncData} (F : FnP K "check_rule" s_check_rule f fd) (x : Fx K mg cO) (c_is_rule_T : Callee P w K mg base 4 "is_rule" ["value"] d_is_rule_T) : FnOk P w K mg base (L2.CX P w) 5 f fd ["rule"] (spF K mg 1 d_check_rule_T) :=
  fn_ok F sc_check_rule fun cdv A outer s H E hr hl hp tk => by
      have hu := hr.units
      have hN := sc_check_rule.nd
      exact dss_one (ds_if (dt_not (dt_val (de_call c_is_rule_T hl hr (da_cons (de_v 0) (da_nil)) (hrl := len_consA (len_nilA))))) (dss_one (ds_never)) (dss_nil))
theorem ok_Door___init___T {f : Addr} {fd : FuncData} (F : FnQ K "__init__" "Door.__init__" s_Door___init__ f fd) (x : Fx K mg cO) (c_check_rule_T : Callee P w K mg base 5 "check_rule" ["rule"] d_check_rule_T) : FnOk P w K mg base (L2.CX P w) 6 f fd ["self", "rule"] (spF K mg 2 (d_Door___init___T cO)) :=
  fn_ok F sc_Door___init__ fun cdv A outer s H E hr hl hp tk => by
      have hu := hr.units
      have hN := sc_Door___init__.nd
      exact dss_cons (ds_expr (de_call c_check_rule_T hl hr (da_cons (de_v 1) (da_nil)) (hrl := len_consA (len_nilA)))) (dss_cons (ds_fldO (de_v 0) (de_v 1) x.cl_Door x.na_door_rule) (dss_one (ds_fldO (de_v 0) (de_tup (da_nil)) x.cl_Door x.na_asked)))
theorem ok_law_T {f : Addr} {fd : FuncData} (F : FnP K "law" s_law f fd) (x : Fx K mg cO) (c__law_case_N : Callee P w K mg base 1 "_law_case" ["_law_script", "_law_at"] d__law_case_N) (c__law_take_T : Callee P w K mg base 1 "_law_take" ["_law_case_here", "_law_below"] d__law_take_T) (c__law_rule_T : Callee P w K mg base 4 "_law_rule" ["_law_case_here", "_law_kind_here", "_law_great"] d__law_rule_T) (c_is_rule_T : Callee P w K mg base 4 "is_rule" ["value"] d_is_rule_T) (c__law_same_T : Callee P w K mg base 6 "_law_same" ["_law_found", "_law_due"] d__law_same_T) (c__law_no_rule_T : Callee P w K mg base 2 "_law_no_rule" ["_law_case_here", "_law_rule_here"] d__law_no_rule_T) (c__law_is_rule_T : Callee P w K mg base 2 "_law_is_rule" ["_law_thing"] d__law_is_rule_T) (c__law_draws_T : Callee P w K mg base 3 "_law_draws" ["_law_case_here", "_law_many_here", "_law_great"] d__law_draws_T) (c_is_log_T : Callee P w K mg base 5 "is_log" ["value"] d_is_log_T) (c_is_row_T : Callee P w K mg base 4 "is_row" ["value"] d_is_row_T) (c__law_no_log_T : Callee P w K mg base 2 "_law_no_log" ["_law_case_here", "_law_log_here"] d__law_no_log_T) (c__law_is_log_T : Callee P w K mg base 2 "_law_is_log" ["_law_thing", "_law_size"] d__law_is_log_T) (c__law_no_row_T : Callee P w K mg base 2 "_law_no_row" ["_law_case_here", "_law_row_here"] d__law_no_row_T) (ck_is_rule_T_0_value : CalleeK P w K mg base 4 "is_rule" ["value"] ["value"] 0 [0] d_is_rule_T) (ck_is_log_T_0_value : CalleeK P w K mg base 5 "is_log" ["value"] ["value"] 0 [0] d_is_log_T) (ck_is_row_T_0_value : CalleeK P w K mg base 4 "is_row" ["value"] ["value"] 0 [0] d_is_row_T) (cs_Heard___init___T : CalleeCS P w K mg base 7 "Heard" (cO "Heard") (packD 2 (d_Heard___init___T cO))) (cc_Door___init___T : CalleeC P w K mg base 6 "Door" (cO "Door") ["self", "rule"] (d_Door___init___T cO)) : FnOk P w K mg base (L2.CX P w) 9 f fd ["_law_script"] (spF K mg 1 (d_law_T cO)) :=
  fn_exitT (fn_ok F sc_law fun cdv A outer s H E hr hl hp tk => by
      have hu := hr.units
      have hN := sc_law.nd
      exact dss_cons (ds_set 1 hN (de_list (da_cons (de_str) (da_cons (de_str) (da_cons (de_str) (da_cons (de_str) (da_cons (de_str) (da_nil)))))))) (dss_cons (ds_for hp (di_range1 (de_b (fun _ => (cd_max rfl)) x.n_max bt_max (da_cons (de_int) (da_cons (de_b (fun _ => (cd_min rfl)) x.n_min bt_min (da_cons (de_int) (da_cons (de_b (fun _ => cd_len) x.n_len bt_len (da_cons (de_v 0) (da_nil))) (da_nil)))) (da_nil)))) x.n_range) (dg_name 2 hN) (dss_cons (ds_set 3 hN (de_call c__law_case_N hl hr (da_cons (de_v 0) (da_cons (de_v 2) (da_nil))) (hrl := len_consA (len_consA (len_nilA))))) (dss_one (ds_for hp (di_seq (de_v 1)) (dg_name 4 hN) (dss_cons (ds_set 5 hN (de_call c__law_rule_T hl hr (da_cons (de_v 3) (da_cons (de_v 4) (da_cons (de_ix (de_list (da_cons (de_int) (da_cons (de_op (fun _ => od_pow) (de_int) (de_int)) (da_cons (de_op (fun _ => od_sub) (de_op (fun _ => od_pow) (de_int) (de_int)) (de_int)) (da_nil))))) (de_call c__law_take_T hl hr (da_cons (de_v 3) (da_cons (de_int) (da_nil))) (hrl := len_consA (len_consA (len_nilA))))) (da_nil)))) (hrl := len_consA (len_consA (len_consA (len_nilA)))))) (dss_cons (ds_if (dt_not (dt_val (de_call c__law_same_T hl hr (da_cons (de_list (da_cons (de_call c_is_rule_T hl hr (da_cons (de_v 5) (da_nil)) (hrl := len_consA (len_nilA))) (da_cons (de_callK0 ck_is_rule_T_0_value hl hr (dk_cons (de_v 5) (dk_nil)) (hrl := len_consA (len_nilA))) (da_nil)))) (da_cons (de_list (da_cons (de_bl) (da_cons (de_bl) (da_nil)))) (da_nil))) (hrl := len_consA (len_consA (len_nilA)))))) (dss_one (ds_ret (de_bl))) (dss_nil)) (dss_cons (ds_for hp (di_range1 (de_int) x.n_range) (dg_name 6 hN) (dss_cons (ds_set 7 hN (de_call c__law_no_rule_T hl hr (da_cons (de_v 3) (da_cons (de_v 5) (da_nil))) (hrl := len_consA (len_consA (len_nilA))))) (dss_one (ds_if (dt_not (dt_val (de_call c__law_same_T hl hr (da_cons (de_call c_is_rule_T hl hr (da_cons (de_v 7) (da_nil)) (hrl := len_consA (len_nilA))) (da_cons (de_call c__law_is_rule_T hl hr (da_cons (de_v 7) (da_nil)) (hrl := len_consA (len_nilA))) (da_nil))) (hrl := len_consA (len_consA (len_nilA)))))) (dss_one (ds_ret (de_bl))) (dss_nil))))) (dss_cons (ds_set 8 hN (de_call c__law_draws_T hl hr (da_cons (de_v 3) (da_cons (de_int) (da_cons (de_op (fun _ => od_pow) (de_int) (de_int)) (da_nil)))) (hrl := len_consA (len_consA (len_consA (len_nilA)))))) (dss_cons (ds_set 9 hN (de_ty (fun _ => cd_tuple) x.n_tuple bt_tuple (da_cons (de_lc (own := [("_law_pair", 13)]) hN (di_seq (de_v 8)) (by show blkC ["_law_script", "_law_words", "_law_at", "_law_case_here", "_law_kind_here", "_law_rule_here", "_law_turn", "_law_thing", "_law_row_here", "_law_log_here", "_law_heard", "_law_empty", "_law_some", "_law_pair"] (defScope s_law) _ _ = true; decide +kernel) (by decide +kernel) (fun _ _ _ _ _ => dg_name 13 hN) (fun _ _ _ _ _ => dts_nil) (fun _ _ _ _ _ => de_tup (da_cons (de_ix (de_v 13) (de_int)) (da_cons (de_ix (de_v 13) (de_int)) (da_cons (de_cmp (fun _ => (od_eq hu)) (de_call c__law_take_T lets0 hr (da_cons (de_v 3) (da_cons (de_int) (da_nil))) (hrl := len_consA (len_consA (len_nilA)))) (de_int) (nomark _)) (da_nil)))))) (da_nil)))) (dss_cons (ds_set 10 hN (de_list (da_cons (de_call c_is_row_T hl hr (da_cons (de_v 8) (da_nil)) (hrl := len_consA (len_nilA))) (da_cons (de_callK0 ck_is_row_T_0_value hl hr (dk_cons (de_v 8) (dk_nil)) (hrl := len_consA (len_nilA))) (da_cons (de_call c_is_log_T hl hr (da_cons (de_v 9) (da_nil)) (hrl := len_consA (len_nilA))) (da_cons (de_callK0 ck_is_log_T_0_value hl hr (dk_cons (de_v 9) (dk_nil)) (hrl := len_consA (len_nilA))) (da_nil))))))) (dss_cons (ds_set 11 hN (de_cmp (fun _ => (od_eq hu)) (de_v 8) (de_tup (da_nil)) (nomark _))) (dss_cons (ds_if (dt_not (dt_val (de_call c__law_same_T hl hr (da_cons (de_op (fun _ => od_add) (de_v 10) (de_list (da_cons (de_call c_is_row_T hl hr (da_cons (de_v 9) (da_nil)) (hrl := len_consA (len_nilA))) (da_cons (de_call c_is_log_T hl hr (da_cons (de_v 8) (da_nil)) (hrl := len_consA (len_nilA))) (da_nil))))) (da_cons (de_op (fun _ => od_add) (de_op (fun _ => od_rep) (de_list (da_cons (de_bl) (da_nil))) (de_int)) (de_list (da_cons (de_v 11) (da_cons (de_v 11) (da_nil))))) (da_nil))) (hrl := len_consA (len_consA (len_nilA)))))) (dss_one (ds_ret (de_bl))) (dss_nil)) (dss_one (ds_for hp (di_range1 (de_int) x.n_range) (dg_name 6 hN) (dss_cons (ds_set 7 hN (de_call c__law_no_log_T hl hr (da_cons (de_v 3) (da_cons (de_v 9) (da_nil))) (hrl := len_consA (len_consA (len_nilA))))) (dss_cons (ds_if (dt_not (dt_val (de_call c__law_same_T hl hr (da_cons (de_call c_is_log_T hl hr (da_cons (de_v 7) (da_nil)) (hrl := len_consA (len_nilA))) (da_cons (de_call c__law_is_log_T hl hr (da_cons (de_v 7) (da_cons (de_int) (da_nil))) (hrl := len_consA (len_consA (len_nilA)))) (da_nil))) (hrl := len_consA (len_consA (len_nilA)))))) (dss_one (ds_ret (de_bl))) (dss_nil)) (dss_cons (ds_if (dt_not (dt_val (de_call c__law_same_T hl hr (da_cons (de_call c_is_row_T hl hr (da_cons (de_v 7) (da_nil)) (hrl := len_consA (len_nilA))) (da_cons (de_call c__law_is_log_T hl hr (da_cons (de_v 7) (da_cons (de_int) (da_nil))) (hrl := len_consA (len_consA (len_nilA)))) (da_nil))) (hrl := len_consA (len_consA (len_nilA)))))) (dss_one (ds_ret (de_bl))) (dss_nil)) (dss_cons (ds_set 7 hN (de_call c__law_no_row_T hl hr (da_cons (de_v 3) (da_cons (de_v 8) (da_nil))) (hrl := len_consA (len_consA (len_nilA))))) (dss_one (ds_if (dt_not (dt_val (de_call c__law_same_T hl hr (da_cons (de_list (da_cons (de_call c_is_row_T hl hr (da_cons (de_v 7) (da_nil)) (hrl := len_consA (len_nilA))) (da_cons (de_call c_is_log_T hl hr (da_cons (de_v 7) (da_nil)) (hrl := len_consA (len_nilA))) (da_nil)))) (da_cons (de_list (da_cons (de_call c__law_is_log_T hl hr (da_cons (de_v 7) (da_cons (de_int) (da_nil))) (hrl := len_consA (len_consA (len_nilA)))) (da_cons (de_call c__law_is_log_T hl hr (da_cons (de_v 7) (da_cons (de_int) (da_nil))) (hrl := len_consA (len_consA (len_nilA)))) (da_nil)))) (da_nil))) (hrl := len_consA (len_consA (len_nilA)))))) (dss_one (ds_ret (de_bl))) (dss_nil))))))))))))))))))))) (dss_cons (ds_set 12 hN (de_list (da_cons (de_opq x.oc_Door (de_makeO cc_Door___init___T hl hr (da_cons (de_tup (da_cons (de_str) (da_cons (de_int) (da_nil)))) (da_nil)) (hrl := len_consA (len_nilA)))) (da_cons (de_opq x.oc_Heard (de_makeS cs_Heard___init___T hl hr (da_cons (de_str) (da_nil)))) (da_cons (de_tup (da_cons (de_str) (da_cons (de_int) (da_nil)))) (da_nil)))))) (dss_cons (ds_if (dt_cmp (fun _ => (od_ne hu)) (de_lc (own := [("_law_thing", 7)]) hN (di_seq (de_v 12)) (by show blkC ["_law_script", "_law_words", "_law_at", "_law_case_here", "_law_kind_here", "_law_rule_here", "_law_turn", "_law_thing", "_law_row_here", "_law_log_here", "_law_heard", "_law_empty", "_law_some", "_law_pair"] (defScope s_law) _ _ = true; decide +kernel) (by decide +kernel) (fun _ _ _ _ _ => dg_name 7 hN) (fun _ _ _ _ _ => dts_one ((dw_or (dt_val (de_call c_is_row_T lets0 hr (da_cons (de_v 7) (da_nil)) (hrl := len_consA (len_nilA)))) (dw_or1 (dt_val (de_call c_is_log_T lets0 hr (da_cons (de_v 7) (da_nil)) (hrl := len_consA (len_nilA)))))).pt)) (fun _ _ _ _ _ => de_v 7)) (de_list (da_nil)) (nomark _)) (dss_one (ds_ret (de_bl))) (dss_nil)) (dss_one (ds_ret (de_and (de_cmp (fun _ => od_isB) (de_call c_is_rule_T hl hr (da_cons (de_opq x.oc_Door (de_makeO cc_Door___init___T hl hr (da_cons (de_tup (da_cons (de_str) (da_cons (de_int) (da_nil)))) (da_nil)) (hrl := len_consA (len_nilA)))) (da_nil)) (hrl := len_consA (len_nilA))) (de_bl) (nomark _)) (de_and (de_cmp (fun _ => od_isB) (de_call c_is_log_T hl hr (da_cons (de_tup (da_nil)) (da_nil)) (hrl := len_consA (len_nilA))) (de_bl) (nomark _)) (de_one (de_cmp (fun _ => od_isB) (de_call c_is_row_T hl hr (da_cons (de_tup (da_nil)) (da_nil)) (hrl := len_consA (len_nilA))) (de_bl) (nomark _)))))))))))
end
end LW

namespace LW
open PySem PySem.Spec PyProof.Rows L2 LH
theorem facts {P : Program} {w : World} {K : PySem.W.Frag} {h : Heap} {mg : Str → Option Value} {f : Addr} (X : K.In h) (G : h.Ns mainGlobals mg) (hfa : mg ("law" : Str) = some (.ref f)) (c : He.SaysD fa fn K) (ce : ex K = true) :
    ∃ fd : FuncData, (∀ (s : Shared) (v : Value), BindsTo s fd ⟨[v], []⟩ [("_law_script", v)]) ∧ ∀ base : Heap, K.In base → base.Ns mainGlobals mg → FnOk P w K mg base (L2.CX P w) 9 f fd ["_law_script"] (spF K mg 1 (d_law_T (He.ga K))) := by
  have ce0 := ce
  unfold ex at ce0
  simp only [Bool.and_eq_true] at ce0
  have t_FILLED := ce0.1.1.1.1
  have t_KINDS := ce0.1.1.1.2
  have t_SPANNED := ce0.1.1.2
  have t__oc_Door := ce0.1.2
  have t__oc_Heard := ce0.2
  have x : Fx K mg (He.ga K) := ⟨He.cls_ok (c.fact 47 (f := .cls "Door") rfl),
    He.noat_ok (c.fact 48 (f := .noat "Door" "door_rule") rfl),
    He.noat_ok (c.fact 49 (f := .noat "Door" "asked") rfl),
    opc_ok t__oc_Door (He.cls_ok (c.fact 47 (f := .cls "Door") rfl)),
    He.cls_ok (c.fact 51 (f := .cls "Heard") rfl),
    He.noat_ok (c.fact 52 (f := .noat "Heard" "heard_kind") rfl),
    He.noat_ok (c.fact 53 (f := .noat "Heard" "heard_logs") rfl),
    opc_ok t__oc_Heard (He.cls_ok (c.fact 51 (f := .cls "Heard") rfl)),
    He.free_ok X G (c.fact 29 (f := .free "abs") rfl),
    He.free_ok X G (c.fact 30 (f := .free "all") rfl),
    He.free_ok X G (c.fact 31 (f := .free "bool") rfl),
    He.free_ok X G (c.fact 32 (f := .free "int") rfl),
    He.free_ok X G (c.fact 33 (f := .free "isinstance") rfl),
    He.free_ok X G (c.fact 34 (f := .free "len") rfl),
    He.free_ok X G (c.fact 35 (f := .free "list") rfl),
    He.free_ok X G (c.fact 36 (f := .free "max") rfl),
    He.free_ok X G (c.fact 37 (f := .free "min") rfl),
    He.free_ok X G (c.fact 38 (f := .free "range") rfl),
    He.free_ok X G (c.fact 39 (f := .free "str") rfl),
    He.free_ok X G (c.fact 40 (f := .free "tuple") rfl),
    He.free_ok X G (c.fact 41 (f := .free "zip") rfl),
    He.str_ok X G (c.fact 42 (f := .str "GAP" "gap") rfl),
    ⟨_, He.glo_ok X G (c.fact 43 (f := .glo "FILLED") rfl), fun H => He.tupB_ok (vs := [.str "bucket", .str "meter"]) t_FILLED H⟩,
    ⟨_, He.glo_ok X G (c.fact 44 (f := .glo "KINDS") rfl), fun H => He.tupB_ok (vs := [.str "bucket", .str "meter", .str "window", .str "frame", .str "gap"]) t_KINDS H⟩,
    ⟨_, He.glo_ok X G (c.fact 45 (f := .glo "SPANNED") rfl), fun H => He.tupB_ok (vs := [.str "window", .str "frame"]) t_SPANNED H⟩⟩
  obtain ⟨fd__law_case, F__law_case⟩ := c.def_ 0 (d := D__law_case) rfl
  have m__law_case := He.glo_ok X G (c.fact 0 (f := .glo "_law_case") rfl)
  obtain ⟨fd__law_take, F__law_take⟩ := c.def_ 1 (d := D__law_take) rfl
  have m__law_take := He.glo_ok X G (c.fact 1 (f := .glo "_law_take") rfl)
  obtain ⟨fd__law_common, F__law_common⟩ := c.def_ 2 (d := D__law_common) rfl
  have m__law_common := He.glo_ok X G (c.fact 2 (f := .glo "_law_common") rfl)
  obtain ⟨fd__law_lowest, F__law_lowest⟩ := c.def_ 3 (d := D__law_lowest) rfl
  have m__law_lowest := He.glo_ok X G (c.fact 3 (f := .glo "_law_lowest") rfl)
  obtain ⟨fd__law_fraction, F__law_fraction⟩ := c.def_ 4 (d := D__law_fraction) rfl
  have m__law_fraction := He.glo_ok X G (c.fact 4 (f := .glo "_law_fraction") rfl)
  obtain ⟨fd__law_rule, F__law_rule⟩ := c.def_ 5 (d := D__law_rule) rfl
  have m__law_rule := He.glo_ok X G (c.fact 5 (f := .glo "_law_rule") rfl)
  obtain ⟨fd_is_integer, F_is_integer⟩ := c.def_ 6 (d := D_is_integer) rfl
  have m_is_integer := He.glo_ok X G (c.fact 6 (f := .glo "is_integer") rfl)
  obtain ⟨fd_is_at_least, F_is_at_least⟩ := c.def_ 7 (d := D_is_at_least) rfl
  have m_is_at_least := He.glo_ok X G (c.fact 7 (f := .glo "is_at_least") rfl)
  obtain ⟨fd_greatest_divisor, F_greatest_divisor⟩ := c.def_ 8 (d := D_greatest_divisor) rfl
  have m_greatest_divisor := He.glo_ok X G (c.fact 8 (f := .glo "greatest_divisor") rfl)
  obtain ⟨fd_is_fraction, F_is_fraction⟩ := c.def_ 9 (d := D_is_fraction) rfl
  have m_is_fraction := He.glo_ok X G (c.fact 9 (f := .glo "is_fraction") rfl)
  obtain ⟨fd_is_rule, F_is_rule⟩ := c.def_ 10 (d := D_is_rule) rfl
  have m_is_rule := He.glo_ok X G (c.fact 10 (f := .glo "is_rule") rfl)
  obtain ⟨fd__law_same, F__law_same⟩ := c.def_ 11 (d := D__law_same) rfl
  have m__law_same := He.glo_ok X G (c.fact 11 (f := .glo "_law_same") rfl)
  obtain ⟨fd__law_no_rule, F__law_no_rule⟩ := c.def_ 12 (d := D__law_no_rule) rfl
  have m__law_no_rule := He.glo_ok X G (c.fact 12 (f := .glo "_law_no_rule") rfl)
  obtain ⟨fd__law_is_whole, F__law_is_whole⟩ := c.def_ 13 (d := D__law_is_whole) rfl
  have m__law_is_whole := He.glo_ok X G (c.fact 13 (f := .glo "_law_is_whole") rfl)
  obtain ⟨fd__law_is_rule, F__law_is_rule⟩ := c.def_ 14 (d := D__law_is_rule) rfl
  have m__law_is_rule := He.glo_ok X G (c.fact 14 (f := .glo "_law_is_rule") rfl)
  obtain ⟨fd__law_requests, F__law_requests⟩ := c.def_ 15 (d := D__law_requests) rfl
  have m__law_requests := He.glo_ok X G (c.fact 15 (f := .glo "_law_requests") rfl)
  obtain ⟨fd__law_draws, F__law_draws⟩ := c.def_ 16 (d := D__law_draws) rfl
  have m__law_draws := He.glo_ok X G (c.fact 16 (f := .glo "_law_draws") rfl)
  obtain ⟨fd_is_request, F_is_request⟩ := c.def_ 17 (d := D_is_request) rfl
  have m_is_request := He.glo_ok X G (c.fact 17 (f := .glo "is_request") rfl)
  obtain ⟨fd_is_entry, F_is_entry⟩ := c.def_ 18 (d := D_is_entry) rfl
  have m_is_entry := He.glo_ok X G (c.fact 18 (f := .glo "is_entry") rfl)
  obtain ⟨fd_is_rising, F_is_rising⟩ := c.def_ 19 (d := D_is_rising) rfl
  have m_is_rising := He.glo_ok X G (c.fact 19 (f := .glo "is_rising") rfl)
  obtain ⟨fd_is_log, F_is_log⟩ := c.def_ 20 (d := D_is_log) rfl
  have m_is_log := He.glo_ok X G (c.fact 20 (f := .glo "is_log") rfl)
  obtain ⟨fd_is_row, F_is_row⟩ := c.def_ 21 (d := D_is_row) rfl
  have m_is_row := He.glo_ok X G (c.fact 21 (f := .glo "is_row") rfl)
  obtain ⟨fd__law_no_log, F__law_no_log⟩ := c.def_ 22 (d := D__law_no_log) rfl
  have m__law_no_log := He.glo_ok X G (c.fact 22 (f := .glo "_law_no_log") rfl)
  obtain ⟨fd__law_is_log, F__law_is_log⟩ := c.def_ 23 (d := D__law_is_log) rfl
  have m__law_is_log := He.glo_ok X G (c.fact 23 (f := .glo "_law_is_log") rfl)
  obtain ⟨fd__law_no_row, F__law_no_row⟩ := c.def_ 24 (d := D__law_no_row) rfl
  have m__law_no_row := He.glo_ok X G (c.fact 24 (f := .glo "_law_no_row") rfl)
  obtain ⟨fd_check_kind, F_check_kind⟩ := c.def_ 25 (d := D_check_kind) rfl
  have m_check_kind := He.glo_ok X G (c.fact 25 (f := .glo "check_kind") rfl)
  obtain ⟨fd_check_log, F_check_log⟩ := c.def_ 26 (d := D_check_log) rfl
  have m_check_log := He.glo_ok X G (c.fact 26 (f := .glo "check_log") rfl)
  obtain ⟨fd_Heard___init__, F_Heard___init__⟩ := c.def_ 27 (d := D_Heard___init__) rfl
  obtain ⟨fd_check_rule, F_check_rule⟩ := c.def_ 28 (d := D_check_rule) rfl
  have m_check_rule := He.glo_ok X G (c.fact 27 (f := .glo "check_rule") rfl)
  obtain ⟨fd_Door___init__, F_Door___init__⟩ := c.def_ 29 (d := D_Door___init__) rfl
  obtain ⟨fd_law, F_law⟩ := c.def_ 30 (d := D_law) rfl
  have m_law := He.glo_ok X G (c.fact 28 (f := .glo "law") rfl)
  have m_Door := He.glo_ok X G (c.fact 46 (f := .glo "Door") rfl)
  have m_Heard := He.glo_ok X G (c.fact 50 (f := .glo "Heard") rfl)
  have e := hfa.symm.trans m_law
  cases e
  have b := FunD.bindsA (ps := ["_law_script"]) F_law (fun _ _ _ _ _ _ us hl => match us, hl with | [_], _ => rfl)
  refine ⟨fd_law, fun s v => b s [v] rfl, fun base _ _ => ?_⟩
  have c__law_case_N : Callee P w K mg base 1 "_law_case" ["_law_script", "_law_at"] d__law_case_N := callee_of F__law_case (ok__law_case_N (P := P) (w := w) (base := base) F__law_case x) m__law_case (fun _ _ _ _ _ _ us hl => match us, hl with | [_, _], _ => rfl)
  have c__law_take_T : Callee P w K mg base 1 "_law_take" ["_law_case_here", "_law_below"] d__law_take_T := callee_of F__law_take (ok__law_take_T (P := P) (w := w) (base := base) F__law_take x) m__law_take (fun _ _ _ _ _ _ us hl => match us, hl with | [_, _], _ => rfl)
  have c__law_common_T : Callee P w K mg base 1 "_law_common" ["_law_first", "_law_second"] d__law_common_T := callee_of F__law_common (ok__law_common_T (P := P) (w := w) (base := base) F__law_common x) m__law_common (fun _ _ _ _ _ _ us hl => match us, hl with | [_, _], _ => rfl)
  have c__law_lowest_T : Callee P w K mg base 2 "_law_lowest" ["_law_top", "_law_bottom"] d__law_lowest_T := callee_of F__law_lowest (ok__law_lowest_T (P := P) (w := w) (base := base) F__law_lowest x c__law_common_T) m__law_lowest (fun _ _ _ _ _ _ us hl => match us, hl with | [_, _], _ => rfl)
  have c__law_fraction_T : Callee P w K mg base 3 "_law_fraction" ["_law_case_here", "_law_great"] d__law_fraction_T := callee_of F__law_fraction (ok__law_fraction_T (P := P) (w := w) (base := base) F__law_fraction x c__law_take_T c__law_lowest_T) m__law_fraction (fun _ _ _ _ _ _ us hl => match us, hl with | [_, _], _ => rfl)
  have c__law_rule_T : Callee P w K mg base 4 "_law_rule" ["_law_case_here", "_law_kind_here", "_law_great"] d__law_rule_T := callee_of F__law_rule (ok__law_rule_T (P := P) (w := w) (base := base) F__law_rule x c__law_take_T c__law_fraction_T) m__law_rule (fun _ _ _ _ _ _ us hl => match us, hl with | [_, _, _], _ => rfl)
  have c_is_integer_T : Callee P w K mg base 1 "is_integer" ["value"] d_is_integer_T := callee_of F_is_integer (ok_is_integer_T (P := P) (w := w) (base := base) F_is_integer x) m_is_integer (fun _ _ _ _ _ _ us hl => match us, hl with | [_], _ => rfl)
  have c_is_at_least_T : Callee P w K mg base 2 "is_at_least" ["value", "least"] d_is_at_least_T := callee_of F_is_at_least (ok_is_at_least_T (P := P) (w := w) (base := base) F_is_at_least x c_is_integer_T) m_is_at_least (fun _ _ _ _ _ _ us hl => match us, hl with | [_, _], _ => rfl)
  have c_greatest_divisor_T : Callee P w K mg base 1 "greatest_divisor" ["one", "other"] d_greatest_divisor_T := callee_of F_greatest_divisor (ok_greatest_divisor_T (P := P) (w := w) (base := base) F_greatest_divisor x) m_greatest_divisor (fun _ _ _ _ _ _ us hl => match us, hl with | [_, _], _ => rfl)
  have c_is_fraction_T : Callee P w K mg base 3 "is_fraction" ["value"] d_is_fraction_T := callee_of F_is_fraction (ok_is_fraction_T (P := P) (w := w) (base := base) F_is_fraction x c_is_at_least_T c_greatest_divisor_T) m_is_fraction (fun _ _ _ _ _ _ us hl => match us, hl with | [_], _ => rfl)
  have c_is_rule_T : Callee P w K mg base 4 "is_rule" ["value"] d_is_rule_T := callee_of F_is_rule (ok_is_rule_T (P := P) (w := w) (base := base) F_is_rule x c_is_fraction_T c_is_at_least_T) m_is_rule (fun _ _ _ _ _ _ us hl => match us, hl with | [_], _ => rfl)
  have ck_is_rule_T_0_value : CalleeK P w K mg base 4 "is_rule" ["value"] ["value"] 0 [0] d_is_rule_T := calleeK_of F_is_rule (ok_is_rule_T (P := P) (w := w) (base := base) F_is_rule x c_is_fraction_T c_is_at_least_T) m_is_rule (fun _ _ _ _ _ _ us ws h1 h2 => match us, ws, h1, h2 with | [], [_], _, _ => rfl)
  have c__law_same_T : Callee P w K mg base 6 "_law_same" ["_law_found", "_law_due"] d__law_same_T := callee_of F__law_same (ok__law_same_T (P := P) (w := w) (base := base) F__law_same x m__law_same) m__law_same (fun _ _ _ _ _ _ us hl => match us, hl with | [_, _], _ => rfl)
  have c__law_no_rule_T : Callee P w K mg base 2 "_law_no_rule" ["_law_case_here", "_law_rule_here"] d__law_no_rule_T := callee_of F__law_no_rule (ok__law_no_rule_T (P := P) (w := w) (base := base) F__law_no_rule x c__law_take_T) m__law_no_rule (fun _ _ _ _ _ _ us hl => match us, hl with | [_, _], _ => rfl)
  have c__law_is_whole_T : Callee P w K mg base 1 "_law_is_whole" ["_law_thing", "_law_least"] d__law_is_whole_T := callee_of F__law_is_whole (ok__law_is_whole_T (P := P) (w := w) (base := base) F__law_is_whole x) m__law_is_whole (fun _ _ _ _ _ _ us hl => match us, hl with | [_, _], _ => rfl)
  have c__law_is_rule_T : Callee P w K mg base 2 "_law_is_rule" ["_law_thing"] d__law_is_rule_T := callee_of F__law_is_rule (ok__law_is_rule_T (P := P) (w := w) (base := base) F__law_is_rule x c__law_is_whole_T c__law_common_T) m__law_is_rule (fun _ _ _ _ _ _ us hl => match us, hl with | [_], _ => rfl)
  have c__law_requests_T : Callee P w K mg base 2 "_law_requests" ["_law_case_here", "_law_many_here", "_law_gap_here", "_law_cost_here"] d__law_requests_T := callee_of F__law_requests (ok__law_requests_T (P := P) (w := w) (base := base) F__law_requests x c__law_take_T) m__law_requests (fun _ _ _ _ _ _ us hl => match us, hl with | [_, _, _, _], _ => rfl)
  have c__law_draws_T : Callee P w K mg base 3 "_law_draws" ["_law_case_here", "_law_many_here", "_law_great"] d__law_draws_T := callee_of F__law_draws (ok__law_draws_T (P := P) (w := w) (base := base) F__law_draws x c__law_take_T c__law_requests_T) m__law_draws (fun _ _ _ _ _ _ us hl => match us, hl with | [_, _, _], _ => rfl)
  have c_is_request_T : Callee P w K mg base 3 "is_request" ["value"] d_is_request_T := callee_of F_is_request (ok_is_request_T (P := P) (w := w) (base := base) F_is_request x c_is_at_least_T) m_is_request (fun _ _ _ _ _ _ us hl => match us, hl with | [_], _ => rfl)
  have c_is_entry_T : Callee P w K mg base 4 "is_entry" ["value"] d_is_entry_T := callee_of F_is_entry (ok_is_entry_T (P := P) (w := w) (base := base) F_is_entry x c_is_request_T) m_is_entry (fun _ _ _ _ _ _ us hl => match us, hl with | [_], _ => rfl)
  have c_is_rising_T : Callee P w K mg base 1 "is_rising" ["rows"] d_is_rising_T := callee_of F_is_rising (ok_is_rising_T (P := P) (w := w) (base := base) F_is_rising x) m_is_rising (fun _ _ _ _ _ _ us hl => match us, hl with | [_], _ => rfl)
  have c_is_log_T : Callee P w K mg base 5 "is_log" ["value"] d_is_log_T := callee_of F_is_log (ok_is_log_T (P := P) (w := w) (base := base) F_is_log x c_is_entry_T c_is_rising_T) m_is_log (fun _ _ _ _ _ _ us hl => match us, hl with | [_], _ => rfl)
  have ck_is_log_T_0_value : CalleeK P w K mg base 5 "is_log" ["value"] ["value"] 0 [0] d_is_log_T := calleeK_of F_is_log (ok_is_log_T (P := P) (w := w) (base := base) F_is_log x c_is_entry_T c_is_rising_T) m_is_log (fun _ _ _ _ _ _ us ws h1 h2 => match us, ws, h1, h2 with | [], [_], _, _ => rfl)
  have c_is_row_T : Callee P w K mg base 4 "is_row" ["value"] d_is_row_T := callee_of F_is_row (ok_is_row_T (P := P) (w := w) (base := base) F_is_row x c_is_request_T c_is_rising_T) m_is_row (fun _ _ _ _ _ _ us hl => match us, hl with | [_], _ => rfl)
  have ck_is_row_T_0_value : CalleeK P w K mg base 4 "is_row" ["value"] ["value"] 0 [0] d_is_row_T := calleeK_of F_is_row (ok_is_row_T (P := P) (w := w) (base := base) F_is_row x c_is_request_T c_is_rising_T) m_is_row (fun _ _ _ _ _ _ us ws h1 h2 => match us, ws, h1, h2 with | [], [_], _, _ => rfl)
  have c__law_no_log_T : Callee P w K mg base 2 "_law_no_log" ["_law_case_here", "_law_log_here"] d__law_no_log_T := callee_of F__law_no_log (ok__law_no_log_T (P := P) (w := w) (base := base) F__law_no_log x c__law_take_T) m__law_no_log (fun _ _ _ _ _ _ us hl => match us, hl with | [_, _], _ => rfl)
  have c__law_is_log_T : Callee P w K mg base 2 "_law_is_log" ["_law_thing", "_law_size"] d__law_is_log_T := callee_of F__law_is_log (ok__law_is_log_T (P := P) (w := w) (base := base) F__law_is_log x c__law_is_whole_T) m__law_is_log (fun _ _ _ _ _ _ us hl => match us, hl with | [_, _], _ => rfl)
  have c__law_no_row_T : Callee P w K mg base 2 "_law_no_row" ["_law_case_here", "_law_row_here"] d__law_no_row_T := callee_of F__law_no_row (ok__law_no_row_T (P := P) (w := w) (base := base) F__law_no_row x c__law_take_T) m__law_no_row (fun _ _ _ _ _ _ us hl => match us, hl with | [_, _], _ => rfl)
  have c_check_kind_T : Callee P w K mg base 1 "check_kind" ["kind", "kinds"] d_check_kind_T := callee_of F_check_kind (ok_check_kind_T (P := P) (w := w) (base := base) F_check_kind x) m_check_kind (fun _ _ _ _ _ _ us hl => match us, hl with | [_, _], _ => rfl)
  have c_check_log_T : Callee P w K mg base 6 "check_log" ["log"] d_check_log_T := callee_of F_check_log (ok_check_log_T (P := P) (w := w) (base := base) F_check_log x c_is_log_T) m_check_log (fun _ _ _ _ _ _ us hl => match us, hl with | [_], _ => rfl)
  have cs_Heard___init___T : CalleeCS P w K mg base 7 "Heard" (He.ga K "Heard") (packD 2 (d_Heard___init___T (He.ga K))) := ⟨_, ok_Heard___init___T (P := P) (w := w) (base := base) F_Heard___init__ x c_check_kind_T c_check_log_T, m_Heard, He.mkr_ok (c.fact 55 (f := .mkr "Heard") rfl)⟩
  have c_check_rule_T : Callee P w K mg base 5 "check_rule" ["rule"] d_check_rule_T := callee_of F_check_rule (ok_check_rule_T (P := P) (w := w) (base := base) F_check_rule x c_is_rule_T) m_check_rule (fun _ _ _ _ _ _ us hl => match us, hl with | [_], _ => rfl)
  have cc_Door___init___T : CalleeC P w K mg base 6 "Door" (He.ga K "Door") ["self", "rule"] (d_Door___init___T (He.ga K)) := calleeC_of F_Door___init__ (ok_Door___init___T (P := P) (w := w) (base := base) F_Door___init__ x c_check_rule_T) m_Door (He.mkr_ok (c.fact 54 (f := .mkr "Door") rfl)) (fun _ _ _ _ _ _ us hl => match us, hl with | [_, _], _ => rfl)
  exact ok_law_T (P := P) (w := w) (base := base) F_law x c__law_case_N c__law_take_T c__law_rule_T c_is_rule_T c__law_same_T c__law_no_rule_T c__law_is_rule_T c__law_draws_T c_is_log_T c_is_row_T c__law_no_log_T c__law_is_log_T c__law_no_row_T ck_is_rule_T_0_value ck_is_log_T_0_value ck_is_row_T_0_value cs_Heard___init___T cc_Door___init___T
end LW
namespace LW
open PySem PySem.W PySem.Calls PyProof.Rows L2 LH
theorem holds_of (law : ∀ (c : Str → Addr) (ns : List Int), ns.length ≤ 63 → ∃ S, d_law_T c [.ro (ns.map .int)] [] = .ok (.bl true) S) : PySem.Challenge.rw_limiterheard_k01_rules_and_logs_judged.Holds := by
  w_on; o_law
  refine HandSHeadRun.head_any (r := OpenLaw.row PySem.Challenge.rw_limiterheard_k01_rules_and_logs_judged) (q := view (OpenLaw.row PySem.Challenge.rw_limiterheard_k01_rules_and_logs_judged).prog [133]) (H := hk) (ob := ob) (M := 40000) (loose := loose) (d := HandSHeadRun.topDef (OpenLaw.row PySem.Challenge.rw_limiterheard_k01_rules_and_logs_judged).prog 133) (kwd := []) ob_eq
    (by kernel_rfl) (fun s => by kernel_rfl) run (by kernel_rfl) (by kernel_rfl) (by kernel_rfl) (by rfl) (by first | assumption | decide +kernel) (by decide +kernel) ⟨rfl, rfl, rfl, rfl, rfl, by decide +kernel⟩ ?hw ?hc
  case hw => w_witness2
  case hc =>
    refine LH.walk_ownC (l := PySem.Challenge.rw_limiterheard_k01_rules_and_logs_judged) (n := 63) (k := 9) (x := "_law_script") (f := d_law_T) rfl (by decide) (by kernel_rfl) ⟨rfl, by decide, by decide⟩ ?F law
    intro w mg fa h Y G hmg0
    obtain ⟨K, KX, c, ce⟩ := Y
    have hmg : mg ("law" : PySem.Str) = some (.ref fa) := by
      have e : (HandSHeadRun.topDef (OpenLaw.row PySem.Challenge.rw_limiterheard_k01_rules_and_logs_judged).prog 133).name = ("law" : PySem.Str) := by kernel_rfl
      rw [← e]
      exact hmg0
    obtain ⟨fd, hb, hF⟩ := facts (P := (PySem.Challenge.rw_limiterheard_k01_rules_and_logs_judged).prog) (w := w) KX G hmg c ce
    exact ⟨K, fd, KX, hb, hF⟩

end LW

/-! PA: the combinators as rewriting rules; loops by invariants. -/
namespace LH
open PySem PySem.Spec PyProof.Rows L2
section
variable {α β : Type} {env e1 : PEnv} {S S1 : Sto} {a b : ExprD} {t u : TestD} {r : ArgsD} {p q : StmtD} {d x y : PV} {xs ys : List PV}
@[simp] theorem bind_ok (a : α) (S : Sto) (g : α → Sto → Res β) : (Res.ok a S).bind g = g a S := (rfl)
@[simp] theorem vE_s (i : Nat) : vE i env S = (match env[i]? with | some (some d) => .ok d S | _ => .stuck) := (rfl)
@[simp] theorem cE_s : cE d env S = .ok d S := (rfl)
def binK (g : PV → PV → Sto → Res PV) (b : ExprD) (env : PEnv) (x : PV) (S : Sto) : Res PV := (b env S).bind (g x)
@[simp] theorem binK_s (g : PV → PV → Sto → Res PV) : binK g b env x S = (b env S).bind (g x) := (rfl)
@[simp] theorem binE_s (g : PV → PV → Sto → Res PV) : binE g a b env S = (a env S).bind (binK g b env) := (rfl)
@[simp] theorem unE_s (g : PV → Sto → Res PV) : unE g a env S = (a env S).bind g := (rfl)
@[simp] theorem bE_s (g : List PV → Sto → Res PV) : bE g r env S = (r env S).bind g := (rfl)
@[simp] theorem callE_s (f : FnDen) : callE f r env S = (r env S).bind f := (rfl)
def kwK (f : FnDen) (pm : List Nat) (ka : ArgsD) (env : PEnv) (xs : List PV) (S : Sto) : Res PV := (ka env S).bind fun zs S2 => f (permG pm xs zs) S2
def kwK2 (f : FnDen) (pm : List Nat) (xs : List PV) (zs : List PV) (S : Sto) : Res PV := f (permG pm xs zs) S
@[simp] theorem callKE_s (f : FnDen) (pm : List Nat) (ka : ArgsD) : callKE f pm r ka env S = (r env S).bind (kwK f pm ka env) := (rfl)
@[simp] theorem kwK_s (f : FnDen) (pm : List Nat) (ka : ArgsD) : kwK f pm ka env xs S = (ka env S).bind (kwK2 f pm xs) := (rfl)
@[simp] theorem kwK2_s (f : FnDen) (pm : List Nat) : kwK2 f pm xs ys S = f (permG pm xs ys) S := (rfl)
@[simp] theorem nilA_s : nilA env S = .ok [] S := (rfl)
def consK (r : ArgsD) (env : PEnv) (x : PV) (S : Sto) : Res (List PV) := (r env S).bind fun xs S2 => .ok (x :: xs) S2
def consK2 (x : PV) (xs : List PV) (S : Sto) : Res (List PV) := .ok (x :: xs) S
@[simp] theorem consA_s : consA a r env S = (a env S).bind (consK r env) := (rfl)
@[simp] theorem consK_s : consK r env x S = (r env S).bind (consK2 x) := (rfl)
@[simp] theorem consK2_s : consK2 x xs S = .ok (x :: xs) S := (rfl)
def listK (xs : List PV) (S : Sto) : Res PV := if xs.length ≤ sizeLine then .ok (.lst xs) S else .stuck
def tupK (xs : List PV) (S : Sto) : Res PV := if xs.length ≤ sizeLine then .ok (.tup xs) S else .stuck
def cellK (xs : List PV) (S : Sto) : Res PV := if xs.length ≤ sizeLine ∧ bels 0 xs = true then .ok (.cell S.length) (S ++ [.lst xs]) else .stuck
@[simp] theorem listE_s : listE r env S = (r env S).bind listK := (rfl)
@[simp] theorem tupE_s : tupE r env S = (r env S).bind tupK := (rfl)
@[simp] theorem cellE_s : cellE r env S = (r env S).bind cellK := (rfl)
theorem listK_ok (h : xs.length ≤ 1000) : listK xs S = .ok (.lst xs) S := if_pos (by rw [sizeLine_eq]; omega)
theorem tupK_ok (h : xs.length ≤ 1000) : tupK xs S = .ok (.tup xs) S := if_pos (by rw [sizeLine_eq]; omega)
theorem cellK_ok (h : xs.length ≤ 1000) (hb : bels 0 xs = true) : cellK xs S = .ok (.cell S.length) (S ++ [.lst xs]) := if_pos ⟨by rw [sizeLine_eq]; omega, hb⟩
@[simp] theorem cellK0 : cellK [] S = .ok (.cell S.length) (S ++ [.lst []]) := cellK_ok (by simp) rfl
@[simp] theorem listK0 : listK [] S = .ok (.lst []) S := listK_ok (by simp)
@[simp] theorem listK1 {a : PV} : listK [a] S = .ok (.lst [a]) S := listK_ok (by simp)
@[simp] theorem listK2 {a b : PV} : listK [a, b] S = .ok (.lst [a, b]) S := listK_ok (by simp)
@[simp] theorem listK3 {a b c : PV} : listK [a, b, c] S = .ok (.lst [a, b, c]) S := listK_ok (by simp)
@[simp] theorem listK4 {a b c d : PV} : listK [a, b, c, d] S = .ok (.lst [a, b, c, d]) S := listK_ok (by simp)
@[simp] theorem listK5 {a b c d e : PV} : listK [a, b, c, d, e] S = .ok (.lst [a, b, c, d, e]) S := listK_ok (by simp)
@[simp] theorem tupK0 : tupK [] S = .ok (.tup []) S := tupK_ok (by simp)
@[simp] theorem tupK1 {a : PV} : tupK [a] S = .ok (.tup [a]) S := tupK_ok (by simp)
@[simp] theorem tupK2 {a b : PV} : tupK [a, b] S = .ok (.tup [a, b]) S := tupK_ok (by simp)
@[simp] theorem tupK3 {a b c : PV} : tupK [a, b, c] S = .ok (.tup [a, b, c]) S := tupK_ok (by simp)
@[simp] theorem tupK4 {a b c d : PV} : tupK [a, b, c, d] S = .ok (.tup [a, b, c, d]) S := tupK_ok (by simp)
@[simp] theorem tupK5 {a b c d e : PV} : tupK [a, b, c, d, e] S = .ok (.tup [a, b, c, d, e]) S := tupK_ok (by simp)
@[simp] theorem boolOf_s (b : Bool) : boolOf (.bl b) S = .ok b S := (rfl)
@[simp] theorem tstE_s : tstE a env S = (a env S).bind boolOf := (rfl)
def notK (b : Bool) (S : Sto) : Res Bool := .ok (!b) S
@[simp] theorem notK_s (b : Bool) : notK b S = .ok (!b) S := (rfl)
@[simp] theorem notT_s : notT t env S = (t env S).bind notK := (rfl)
def andK (u : TestD) (env : PEnv) (c : Bool) (S : Sto) : Res Bool := if c = true then u env S else .ok false S
def orK (u : TestD) (env : PEnv) (c : Bool) (S : Sto) : Res Bool := if c = true then .ok true S else u env S
@[simp] theorem andK_s (c : Bool) : andK u env c S = if c = true then u env S else .ok false S := (rfl)
@[simp] theorem orK_s (c : Bool) : orK u env c S = if c = true then .ok true S else u env S := (rfl)
@[simp] theorem andT_s : andT t u env S = (t env S).bind (andK u env) := (rfl)
@[simp] theorem orT_s : orT t u env S = (t env S).bind (orK u env) := (rfl)
def andEK2 (b : ExprD) (env : PEnv) (c : Bool) (S : Sto) : Res PV := if c = true then b env S else .ok (.bl false) S
def orEK2 (b : ExprD) (env : PEnv) (c : Bool) (S : Sto) : Res PV := if c = true then .ok (.bl true) S else b env S
def andEK (b : ExprD) (env : PEnv) (x : PV) (S : Sto) : Res PV := (boolOf x S).bind (andEK2 b env)
def orEK (b : ExprD) (env : PEnv) (x : PV) (S : Sto) : Res PV := (boolOf x S).bind (orEK2 b env)
@[simp] theorem andEK2_s (c : Bool) : andEK2 b env c S = if c = true then b env S else .ok (.bl false) S := (rfl)
@[simp] theorem orEK2_s (c : Bool) : orEK2 b env c S = if c = true then .ok (.bl true) S else b env S := (rfl)
@[simp] theorem andEK_s : andEK b env x S = (boolOf x S).bind (andEK2 b env) := (rfl)
@[simp] theorem orEK_s : orEK b env x S = (boolOf x S).bind (orEK2 b env) := (rfl)
@[simp] theorem andE_s : andE a b env S = (a env S).bind (andEK b env) := (rfl)
@[simp] theorem orE_s : orE a b env S = (a env S).bind (orEK b env) := (rfl)
def notEK (x : PV) (S : Sto) : Res PV := (boolOf x S).bind fun c S2 => .ok (.bl (!c)) S2
@[simp] theorem notEK_s (c : Bool) : notEK (.bl c) S = .ok (.bl (!c)) S := (rfl)
@[simp] theorem notE_s : notE a env S = (a env S).bind notEK := (rfl)
def iteK (a b : ExprD) (env : PEnv) (c : Bool) (S : Sto) : Res PV := if c = true then a env S else b env S
@[simp] theorem iteK_s (c : Bool) : iteK a b env c S = if c = true then a env S else b env S := (rfl)
@[simp] theorem iteE_s : iteE t a b env S = (t env S).bind (iteK a b env) := (rfl)
/-! statements -/
@[simp] theorem skipS_s : skipS env S = .ok (.nx env) S := (rfl)
@[simp] theorem brkS_s : brkS env S = .ok (.bk env) S := (rfl)
@[simp] theorem cntS_s : cntS env S = .ok (.ct env) S := (rfl)
@[simp] theorem runE_s (g : PV → Sto → Res Flow) : runE (.ok d S) env g = g d S := (rfl)
@[simp] theorem runT_s (c : Bool) (g : Bool → Sto → Res Flow) : runT (.ok c S) env g = g c S := (rfl)
@[simp] theorem runA_s (g : List PV → Sto → Res Flow) : runA (.ok xs S) env g = g xs S := (rfl)
@[simp] theorem runI_s (z : Option Nat × List PV) (g : Option Nat × List PV → Sto → Res Flow) : runI (.ok z S) env g = g z S := (rfl)
def retK (d : PV) (S : Sto) : Res Flow := .ok (.rt d) S
@[simp] theorem retK_s : retK d S = .ok (.rt d) S := (rfl)
@[simp] theorem retS_s : retS a env S = runE (a env S) env retK := (rfl)
def exprK (env : PEnv) (d : PV) (S : Sto) : Res Flow := .ok (.nx env) S
@[simp] theorem exprK_s : exprK env d S = .ok (.nx env) S := (rfl)
@[simp] theorem exprS_s : exprS a env S = runE (a env S) env (exprK env) := (rfl)
def asgK (t : Tg) (env : PEnv) (d : PV) (S : Sto) : Res Flow := match t.bind S d env with
  | some env' => .ok (.nx env') S
  | none => .stuck
@[simp] theorem asgS_s (t : Tg) : asgS t a env S = runE (a env S) env (asgK t env) := (rfl)
@[simp] theorem asgK_nm (i : Nat) : asgK (.nm i) env d S = .ok (.nx (env.set i (some d))) S := by simp [asgK, Tg.bind]
@[simp] theorem asgK_tp (ts : List Tg) : asgK (.tp ts) env d S = (match Tg.bind S (.tp ts) d env with | some env' => .ok (.nx env') S | none => .stuck) := (rfl)
@[simp] theorem bind_nm (i : Nat) : Tg.bind S (.nm i) d env = some (env.set i (some d)) := by simp [Tg.bind]
@[simp] theorem bind_tup (ts : List Tg) : Tg.bind S (.tp ts) (.tup xs) env = Tg.binds S ts xs env := by simp [Tg.bind]
@[simp] theorem bind_lst (ts : List Tg) : Tg.bind S (.tp ts) (.lst xs) env = Tg.binds S ts xs env := by simp [Tg.bind]
@[simp] theorem binds_nil : Tg.binds S [] [] env = some env := by simp [Tg.binds]
@[simp] theorem binds_cons (t : Tg) (ts : List Tg) : Tg.binds S (t :: ts) (d :: xs) env = (Tg.bind S t d env).bind fun e => Tg.binds S ts xs e := by simp [Tg.binds]
def par2K (i j : Nat) (env : PEnv) (ds : List PV) (S : Sto) : Res Flow := match ds with
  | [a, b] => .ok (.nx ((env.set i (some a)).set j (some b))) S
  | _ => .stuck
def par3K (i j l : Nat) (env : PEnv) (ds : List PV) (S : Sto) : Res Flow := match ds with
  | [a, b, c] => .ok (.nx (((env.set i (some a)).set j (some b)).set l (some c))) S
  | _ => .stuck
@[simp] theorem par2S_s (i j : Nat) : par2S i j r env S = runA (r env S) env (par2K i j env) := (rfl)
@[simp] theorem par3S_s (i j l : Nat) : par3S i j l r env S = runA (r env S) env (par3K i j l env) := (rfl)
@[simp] theorem par2K_s (i j : Nat) {a b : PV} : par2K i j env [a, b] S = .ok (.nx ((env.set i (some a)).set j (some b))) S := (rfl)
@[simp] theorem par3K_s (i j l : Nat) {a b c : PV} : par3K i j l env [a, b, c] S = .ok (.nx (((env.set i (some a)).set j (some b)).set l (some c))) S := (rfl)
def seqK (q : StmtD) : Res Flow → Res Flow
  | .ok (.nx e) S => q e S
  | z => z
@[simp] theorem seqK_nx {e : PEnv} : seqK q (.ok (.nx e) S) = q e S := (rfl)
@[simp] theorem seqK_rt : seqK q (.ok (.rt d) S) = .ok (.rt d) S := (rfl)
@[simp] theorem seqK_bk {e : PEnv} : seqK q (.ok (.bk e) S) = .ok (.bk e) S := (rfl)
@[simp] theorem seqK_ct {e : PEnv} : seqK q (.ok (.ct e) S) = .ok (.ct e) S := (rfl)
@[simp] theorem seqS_s : seqS p q env S = seqK q (p env S) := (rfl)
def ifK (p q : StmtD) (env : PEnv) (c : Bool) (S : Sto) : Res Flow := if c = true then p env S else q env S
@[simp] theorem ifK_s (c : Bool) : ifK p q env c S = if c = true then p env S else q env S := (rfl)
@[simp] theorem ifS_s : ifS t p q env S = runT (t env S) env (ifK p q env) := (rfl)
def fnK : Res Flow → Res PV
  | .ok (.nx _) S1 => .ok .non S1
  | .ok (.rt d) S1 => .ok d S1
  | .ok (.ex x _) S1 => .exc x S1
  | _ => .stuck
@[simp] theorem fnK_nx {e : PEnv} : fnK (.ok (.nx e) S) = .ok .non S := (rfl)
@[simp] theorem fnK_rt : fnK (.ok (.rt d) S) = .ok d S := (rfl)
@[simp] theorem fnD1 {nn : Nat} {a : PV} : fnD 1 nn p [a] S = fnK (p (some a :: List.replicate (nn - 1) none) S) := (rfl)
@[simp] theorem fnD2 {nn : Nat} {a b : PV} : fnD 2 nn p [a, b] S = fnK (p (some a :: some b :: List.replicate (nn - 2) none) S) := (rfl)
@[simp] theorem fnD3 {nn : Nat} {a b c : PV} : fnD 3 nn p [a, b, c] S = fnK (p (some a :: some b :: some c :: List.replicate (nn - 3) none) S) := (rfl)
@[simp] theorem fnD4 {nn : Nat} {a b c d : PV} : fnD 4 nn p [a, b, c, d] S = fnK (p (some a :: some b :: some c :: some d :: List.replicate (nn - 4) none) S) := (rfl)
@[simp] theorem fnD5 {nn : Nat} {a b c d e : PV} : fnD 5 nn p [a, b, c, d, e] S = fnK (p (some a :: some b :: some c :: some d :: some e :: List.replicate (nn - 5) none) S) := (rfl)
@[simp] theorem fnD6 {nn : Nat} {a b c d e f : PV} : fnD 6 nn p [a, b, c, d, e, f] S = fnK (p (some a :: some b :: some c :: some d :: some e :: some f :: List.replicate (nn - 6) none) S) := (rfl)
@[simp] theorem rep0 : List.replicate 0 (none : Option PV) = [] := (rfl)
@[simp] theorem rep1 : List.replicate 1 (none : Option PV) = [none] := (rfl)
@[simp] theorem rep2 : List.replicate 2 (none : Option PV) = [none, none] := (rfl)
@[simp] theorem rep3 : List.replicate 3 (none : Option PV) = [none, none, none] := (rfl)
@[simp] theorem rep4 : List.replicate 4 (none : Option PV) = [none, none, none, none] := (rfl)
@[simp] theorem rep5 : List.replicate 5 (none : Option PV) = [none, none, none, none, none] := (rfl)
@[simp] theorem rep6 : List.replicate 6 (none : Option PV) = [none, none, none, none, none, none] := (rfl)
@[simp] theorem rep7 : List.replicate 7 (none : Option PV) = [none, none, none, none, none, none, none] := (rfl)
@[simp] theorem rep8 : List.replicate 8 (none : Option PV) = [none, none, none, none, none, none, none, none] := (rfl)
def exTK (n : Nat) : Res PV → Res PV
  | .ok d S' => match d with
    | .cell k => if k < n then .ok (.cell k) (S'.take n) else (match S'[k]? with
      | some (.lst xs) => .ok (.lst xs) (S'.take n)
      | _ => .stuck)
    | d => if bel n d = true then .ok d (S'.take n) else .stuck
  | .exc x S' => if x.fields.isEmpty = true then .exc x (S'.take n) else .stuck
  | .stuck => .stuck
def exNK (n : Nat) : Res PV → Res PV
  | .ok (.cell k) S' => if k < n then .ok (.cell k) (S'.take n) else (match S'[k]? with
      | some (.lst xs) => .ok (.cell n) (S'.take n ++ [.lst xs])
      | _ => .stuck)
  | .exc x S' => if x.fields.isEmpty = true then .exc x (S'.take n) else .stuck
  | _ => .stuck
theorem exitT_s (f : FnDen) : exitT f xs S = exTK S.length (f xs S) := by
  unfold exitT exTK; rfl
theorem exitN_s (f : FnDen) : exitN f xs S = exNK S.length (f xs S) := by
  unfold exitN exNK
  cases f xs S with
  | ok d S' => cases d <;> rfl
  | exc x S' => rfl
  | stuck => rfl
theorem exTK_val {n : Nat} (hd : ∀ k, d ≠ .cell k) (hb : bel n d = true) : exTK n (.ok d S1) = .ok d (S1.take n) := by
  unfold exTK
  cases d with
  | cell k => exact absurd rfl (hd k)
  | _ => exact if_pos hb
@[simp] theorem exTK_tup {n : Nat} (hb : bels n xs = true) : exTK n (.ok (.tup xs) S1) = .ok (.tup xs) (S1.take n) := if_pos (by simpa [bel] using hb)
@[simp] theorem exTK_bl {n : Nat} {b : Bool} : exTK n (.ok (.bl b) S1) = .ok (.bl b) (S1.take n) := by simp [exTK, bel]
@[simp] theorem exTK_int {n : Nat} {b : Int} : exTK n (.ok (.int b) S1) = .ok (.int b) (S1.take n) := by simp [exTK, bel]
theorem exNK_cell {n k : Nat} (h : ¬ k < n) (e : S1[k]? = some (.lst xs)) : exNK n (.ok (.cell k) S1) = .ok (.cell n) (S1.take n ++ [.lst xs]) := by
  show (if k < n then _ else _) = _
  rw [if_neg h, e]
/-! values -/
@[simp] theorem addV_i (i j : Int) : addV (.int i) (.int j) S = .ok (.int (i + j)) S := (rfl)
@[simp] theorem subV_i (i j : Int) : subV (.int i) (.int j) S = .ok (.int (i - j)) S := (rfl)
@[simp] theorem negV_i (i : Int) : negV (.int i) S = .ok (.int (-i)) S := (rfl)
theorem mulV_i (i j : Int) (h : mulC i j) : mulV (.int i) (.int j) S = .ok (.int (i * j)) S := if_pos h
theorem fdivV_i (i j : Int) (h : divC i j) : fdivV (.int i) (.int j) S = .ok (.int (i / j)) S := if_pos h
theorem modV_i (i j : Int) (h : 0 < j) : modV (.int i) (.int j) S = .ok (.int (i % j)) S := if_pos h
theorem powV_i (i j : Int) (h : powC i j) : powV (.int i) (.int j) S = .ok (.int (i ^ j.toNat)) S := if_pos h
theorem log2_of {n k : Nat} (h : n < 2 ^ k) : n.log2 ≤ k := by
  by_cases hn : n = 0
  · subst hn; simp
  · exact Nat.le_of_lt ((Nat.log2_lt hn).mpr h)
theorem mulC_of {i j : Int} (hi : i.natAbs < 2 ^ 1000) (hj : j.natAbs < 2 ^ 1000) : mulC i j := by
  have h1 := log2_of hi
  have h2 := log2_of hj
  show _ + _ < _
  omega
theorem divC_of {i j : Int} (hj : 0 < j) (h : j.natAbs < 2 ^ 1000) : divC i j := ⟨hj, .inl (by have := log2_of h; omega)⟩
theorem powC_of {i j : Int} (hi : i.natAbs < 2 ^ 1000) (h0 : 0 ≤ j) (h : j ≤ 1000) : powC i j := ⟨h0, h, by have := log2_of hi; omega⟩
@[simp] theorem ltV_i (i j : Int) : ltV (.int i) (.int j) S = .ok (.bl (decide (i < j))) S := (rfl)
@[simp] theorem leV_i (i j : Int) : leV (.int i) (.int j) S = .ok (.bl (decide (i ≤ j))) S := (rfl)
@[simp] theorem gtV_i (i j : Int) : gtV (.int i) (.int j) S = .ok (.bl (decide (j < i))) S := (rfl)
@[simp] theorem geV_i (i j : Int) : geV (.int i) (.int j) S = .ok (.bl (decide (j ≤ i))) S := (rfl)
@[simp] theorem eqV_i (i j : Int) : eqV (.int i) (.int j) S = .ok (.bl (i == j)) S := by simp [eqV, topV, chk, peq, feq]
@[simp] theorem neV_i (i j : Int) : neV (.int i) (.int j) S = .ok (.bl (!(i == j))) S := by simp [neV, topV, chk, peq, feq]
@[simp] theorem eqV_b (i j : Bool) : eqV (.bl i) (.bl j) S = .ok (.bl (i == j)) S := by simp [eqV, topV, chk, peq, feq]
@[simp] theorem neV_b (i j : Bool) : neV (.bl i) (.bl j) S = .ok (.bl (!(i == j))) S := by simp [neV, topV, chk, peq, feq]
theorem eqV_strL {a b : Str} {z : Bool} (ha : a.cps.all (· < 0x110000) = true) (hb : b.cps.all (· < 0x110000) = true) (hr : (a == b) = z) : eqV (.str a) (.str b) S = .ok (.bl z) S := by
  unfold eqV
  rw [if_pos ⟨by simpa [topV, chk] using ha, by simpa [topV, chk] using hb⟩]
  simp [topV, peq, feq, ← hr]
theorem eqV_of (h1 : chk 60 (topV S x) = true) (h2 : chk 60 (topV S y) = true) : eqV x y S = .ok (.bl (peq (topV S x) (topV S y))) S := if_pos ⟨h1, h2⟩
theorem neV_of (h1 : chk 60 (topV S x) = true) (h2 : chk 60 (topV S y) = true) : neV x y S = .ok (.bl (!peq (topV S x) (topV S y))) S := if_pos ⟨h1, h2⟩
theorem itemV_of {i : Int} (h : seqOf S x = some xs) (hd : ((ixP xs.length i).bind fun j => xs[j]?) = some d) : itemV x (.int i) S = .ok d S := by
  unfold itemV
  simp only [h, hd]
@[simp] theorem seqOf_tup : seqOf S (.tup xs) = some xs := (rfl)
@[simp] theorem seqOf_lst : seqOf S (.lst xs) = some xs := (rfl)
@[simp] theorem seqOf_ro : seqOf S (.ro xs) = some xs := (rfl)
@[simp] theorem lstOf_lst : lstOf S (.lst xs) = some xs := (rfl)
@[simp] theorem lstOf_ro : lstOf S (.ro xs) = some xs := (rfl)
theorem seqOf_cell {n : Nat} (h : S[n]? = some (.lst xs)) : seqOf S (.cell n) = some xs := by
  show (match S[n]? with | some (.lst xs) => some xs | _ => none) = _
  rw [h]
theorem ix_nat {n i : Nat} (h : i < n) : ixP n (i : Int) = some i := by
  unfold ixP
  rw [if_pos (by omega), if_pos (by omega)]
  simp
theorem ix_int {n : Nat} {i : Int} (h0 : 0 ≤ i) (h : i < n) : ixP n i = some i.toNat := by
  unfold ixP
  rw [if_pos h0, if_pos h]
theorem item_nat {i : Nat} (h : seqOf S x = some xs) (hd : xs[i]? = some d) : itemV x (.int (i : Int)) S = .ok d S := itemV_of h (by
  rw [ix_nat (List.getElem?_eq_some_iff.mp hd).1]; exact hd)
theorem item_int {i : Int} (h0 : 0 ≤ i) (h : seqOf S x = some xs) (hd : xs[i.toNat]? = some d) : itemV x (.int i) S = .ok d S := itemV_of h (by
  rw [ix_int h0 (by have := (List.getElem?_eq_some_iff.mp hd).1; omega)]; exact hd)
theorem item0 {a : PV} {r : List PV} (h : seqOf S x = some (a :: r)) : itemV x (.int 0) S = .ok a S := item_int (by decide) h rfl
theorem item1 {a b : PV} {r : List PV} (h : seqOf S x = some (a :: b :: r)) : itemV x (.int 1) S = .ok b S := item_int (by decide) h rfl
theorem item2 {a b c : PV} {r : List PV} (h : seqOf S x = some (a :: b :: c :: r)) : itemV x (.int 2) S = .ok c S := item_int (by decide) h rfl
@[simp] theorem itup0 {a : PV} {r : List PV} : itemV (.tup (a :: r)) (.int 0) S = .ok a S := item0 rfl
@[simp] theorem itup1 {a b : PV} {r : List PV} : itemV (.tup (a :: b :: r)) (.int 1) S = .ok b S := item1 rfl
@[simp] theorem itup2 {a b c : PV} {r : List PV} : itemV (.tup (a :: b :: c :: r)) (.int 2) S = .ok c S := item2 rfl
theorem lenB_of (h : seqOf S d = some xs) : lenB [d] S = .ok (.int xs.length) S := by
  have hs : ∀ z, d ≠ .str z := fun z e => by subst e; cases h
  unfold lenB
  split
  · rename_i z e; injection e with e _; exact absurd e (hs z)
  · rename_i d' _ e; injection e with e _; subst e; rw [h]
  · rename_i h1 h2; exact absurd rfl (h2 d)
@[simp] theorem lenB_tup : lenB [.tup xs] S = .ok (.int xs.length) S := (rfl)
@[simp] theorem lenB_lst : lenB [.lst xs] S = .ok (.int xs.length) S := (rfl)
@[simp] theorem lenB_ro : lenB [.ro xs] S = .ok (.int xs.length) S := (rfl)
@[simp] theorem intB_i (i : Int) : intB [.int i] S = .ok (.int i) S := (rfl)
@[simp] theorem intB_b (b : Bool) : intB [.bl b] S = .ok (.int (if b then 1 else 0)) S := (rfl)
@[simp] theorem absB_i (i : Int) : absB [.int i] S = .ok (.int (if i < 0 then -i else i)) S := (rfl)
@[simp] theorem boolB_i (i : Int) : boolB [.int i] S = .ok (.bl (i != 0)) S := (rfl)
@[simp] theorem boolB_b (b : Bool) : boolB [.bl b] S = .ok (.bl b) S := (rfl)
@[simp] theorem maxB_i (i j : Int) : maxB [.int i, .int j] S = .ok (.int (if j > i then j else i)) S := (rfl)
@[simp] theorem minB_i (i j : Int) : minB [.int i, .int j] S = .ok (.int (if j < i then j else i)) S := (rfl)
@[simp] theorem listB_tup : listB [.tup xs] S = .ok (.lst xs) S := (rfl)
@[simp] theorem listB_lst : listB [.lst xs] S = .ok (.lst xs) S := (rfl)
@[simp] theorem tupleB_tup : tupleB [.tup xs] S = .ok (.tup xs) S := (rfl)
@[simp] theorem tupleB_lst : tupleB [.lst xs] S = .ok (.tup xs) S := (rfl)
theorem tupleB_of (h : seqOf S d = some xs) : tupleB [d] S = .ok (.tup xs) S := by
  show (match seqOf S d with | some ys => Res.ok (PV.tup ys) S | none => Res.stuck) = _
  rw [h]
theorem isin_v {T : String} {b : Bool} (hc : ∀ n, d ≠ .cell n) (ht : ∀ n, d ≠ .ty n) (h : isaB d T = some b) : isinB [d, .ty T] S = .ok (.bl b) S := by
  cases d with
  | cell n => exact absurd rfl (hc n)
  | ty n => exact absurd rfl (ht n)
  | adr a => cases h
  | opq t =>
    unfold isaB at h
    dsimp only at h
    show (if T = "int" ∨ T = "bool" ∨ T = "str" ∨ T = "tuple" ∨ T = "list" then Res.ok (PV.bl false) S else .stuck) = _
    by_cases h1 : T = "int"
    · subst h1; simp at h; subst h; simp
    by_cases h2 : T = "bool"
    · subst h2; simp at h; subst h; simp
    by_cases h3 : T = "str"
    · subst h3; simp at h; subst h; simp
    by_cases h4 : T = "tuple"
    · subst h4; simp at h; subst h; simp
    by_cases h5 : T = "list"
    · subst h5; simp at h; subst h; simp
    simp [h1, h2, h3, h4, h5] at h
  | _ => unfold isinB; simp only [h]
theorem isin_c {T : String} {b : Bool} {n : Nat} (hs : S[n]? = some (.lst xs)) (h : isaB (.cell n) T = some b) : isinB [.cell n, .ty T] S = .ok (.bl b) S := by
  unfold isinB; simp only [hs, h]
theorem small_abs {i : Int} (h : -(10 ^ 200) < i ∧ i < 10 ^ 200) : i.natAbs < 2 ^ 1000 := by
  have e : (10 : Int) ^ 200 < ((2 ^ 1000 : Nat) : Int) := by decide +kernel
  omega
theorem mulC_le {i j : Int} (hi : -(10 ^ 200) < i ∧ i < 10 ^ 200) (hj : -(10 ^ 200) < j ∧ j < 10 ^ 200) : mulC i j := mulC_of (small_abs hi) (small_abs hj)
theorem divC_le {i j : Int} (hj : 0 < j ∧ j < 10 ^ 200) : divC i j := by
  have : (0 : Int) < 10 ^ 200 := by decide +kernel
  exact divC_of hj.1 (small_abs ⟨by omega, hj.2⟩)
theorem powC_le {i j : Int} (hi : -(10 ^ 200) < i ∧ i < 10 ^ 200) (hj : 0 ≤ j ∧ j ≤ 1000) : powC i j := powC_of (small_abs hi) hj.1 hj.2
@[simp] theorem pw8 : powV (.int 10) (.int 8) S = .ok (.int 100000000) S := powV_i _ _ (powC_le (by decide) (by decide))
@[simp] theorem pw9 : powV (.int 10) (.int 9) S = .ok (.int 1000000000) S := powV_i _ _ (powC_le (by decide) (by decide))
@[simp] theorem pw18 : powV (.int 10) (.int 18) S = .ok (.int 1000000000000000000) S := powV_i _ _ (powC_le (by decide) (by decide))
@[simp] theorem pw37 : powV (.int 10) (.int 37) S = .ok (.int (10 ^ 37)) S := powV_i _ _ (powC_le (by decide) (by decide))
@[simp] theorem pw38 : powV (.int 10) (.int 38) S = .ok (.int (10 ^ 38)) S := powV_i _ _ (powC_le (by decide) (by decide))
@[simp] theorem pw39 : powV (.int 10) (.int 39) S = .ok (.int (10 ^ 39)) S := powV_i _ _ (powC_le (by decide) (by decide))
@[simp] theorem ml98 : mulV (.int 9) (.int 100000000) S = .ok (.int 900000000) S := mulV_i _ _ (mulC_le (by decide) (by decide))
def setK1 (fo fi : ExprD) (env : PEnv) (y : PV) (S : Sto) : Res Flow := runE (fo env S) env fun d S2 => runE (fi env S2) env fun i S3 => match d, i with
  | .cell n, .int i => setC n i y env S3
  | _, _ => .stuck
def setK2 (fi : ExprD) (env : PEnv) (y d : PV) (S : Sto) : Res Flow := runE (fi env S) env fun i S3 => match d, i with
  | .cell n, .int i => setC n i y env S3
  | _, _ => .stuck
def setK3 (env : PEnv) (y d i : PV) (S : Sto) : Res Flow := match d, i with
  | .cell n, .int i => setC n i y env S
  | _, _ => .stuck
@[simp] theorem setS_s {fo fi f : ExprD} : setS fo fi f env S = runE (f env S) env (setK1 fo fi env) := (rfl)
@[simp] theorem setK1_s {fo fi : ExprD} {y : PV} : setK1 fo fi env y S = runE (fo env S) env (setK2 fi env y) := (rfl)
@[simp] theorem setK2_s {fi : ExprD} {y d : PV} : setK2 fi env y d S = runE (fi env S) env (setK3 env y d) := (rfl)
@[simp] theorem setK3_s {n : Nat} {i : Int} {y : PV} : setK3 env y (.cell n) (.int i) S = setC n i y env S := (rfl)
theorem setC_of {n : Nat} {i : Int} {y : PV} {j : Nat} (h4 : S[n]? = some (.lst xs)) (hi : ixP xs.length i = some j) (hb : bel 0 y = true) : setC n i y env S = .ok (.nx env) (S.set n (.lst (xs.set j y))) := by
  unfold setC
  rw [h4]
  simp only [hi]
  rw [if_pos hb]
theorem set3_0 {n : Nat} {a b c : PV} {y : Int} (h4 : S[n]? = some (.lst [a, b, c])) : setC n 0 (.int y) env S = .ok (.nx env) (S.set n (.lst [.int y, b, c])) := setC_of (j := 0) h4 rfl rfl
theorem set3_2 {n : Nat} {a b c : PV} {y : Int} (h4 : S[n]? = some (.lst [a, b, c])) : setC n 2 (.int y) env S = .ok (.nx env) (S.set n (.lst [a, b, .int y])) := setC_of (j := 2) h4 rfl rfl
def appG (n : Nat) (f : ExprD) (env : PEnv) (S : Sto) : Res PV := match S[n]? with
  | some (.lst _) => (f env S).bind (pushC n)
  | _ => .stuck
def appK (f : ExprD) (env : PEnv) (d : PV) (S1 : Sto) : Res PV := match d with
  | .cell n => appG n f env S1
  | _ => .stuck
@[simp] theorem appE_s {fo f : ExprD} : appE fo f env S = (fo env S).bind (appK f env) := (rfl)
@[simp] theorem appK_s {n : Nat} {f : ExprD} : appK f env (.cell n) S = appG n f env S := (rfl)
theorem appG_of {n : Nat} {f : ExprD} (h : S[n]? = some (.lst xs)) : appG n f env S = (f env S).bind (pushC n) := by
  unfold appG; rw [h]
theorem pushC_of {n : Nat} {y : PV} (h : S[n]? = some (.lst xs)) (hz : xs.length < 1000) (hb : bel 0 y = true) : pushC n y S = .ok .non (S.set n (.lst (xs ++ [y]))) := by
  unfold pushC
  rw [h]
  simp only
  rw [if_pos ⟨by rw [sizeLine_eq]; omega, hb⟩]
/-! the rest of slices -/
def slK (l h : PartD) (env : PEnv) (x : PV) (S : Sto) : Res PV := (l env S).bind fun lo S2 => (h env S2).bind fun hi S3 => sliceV x lo hi S3
def slK2 (h : PartD) (env : PEnv) (x : PV) (lo : Option Int) (S : Sto) : Res PV := (h env S).bind fun hi S3 => sliceV x lo hi S3
@[simp] theorem sliceE_s (l h : PartD) : sliceE a l h env S = (a env S).bind (slK l h env) := (rfl)
@[simp] theorem slK_s (l h : PartD) : slK l h env x S = (l env S).bind (slK2 h env x) := (rfl)
@[simp] theorem slK2_s (h : PartD) (lo : Option Int) : slK2 h env x lo S = (h env S).bind (sliceV x lo) := (rfl)
@[simp] theorem noP_s : noP env S = .ok none S := (rfl)
def someK (d : PV) (S : Sto) : Res (Option Int) := match d with
  | .int i => .ok (some i) S
  | _ => .stuck
@[simp] theorem someP_s : someP a env S = (a env S).bind someK := (rfl)
@[simp] theorem someK_s (i : Int) : someK (.int i) S = .ok (some i) S := (rfl)
@[simp] theorem sliceV_tup (lo hi : Option Int) : sliceV (.tup xs) lo hi S = .ok (.tup (cutP xs lo hi)) S := (rfl)
@[simp] theorem sliceV_lst (lo hi : Option Int) : sliceV (.lst xs) lo hi S = .ok (.lst (cutP xs lo hi)) S := (rfl)
theorem cut_take (xs : List PV) (k : Nat) : cutP xs none (some (k : Int)) = xs.take k := by
  unfold cutP sIxP
  dsimp only
  rw [if_neg (by omega)]
  simp only [List.drop_zero, Nat.sub_zero, Int.toNat_natCast]
  rcases Nat.le_total k xs.length with h | h
  · rw [Nat.min_eq_left h]
  · rw [Nat.min_eq_right h, List.take_of_length_le (Nat.le_refl _), List.take_of_length_le h]
theorem cut_drop (xs : List PV) (k : Nat) : cutP xs (some (k : Int)) none = xs.drop k := by
  unfold cutP sIxP
  dsimp only
  rw [if_neg (by omega)]
  simp only [Int.toNat_natCast]
  rcases Nat.le_total k xs.length with h | h
  · rw [Nat.min_eq_left h, List.take_of_length_le (by rw [List.length_drop]; omega)]
  · rw [Nat.min_eq_right h]
    simp [h]
/-! iterators -/
@[simp] theorem seqI_s : seqI a env S = (a env S).bind itemsOf := (rfl)
@[simp] theorem itemsOf_tup : itemsOf (.tup xs) S = .ok (none, xs) S := (rfl)
@[simp] theorem itemsOf_lst : itemsOf (.lst xs) S = .ok (none, xs) S := (rfl)
@[simp] theorem itemsOf_ro : itemsOf (.ro xs) S = .ok (none, xs) S := (rfl)
def rg1K (x : PV) (S : Sto) : Res (Option Nat × List PV) := match x with
  | .int j => if smallI j then .ok (none, rangeP 0 j.toNat) S else .stuck
  | _ => .stuck
@[simp] theorem range1I_s : range1I a env S = (a env S).bind rg1K := (rfl)
theorem rg1K_of {j : Int} (h : smallI j) : rg1K (.int j) S = .ok (none, rangeP 0 j.toNat) S := if_pos h
theorem rg1K_nat {n : Nat} (h : n ≤ 8000000) : rg1K (.int (n : Int)) S = .ok (none, rangeP 0 n) S := by rw [rg1K_of ⟨by omega, by omega⟩]; rfl
def rg2K (b : ExprD) (env : PEnv) (x : PV) (S : Sto) : Res (Option Nat × List PV) := (b env S).bind fun y S2 => match x, y with
  | .int i, .int j => if smallI i ∧ smallI j then .ok (none, rangeP i (j - i).toNat) S2 else .stuck
  | _, _ => .stuck
def rg2K2 (x y : PV) (S : Sto) : Res (Option Nat × List PV) := match x, y with
  | .int i, .int j => if smallI i ∧ smallI j then .ok (none, rangeP i (j - i).toNat) S else .stuck
  | _, _ => .stuck
@[simp] theorem range2I_s : range2I a b env S = (a env S).bind (rg2K b env) := (rfl)
@[simp] theorem rg2K_s : rg2K b env x S = (b env S).bind (rg2K2 x) := (rfl)
theorem rg2K2_of {i j : Int} (h : smallI i) (h' : smallI j) : rg2K2 (.int i) (.int j) S = .ok (none, rangeP i (j - i).toNat) S := if_pos ⟨h, h'⟩
def rg3K (b c : ExprD) (env : PEnv) (x : PV) (S : Sto) : Res (Option Nat × List PV) := (b env S).bind fun y S2 => (c env S2).bind fun z S3 => match x, y, z with
  | .int i, .int j, .int k => if k = -1 ∧ smallI i ∧ smallI j then .ok (none, downP i (i - j).toNat) S3 else .stuck
  | _, _, _ => .stuck
def rg3K2 (c : ExprD) (env : PEnv) (x y : PV) (S : Sto) : Res (Option Nat × List PV) := (c env S).bind fun z S3 => match x, y, z with
  | .int i, .int j, .int k => if k = -1 ∧ smallI i ∧ smallI j then .ok (none, downP i (i - j).toNat) S3 else .stuck
  | _, _, _ => .stuck
def rg3K3 (x y z : PV) (S : Sto) : Res (Option Nat × List PV) := match x, y, z with
  | .int i, .int j, .int k => if k = -1 ∧ smallI i ∧ smallI j then .ok (none, downP i (i - j).toNat) S else .stuck
  | _, _, _ => .stuck
@[simp] theorem range3I_s {c : ExprD} : range3I a b c env S = (a env S).bind (rg3K b c env) := (rfl)
@[simp] theorem rg3K_s {c : ExprD} : rg3K b c env x S = (b env S).bind (rg3K2 c env x) := (rfl)
@[simp] theorem rg3K2_s {c : ExprD} : rg3K2 c env x y S = (c env S).bind (rg3K3 x y) := (rfl)
def revK (x : PV) (S : Sto) : Res (Option Nat × List PV) := match frozen x with
  | some (_, xs) => .ok (none, xs.reverse) S
  | _ => .stuck
@[simp] theorem revI_s : revI a env S = (a env S).bind revK := (rfl)
@[simp] theorem revK_lst : revK (.lst xs) S = .ok (none, xs.reverse) S := (rfl)
@[simp] theorem revK_tup : revK (.tup xs) S = .ok (none, xs.reverse) S := (rfl)
def zipK (b : ExprD) (env : PEnv) (x : PV) (S : Sto) : Res (Option Nat × List PV) := (b env S).bind fun y S2 => match frozen x, frozen y with
  | some (t, xs), some (u, ys) => if t = u then .ok (none, zipP xs ys) S2 else .stuck
  | _, _ => .stuck
def zipK2 (x y : PV) (S : Sto) : Res (Option Nat × List PV) := match frozen x, frozen y with
  | some (t, xs), some (u, ys) => if t = u then .ok (none, zipP xs ys) S else .stuck
  | _, _ => .stuck
@[simp] theorem zipI_s : zipI a b env S = (a env S).bind (zipK b env) := (rfl)
@[simp] theorem zipK_s : zipK b env x S = (b env S).bind (zipK2 x) := (rfl)
@[simp] theorem zipK2_lst : zipK2 (.lst xs) (.lst ys) S = .ok (none, zipP xs ys) S := (rfl)
@[simp] theorem zipK2_tup : zipK2 (.tup xs) (.tup ys) S = .ok (none, zipP xs ys) S := (rfl)
/-! for -/
noncomputable def forK (t : Tg) (b : StmtD) (env : PEnv) (z : Option Nat × List PV) (S : Sto) : Res Flow := forL z.1 z.2 t b z.2 env S
@[simp] theorem forS_s {it : IterD} {t : Tg} {b : StmtD} : forS it t b env S = runI (it env S) env (forK t b env) := (rfl)
@[simp] theorem forK_s {t : Tg} {b : StmtD} {o : Option Nat} : forK t b env (o, xs) S = forL o xs t b xs env S := (rfl)
/-- a for over what stands: no break, no return -/
theorem forL_inv {ds : List PV} {t : Tg} {b : StmtD} (I : Nat → PEnv → Sto → Prop) (step : ∀ (i : Nat) (d : PV) (env : PEnv) (S : Sto), ds[i]? = some d → I i env S → ∃ env1, t.bind S d env = some env1 ∧ ∃ env2 S2, b env1 S = .ok (.nx env2) S2 ∧ I (i + 1) env2 S2) :
    ∀ (r : List PV) (i : Nat) (env : PEnv) (S : Sto), ds.drop i = r → i ≤ ds.length → I i env S → ∃ env' S', forL none ds t b r env S = .ok (.nx env') S' ∧ I ds.length env' S'
  | [], i, env, S, e, hi, h => by
    have : i = ds.length := by
      have h2 : (ds.drop i).length = 0 := by rw [e]; rfl
      rw [List.length_drop] at h2; omega
    subst this
    exact ⟨env, S, rfl, h⟩
  | d :: r, i, env, S, e, hi, h => by
    have hlt : i < ds.length := by
      have h2 : (ds.drop i).length = r.length + 1 := by rw [e]; rfl
      rw [List.length_drop] at h2; omega
    rw [List.drop_eq_getElem_cons hlt] at e
    injection e with e1 e2
    obtain ⟨env1, h1, env2, S2, h2, h3⟩ := step i d env S (by rw [List.getElem?_eq_getElem hlt, e1]) h
    obtain ⟨env', S', h4, h5⟩ := forL_inv I step r (i + 1) env2 S2 e2 hlt h3
    refine ⟨env', S', ?_, h5⟩
    unfold forL
    rw [guardW_none, h1]
    dsimp only
    rw [h2]
    exact h4
theorem for_inv {ds : List PV} {t : Tg} {b : StmtD} (I : Nat → PEnv → Sto → Prop) {env : PEnv} {S : Sto} (h0 : I 0 env S) (step : ∀ (i : Nat) (d : PV) (env : PEnv) (S : Sto), ds[i]? = some d → I i env S → ∃ env1, t.bind S d env = some env1 ∧ ∃ env2 S2, b env1 S = .ok (.nx env2) S2 ∧ I (i + 1) env2 S2) :
    ∃ env' S', forL none ds t b ds env S = .ok (.nx env') S' ∧ I ds.length env' S' := forL_inv I step ds 0 env S rfl (Nat.zero_le _) h0
/-! comprehensions -/
noncomputable def cmpK (t : Tg) (ws : List Nat) (tst : TestD) (el : ExprD) (env : PEnv) (z : Option Nat × List PV) (S : Sto) : Res PV := compL z.1 z.2 t tst el (wipeE env ws) z.2 [] S
@[simp] theorem compE_s {it : IterD} {t : Tg} {ws : List Nat} {tst : TestD} {el : ExprD} : compE it t ws tst el env S = (it env S).bind (cmpK t ws tst el env) := (rfl)
@[simp] theorem compCE_s {it : IterD} {t : Tg} {ws : List Nat} {tst : TestD} {el : ExprD} : compCE it t ws tst el env S = (compE it t ws tst el env S).bind cellOf := (rfl)
@[simp] theorem cmpK_s {t : Tg} {ws : List Nat} {tst : TestD} {el : ExprD} {o : Option Nat} : cmpK t ws tst el env (o, xs) S = compL o xs t tst el (wipeE env ws) xs [] S := (rfl)
@[simp] theorem yesT_s : yesT env S = .ok true S := (rfl)
theorem compL_inv {ds : List PV} {t : Tg} {tst : TestD} {el : ExprD} {env0 : PEnv} (I : Nat → List PV → Sto → Prop) (step : ∀ (i : Nat) (d : PV) (acc : List PV) (S : Sto), ds[i]? = some d → I i acc S → ∃ env1, t.bind S d env0 = some env1 ∧
      ∃ b S1, tst env1 S = .ok b S1 ∧ (b = true → ∃ y S2, el env1 S1 = .ok y S2 ∧ I (i + 1) (acc ++ [y]) S2) ∧ (b = false → I (i + 1) acc S1)) :
    ∀ (r : List PV) (i : Nat) (acc : List PV) (S : Sto), ds.drop i = r → i ≤ ds.length → I i acc S → ∃ acc' S', compL none ds t tst el env0 r acc S = .ok (.lst acc') S' ∧ I ds.length acc' S'
  | [], i, acc, S, e, hi, h => by
    have : i = ds.length := by
      have h2 : (ds.drop i).length = 0 := by rw [e]; rfl
      rw [List.length_drop] at h2; omega
    subst this
    exact ⟨acc, S, rfl, h⟩
  | d :: r, i, acc, S, e, hi, h => by
    have hlt : i < ds.length := by
      have h2 : (ds.drop i).length = r.length + 1 := by rw [e]; rfl
      rw [List.length_drop] at h2; omega
    rw [List.drop_eq_getElem_cons hlt] at e
    injection e with e1 e2
    obtain ⟨env1, h1, b, S1, h2, h3, h4⟩ := step i d acc S (by rw [List.getElem?_eq_getElem hlt, e1]) h
    unfold compL
    rw [guardW_none, h1]
    dsimp only
    rw [h2]
    show ∃ acc' S', (if b = true then (nox (el env1 S1)).bind fun y S2 => compL none ds t tst el env0 r (acc ++ [y]) S2 else compL none ds t tst el env0 r acc S1) = .ok (.lst acc') S' ∧ I ds.length acc' S'
    cases b with
    | true =>
      obtain ⟨y, S2, h5, h6⟩ := h3 rfl
      rw [if_pos rfl, h5]
      exact compL_inv I step r (i + 1) (acc ++ [y]) S2 e2 hlt h6
    | false =>
      rw [if_neg (by decide)]
      exact compL_inv I step r (i + 1) acc S1 e2 hlt (h4 rfl)
theorem comp_inv {ds : List PV} {t : Tg} {tst : TestD} {el : ExprD} {env0 : PEnv} {S : Sto} (I : Nat → List PV → Sto → Prop) (h0 : I 0 [] S) (step : ∀ (i : Nat) (d : PV) (acc : List PV) (S : Sto), ds[i]? = some d → I i acc S → ∃ env1, t.bind S d env0 = some env1 ∧
      ∃ b S1, tst env1 S = .ok b S1 ∧ (b = true → ∃ y S2, el env1 S1 = .ok y S2 ∧ I (i + 1) (acc ++ [y]) S2) ∧ (b = false → I (i + 1) acc S1)) :
    ∃ acc' S', compL none ds t tst el env0 ds [] S = .ok (.lst acc') S' ∧ I ds.length acc' S' := compL_inv I step ds 0 [] S rfl (Nat.zero_le _) h0
/-- every item by a function, nothing written -/
theorem comp_map {ds : List PV} {t : Tg} {el : ExprD} {env0 : PEnv} {S : Sto} (g : PV → PV) (step : ∀ d ∈ ds, ∃ env1, t.bind S d env0 = some env1 ∧ el env1 S = .ok (g d) S) : compL none ds t yesT el env0 ds [] S = .ok (.lst (ds.map g)) S := by
  obtain ⟨acc, S', h, rfl, rfl⟩ := comp_inv (ds := ds) (t := t) (tst := yesT) (el := el) (env0 := env0) (S := S) (fun i acc S' => S' = S ∧ acc = (ds.take i).map g) ⟨rfl, by simp⟩ fun i d acc S' hd ⟨h1, h2⟩ => by
    subst h1 h2
    obtain ⟨env1, h1, h2⟩ := step d (List.mem_of_getElem? hd)
    refine ⟨env1, h1, true, S', rfl, fun _ => ⟨g d, S', h2, rfl, ?_⟩, fun z => nomatch z⟩
    rw [List.take_add_one, hd]
    simp
  rw [h, List.take_length]
theorem comp_filter {ds : List PV} {t : Tg} {tst : TestD} {el : ExprD} {env0 : PEnv} {S : Sto} (p : PV → Bool) (g : PV → PV) (step : ∀ d ∈ ds, ∃ env1, t.bind S d env0 = some env1 ∧ tst env1 S = .ok (p d) S ∧ (p d = true → el env1 S = .ok (g d) S)) : compL none ds t tst el env0 ds [] S = .ok (.lst ((ds.filter p).map g)) S := by
  obtain ⟨acc, S', h, rfl, rfl⟩ := comp_inv (ds := ds) (t := t) (tst := tst) (el := el) (env0 := env0) (S := S) (fun i acc S' => S' = S ∧ acc = ((ds.take i).filter p).map g) ⟨rfl, by simp⟩ fun i d acc S' hd ⟨h1, h2⟩ => by
    subst h1 h2
    obtain ⟨env1, h1, h2, h3⟩ := step d (List.mem_of_getElem? hd)
    refine ⟨env1, h1, p d, S', h2, fun hp => ⟨g d, S', h3 hp, rfl, ?_⟩, fun hp => ⟨rfl, ?_⟩⟩
    · rw [List.take_add_one, hd]
      simp [hp]
    · rw [List.take_add_one, hd]
      simp [hp]
  rw [h, List.take_length]
@[simp] theorem cut_drop1 : cutP xs (some 1) none = xs.drop 1 := cut_drop xs 1
@[simp] theorem cut_take2 : cutP xs none (some 2) = xs.take 2 := cut_take xs 2
@[simp] theorem ii_int (i : Int) : isinB [.int i, .ty "int"] S = .ok (.bl true) S := (rfl)
@[simp] theorem ib_int (i : Int) : isinB [.int i, .ty "bool"] S = .ok (.bl false) S := (rfl)
@[simp] theorem is_int (i : Int) : isinB [.int i, .ty "str"] S = .ok (.bl false) S := (rfl)
@[simp] theorem il_int (i : Int) : isinB [.int i, .ty "list"] S = .ok (.bl false) S := (rfl)
@[simp] theorem it_int (i : Int) : isinB [.int i, .ty "tuple"] S = .ok (.bl false) S := (rfl)
@[simp] theorem ii_bl (i : Bool) : isinB [.bl i, .ty "int"] S = .ok (.bl true) S := (rfl)
@[simp] theorem ib_bl (i : Bool) : isinB [.bl i, .ty "bool"] S = .ok (.bl true) S := (rfl)
@[simp] theorem il_bl (i : Bool) : isinB [.bl i, .ty "list"] S = .ok (.bl false) S := (rfl)
@[simp] theorem is_bl (i : Bool) : isinB [.bl i, .ty "str"] S = .ok (.bl false) S := (rfl)
@[simp] theorem it_bl (i : Bool) : isinB [.bl i, .ty "tuple"] S = .ok (.bl false) S := (rfl)
@[simp] theorem ii_str (i : Str) : isinB [.str i, .ty "int"] S = .ok (.bl false) S := (rfl)
@[simp] theorem ib_str (i : Str) : isinB [.str i, .ty "bool"] S = .ok (.bl false) S := (rfl)
@[simp] theorem is_str (i : Str) : isinB [.str i, .ty "str"] S = .ok (.bl true) S := (rfl)
@[simp] theorem il_str (i : Str) : isinB [.str i, .ty "list"] S = .ok (.bl false) S := (rfl)
@[simp] theorem ii_non : isinB [.non, .ty "int"] S = .ok (.bl false) S := (rfl)
@[simp] theorem ib_non : isinB [.non, .ty "bool"] S = .ok (.bl false) S := (rfl)
@[simp] theorem il_non : isinB [.non, .ty "list"] S = .ok (.bl false) S := (rfl)
@[simp] theorem it_non : isinB [.non, .ty "tuple"] S = .ok (.bl false) S := (rfl)
@[simp] theorem ii_tup : isinB [.tup xs, .ty "int"] S = .ok (.bl false) S := (rfl)
@[simp] theorem ib_tup : isinB [.tup xs, .ty "bool"] S = .ok (.bl false) S := (rfl)
@[simp] theorem il_tup : isinB [.tup xs, .ty "list"] S = .ok (.bl false) S := (rfl)
@[simp] theorem it_tup : isinB [.tup xs, .ty "tuple"] S = .ok (.bl true) S := (rfl)
@[simp] theorem ii_lst : isinB [.lst xs, .ty "int"] S = .ok (.bl false) S := (rfl)
@[simp] theorem ib_lst : isinB [.lst xs, .ty "bool"] S = .ok (.bl false) S := (rfl)
@[simp] theorem il_lst : isinB [.lst xs, .ty "list"] S = .ok (.bl true) S := (rfl)
@[simp] theorem it_lst : isinB [.lst xs, .ty "tuple"] S = .ok (.bl false) S := (rfl)
theorem isL_lst (h : lstOf S d = some xs) : isinB [d, .ty "bool"] S = .ok (.bl false) S ∧ isinB [d, .ty "list"] S = .ok (.bl true) S ∧ isinB [d, .ty "int"] S = .ok (.bl false) S ∧ isinsV ["list", "tuple"] d S = .ok (.bl true) S := by
  cases d with
  | lst ys => exact ⟨rfl, rfl, rfl, rfl⟩
  | ro ys => exact ⟨rfl, rfl, rfl, rfl⟩
  | cell n =>
    have h' : (match S[n]? with | some (Cell.lst xs) => some xs | _ => none) = some xs := h
    split at h'
    · rename_i ys q
      refine ⟨isin_c q rfl, isin_c q rfl, isin_c q rfl, ?_⟩
      unfold isinsV
      simp only [q]
      rfl
    · cases h'
  | _ => cases h
theorem seq_of_lst (h : lstOf S d = some xs) : seqOf S d = some xs := by
  cases d <;> first | exact h | cases h
theorem rangeP_mem {n : Nat} {z : PV} (h : z ∈ rangeP 0 n) : ∃ i : Nat, i < n ∧ z = .int (i : Int) := by
  obtain ⟨i, hi⟩ := List.getElem?_of_mem h
  have hl := (List.getElem?_eq_some_iff.mp hi).1
  rw [rangeP_len] at hl
  rw [rangeP_get n 0 i hl] at hi
  injection hi with hi
  exact ⟨i, hl, by rw [← hi]; simp⟩
def starK2 (xs ys : List PV) (S : Sto) : Res (List PV) := .ok (xs ++ ys) S
def starK (r : ArgsD) (env : PEnv) (d : PV) (S : Sto) : Res (List PV) := match seqOf S d with
  | some xs => (r env S).bind (starK2 xs)
  | none => .stuck
@[simp] theorem starA_s : starA a r env S = (a env S).bind (starK r env) := (rfl)
@[simp] theorem starK2_s : starK2 xs ys S = .ok (xs ++ ys) S := (rfl)
@[simp] theorem starK_lst : starK r env (.lst xs) S = (r env S).bind (starK2 xs) := (rfl)
@[simp] theorem starK_tup : starK r env (.tup xs) S = (r env S).bind (starK2 xs) := (rfl)
/-! rows of ints -/
theorem addV_lst {as bs : List PV} (h : as.length + bs.length ≤ 16000000) : addV (.lst as) (.lst bs) S = .ok (.lst (as ++ bs)) S := by
  unfold addV
  simp only [catOf]
  rw [if_pos (by rw [sizeLine_eq]; omega)]
theorem addV_tup {as bs : List PV} (h : as.length + bs.length ≤ 16000000) : addV (.tup as) (.tup bs) S = .ok (.tup (as ++ bs)) S := if_pos (by rw [sizeLine_eq]; omega)
theorem item_last {x : PV} (h : seqOf S x = some (xs ++ [d])) : itemV x (.int (-1)) S = .ok d S := itemV_of h (by
  unfold ixP
  rw [if_neg (by decide), if_pos (by simp; omega)]
  have e : (-1 + ((xs.length : Int) + 1)).toNat = xs.length := by omega
  simp [e])
theorem peqs_nil (xs : List PV) : peqs xs [] = xs.isEmpty := by cases xs <;> simp [peqs]
theorem eq_nil_tup (h : chks 59 xs = true) : eqV (.tup xs) (.tup []) S = .ok (.bl xs.isEmpty) S := by
  rw [eqV_of (x := .tup xs) (y := .tup []) h rfl]; simp [topV, peq, peqs_nil]
theorem ne_nil_tup (h : chks 59 xs = true) : neV (.tup xs) (.tup []) S = .ok (.bl (!xs.isEmpty)) S := by
  rw [neV_of (x := .tup xs) (y := .tup []) h rfl]; simp [topV, peq, peqs_nil]
theorem eq_nil_lst (h : chks 59 xs = true) : eqV (.lst xs) (.lst []) S = .ok (.bl xs.isEmpty) S := by
  rw [eqV_of (x := .lst xs) (y := .lst []) h rfl]; simp [topV, peq, peqs_nil]
theorem ne_nil_lst (h : chks 59 xs = true) : neV (.lst xs) (.lst []) S = .ok (.bl (!xs.isEmpty)) S := by
  rw [neV_of (x := .lst xs) (y := .lst []) h rfl]; simp [topV, peq, peqs_nil]
theorem chks_map {α : Type} {f : α → PV} {n : Nat} (h : ∀ a, chk n (f a) = true) : ∀ l : List α, chks n (l.map f) = true
  | [] => rfl
  | a :: l => by simp [chks, h a, chks_map h l]
@[simp] theorem isV_non : isV d .non S = .ok (.bl (isNonB d)) S := (rfl)
@[simp] theorem isNotV_non : isNotV d .non S = .ok (.bl (!isNonB d)) S := (rfl)
@[simp] theorem isNonB_int (i : Int) : isNonB (.int i) = false := rfl
@[simp] theorem isNonB_non : isNonB .non = true := rfl
@[simp] theorem pw6 : powV (.int 10) (.int 6) S = .ok (.int 1000000) S := powV_i _ _ (powC_le (by decide) (by decide))
@[simp] theorem pw7 : powV (.int 10) (.int 7) S = .ok (.int 10000000) S := powV_i _ _ (powC_le (by decide) (by decide))
@[simp] theorem pw5 : powV (.int 10) (.int 5) S = .ok (.int 100000) S := powV_i _ _ (powC_le (by decide) (by decide))
@[simp] theorem pw4 : powV (.int 10) (.int 4) S = .ok (.int 10000) S := powV_i _ _ (powC_le (by decide) (by decide))
@[simp] theorem pw3 : powV (.int 10) (.int 3) S = .ok (.int 1000) S := powV_i _ _ (powC_le (by decide) (by decide))
@[simp] theorem eqS_bucket_bucket : eqV (.str "bucket") (.str "bucket") S = .ok (.bl true) S := eqV_strL (by decide +kernel) (by decide +kernel) (by decide +kernel)
@[simp] theorem eqS_bucket_meter : eqV (.str "bucket") (.str "meter") S = .ok (.bl false) S := eqV_strL (by decide +kernel) (by decide +kernel) (by decide +kernel)
@[simp] theorem eqS_bucket_window : eqV (.str "bucket") (.str "window") S = .ok (.bl false) S := eqV_strL (by decide +kernel) (by decide +kernel) (by decide +kernel)
@[simp] theorem eqS_bucket_frame : eqV (.str "bucket") (.str "frame") S = .ok (.bl false) S := eqV_strL (by decide +kernel) (by decide +kernel) (by decide +kernel)
@[simp] theorem eqS_bucket_gap : eqV (.str "bucket") (.str "gap") S = .ok (.bl false) S := eqV_strL (by decide +kernel) (by decide +kernel) (by decide +kernel)
@[simp] theorem eqS_meter_bucket : eqV (.str "meter") (.str "bucket") S = .ok (.bl false) S := eqV_strL (by decide +kernel) (by decide +kernel) (by decide +kernel)
@[simp] theorem eqS_meter_meter : eqV (.str "meter") (.str "meter") S = .ok (.bl true) S := eqV_strL (by decide +kernel) (by decide +kernel) (by decide +kernel)
@[simp] theorem eqS_meter_window : eqV (.str "meter") (.str "window") S = .ok (.bl false) S := eqV_strL (by decide +kernel) (by decide +kernel) (by decide +kernel)
@[simp] theorem eqS_meter_frame : eqV (.str "meter") (.str "frame") S = .ok (.bl false) S := eqV_strL (by decide +kernel) (by decide +kernel) (by decide +kernel)
@[simp] theorem eqS_meter_gap : eqV (.str "meter") (.str "gap") S = .ok (.bl false) S := eqV_strL (by decide +kernel) (by decide +kernel) (by decide +kernel)
@[simp] theorem eqS_window_bucket : eqV (.str "window") (.str "bucket") S = .ok (.bl false) S := eqV_strL (by decide +kernel) (by decide +kernel) (by decide +kernel)
@[simp] theorem eqS_window_meter : eqV (.str "window") (.str "meter") S = .ok (.bl false) S := eqV_strL (by decide +kernel) (by decide +kernel) (by decide +kernel)
@[simp] theorem eqS_window_window : eqV (.str "window") (.str "window") S = .ok (.bl true) S := eqV_strL (by decide +kernel) (by decide +kernel) (by decide +kernel)
@[simp] theorem eqS_window_frame : eqV (.str "window") (.str "frame") S = .ok (.bl false) S := eqV_strL (by decide +kernel) (by decide +kernel) (by decide +kernel)
@[simp] theorem eqS_window_gap : eqV (.str "window") (.str "gap") S = .ok (.bl false) S := eqV_strL (by decide +kernel) (by decide +kernel) (by decide +kernel)
@[simp] theorem eqS_frame_bucket : eqV (.str "frame") (.str "bucket") S = .ok (.bl false) S := eqV_strL (by decide +kernel) (by decide +kernel) (by decide +kernel)
@[simp] theorem eqS_frame_meter : eqV (.str "frame") (.str "meter") S = .ok (.bl false) S := eqV_strL (by decide +kernel) (by decide +kernel) (by decide +kernel)
@[simp] theorem eqS_frame_window : eqV (.str "frame") (.str "window") S = .ok (.bl false) S := eqV_strL (by decide +kernel) (by decide +kernel) (by decide +kernel)
@[simp] theorem eqS_frame_frame : eqV (.str "frame") (.str "frame") S = .ok (.bl true) S := eqV_strL (by decide +kernel) (by decide +kernel) (by decide +kernel)
@[simp] theorem eqS_frame_gap : eqV (.str "frame") (.str "gap") S = .ok (.bl false) S := eqV_strL (by decide +kernel) (by decide +kernel) (by decide +kernel)
@[simp] theorem eqS_gap_bucket : eqV (.str "gap") (.str "bucket") S = .ok (.bl false) S := eqV_strL (by decide +kernel) (by decide +kernel) (by decide +kernel)
@[simp] theorem eqS_gap_meter : eqV (.str "gap") (.str "meter") S = .ok (.bl false) S := eqV_strL (by decide +kernel) (by decide +kernel) (by decide +kernel)
@[simp] theorem eqS_gap_window : eqV (.str "gap") (.str "window") S = .ok (.bl false) S := eqV_strL (by decide +kernel) (by decide +kernel) (by decide +kernel)
@[simp] theorem eqS_gap_frame : eqV (.str "gap") (.str "frame") S = .ok (.bl false) S := eqV_strL (by decide +kernel) (by decide +kernel) (by decide +kernel)
@[simp] theorem eqS_gap_gap : eqV (.str "gap") (.str "gap") S = .ok (.bl true) S := eqV_strL (by decide +kernel) (by decide +kernel) (by decide +kernel)
@[simp] theorem inF_bucket : inV (.str "bucket") (.tup [.str "bucket", .str "meter"]) S = .ok (.bl true) S := (rfl)
@[simp] theorem inS_bucket : inV (.str "bucket") (.tup [.str "window", .str "frame"]) S = .ok (.bl false) S := (rfl)
@[simp] theorem inF_meter : inV (.str "meter") (.tup [.str "bucket", .str "meter"]) S = .ok (.bl true) S := (rfl)
@[simp] theorem inS_meter : inV (.str "meter") (.tup [.str "window", .str "frame"]) S = .ok (.bl false) S := (rfl)
@[simp] theorem inF_window : inV (.str "window") (.tup [.str "bucket", .str "meter"]) S = .ok (.bl false) S := (rfl)
@[simp] theorem inS_window : inV (.str "window") (.tup [.str "window", .str "frame"]) S = .ok (.bl true) S := (rfl)
@[simp] theorem inF_frame : inV (.str "frame") (.tup [.str "bucket", .str "meter"]) S = .ok (.bl false) S := (rfl)
@[simp] theorem inS_frame : inV (.str "frame") (.tup [.str "window", .str "frame"]) S = .ok (.bl true) S := (rfl)
@[simp] theorem inF_gap : inV (.str "gap") (.tup [.str "bucket", .str "meter"]) S = .ok (.bl false) S := (rfl)
@[simp] theorem inS_gap : inV (.str "gap") (.tup [.str "window", .str "frame"]) S = .ok (.bl false) S := (rfl)
end
end LH

/-! PQ: loops that may return, sequences of any make, rows by what lies ahead. -/
namespace LH
open PySem PySem.Spec PyProof.Rows L2
section
variable {S : Sto} {x : PV} {xs : List PV}
end
/-! comprehensions over what may be mutable -/
noncomputable def cmp2K (t : Tg) (it1 : IterD) (t1 : Tg) (ws ws1 : List Nat) (el : ExprD) (env : PEnv) (z : Option Nat × List PV) (S : Sto) : Res PV := compL2 z.1 z.2 t it1 t1 ws1 el (wipeE env ws) z.2 [] S
@[simp] theorem compE2_s {it it1 : IterD} {t t1 : Tg} {ws ws1 : List Nat} {el : ExprD} {env : PEnv} {S : Sto} : compE2 it t it1 t1 ws ws1 el env S = (it env S).bind (cmp2K t it1 t1 ws ws1 el env) := (rfl)
@[simp] theorem cmp2K_s {t t1 : Tg} {it1 : IterD} {ws ws1 : List Nat} {el : ExprD} {env : PEnv} {S : Sto} {o : Option Nat} {xs : List PV} : cmp2K t it1 t1 ws ws1 el env (o, xs) S = compL2 o xs t it1 t1 ws1 el (wipeE env ws) xs [] S := (rfl)
@[simp] theorem dctE_s {n : Int} {b : Bool} {env : PEnv} {S : Sto} : dctE n b env S = .ok (.cell S.length) (S ++ [.raw (.dK [(Sum.inl n, V.bl b)])]) := (rfl)
def sd1 (fo fi : ExprD) (env : PEnv) (y : PV) (S : Sto) : Res Flow := runE (fo env S) env fun d S2 => runE (fi env S2) env fun i S3 => match d, i, y with
  | .cell n, .int k, .bl b => setDC n k b env S3
  | _, _, _ => .stuck
def sd2 (fi : ExprD) (env : PEnv) (y d : PV) (S : Sto) : Res Flow := runE (fi env S) env fun i S3 => match d, i, y with
  | .cell n, .int k, .bl b => setDC n k b env S3
  | _, _, _ => .stuck
def sd3 (env : PEnv) (y d i : PV) (S : Sto) : Res Flow := match d, i, y with
  | .cell n, .int k, .bl b => setDC n k b env S
  | _, _, _ => .stuck
@[simp] theorem setDS_s {fo fi f : ExprD} {env : PEnv} {S : Sto} : setDS fo fi f env S = runE (f env S) env (sd1 fo fi env) := (rfl)
@[simp] theorem sd1_s {fo fi : ExprD} {env : PEnv} {y : PV} {S : Sto} : sd1 fo fi env y S = runE (fo env S) env (sd2 fi env y) := (rfl)
@[simp] theorem sd2_s {fi : ExprD} {env : PEnv} {y d : PV} {S : Sto} : sd2 fi env y d S = runE (fi env S) env (sd3 env y d) := (rfl)
@[simp] theorem sd3_s {n : Nat} {k : Int} {b : Bool} {env : PEnv} {S : Sto} : sd3 env (.bl b) (.cell n) (.int k) S = setDC n k b env S := (rfl)
/-- a dict that holds the ints of a row, each once -/
def DS (S : Sto) (c : Nat) (P : List Int) : Prop := ∃ (kvs : List (Key × V)) (ks : List Int), S[c]? = some (.raw (.dK kvs)) ∧ kvs.map (·.1) = ks.map Sum.inl ∧ ks.Nodup ∧ (∀ k, k ∈ ks ↔ k ∈ P) ∧ ks.length ≤ P.length
theorem keysI_of : ∀ {kvs : List (Key × V)} {ks : List Int}, kvs.map (·.1) = ks.map Sum.inl → keysI kvs = some ks
  | [], [], _ => rfl
  | [], _ :: _, h => by simp at h
  | _ :: _, [], h => by simp at h
  | (k, v) :: r, n :: ns, h => by
    simp only [List.map_cons, List.cons.injEq] at h
    obtain ⟨h1, h2⟩ := h
    subst h1
    simp [keysI, keysI_of h2]
theorem DS.sorted {S : Sto} {c : Nat} {P : List Int} (h : DS S c P) (hz : P.length ≤ 4000) : sortDV [.cell c] S = .ok (.lst ((ascI P).map .int)) S := by
  obtain ⟨kvs, ks, h1, h2, h3, h4, h5⟩ := h
  unfold sortDV
  dsimp only
  rw [h1]
  dsimp only
  rw [keysI_of h2]
  dsimp only
  rw [if_pos (by omega)]
  have e : (ks.mergeSort fun a b => decide (a ≤ b)) = ascI P := asc_uniq (lt_of_nodup _ (sort_le ks) ((List.mergeSort_perm _ _).nodup_iff.mpr h3)) (ascI_lt P) fun k => by rw [List.mem_mergeSort, h4, ascI_mem]
  rw [e]
theorem addCV_cell {S : Sto} {k : Nat} {xs ys : List PV} (h : S[k]? = some (.lst xs)) (hz : xs.length + ys.length ≤ 100000) (hb : bels 0 (xs ++ ys) = true) : addCV (.cell k) (.lst ys) S = .ok (.cell S.length) (S ++ [.lst (xs ++ ys)]) := by
  have hc : catOf S (.cell k) = some xs := by
    show (match S[k]? with | some (.lst xs) => some xs | _ => none) = _
    rw [h]
  have hd : catOf S (.lst ys) = some ys := rfl
  unfold addCV
  rw [hc, hd]
  dsimp only
  rw [if_pos ⟨by rw [sizeLine_eq]; omega, hb⟩]
def scK (l h : PartD) (env : PEnv) (x : PV) (S : Sto) : Res PV := (l env S).bind fun lo S2 => (h env S2).bind fun hi S3 => sliceCV x lo hi S3
def scK2 (h : PartD) (env : PEnv) (x : PV) (lo : Option Int) (S : Sto) : Res PV := (h env S).bind fun hi S3 => sliceCV x lo hi S3
@[simp] theorem sliceCE_s {a : ExprD} {l h : PartD} {env : PEnv} {S : Sto} : sliceCE a l h env S = (a env S).bind (scK l h env) := (rfl)
@[simp] theorem scK_s {l h : PartD} {env : PEnv} {x : PV} {S : Sto} : scK l h env x S = (l env S).bind (scK2 h env x) := (rfl)
@[simp] theorem scK2_s {h : PartD} {env : PEnv} {x : PV} {lo : Option Int} {S : Sto} : scK2 h env x lo S = (h env S).bind (sliceCV x lo) := (rfl)
/-! rows by what lies ahead -/
def idxA {α β : Type} (f : List α → α → β) : List α → List α → List β
  | _, [] => []
  | p, e :: r => f p e :: idxA f (p ++ [e]) r
def allA {α β : Type} (f : List α → α → β) (ls : List (List α)) : List β := ls.flatMap fun l => idxA f [] l
/-- a value or None -/
def oI : Option Int → PV
  | none => .non
  | some i => .int i
@[simp] theorem oI_none : oI none = .non := rfl
@[simp] theorem oI_some (i : Int) : oI (some i) = .int i := rfl
@[simp] theorem isV_oI (o : Option Int) (S : Sto) : isV (oI o) .non S = .ok (.bl o.isNone) S := by cases o <;> rfl
@[simp] theorem isNotV_oI (o : Option Int) (S : Sto) : isNotV (oI o) .non S = .ok (.bl o.isSome) S := by cases o <;> rfl
end LH

/-! PB: the law's own draws. -/
namespace LW
open PySem PySem.Spec PyProof.Rows L2 LH

/-- a case: what is left of the cell, its blend, how often it was drawn -/
def Cs (n : Nat) (m : Int) (S : Sto) : Prop := ∃ a b c : Int, S[n]? = some (.lst [.int a, .int b, .int c]) ∧ 0 ≤ a ∧ 0 ≤ b ∧ b < 10 ^ 42 ∧ 0 ≤ c ∧ c ≤ m
/-- nothing but the n-th was written -/
def Fr (n : Nat) (S S' : Sto) : Prop := S'.length = S.length ∧ ∀ j, j ≠ n → S'[j]? = S[j]?
theorem Fr.refl {n : Nat} {S : Sto} : Fr n S S := ⟨rfl, fun _ _ => rfl⟩
theorem Fr.trans {n : Nat} {S S1 S2 : Sto} (a : Fr n S S1) (b : Fr n S1 S2) : Fr n S S2 := ⟨b.1.trans a.1, fun j h => (b.2 j h).trans (a.2 j h)⟩
theorem Cs.mono {n : Nat} {m m' : Int} {S : Sto} (h : Cs n m S) (hm : m ≤ m') : Cs n m' S := by
  obtain ⟨a, b, c, h1, h2, h3, h4, h5, h6⟩ := h
  exact ⟨a, b, c, h1, h2, h3, h4, h5, by omega⟩
theorem Cs.lt {n : Nat} {m : Int} {S : Sto} (h : Cs n m S) : n < S.length := by
  obtain ⟨a, b, c, h1, _⟩ := h
  exact (List.getElem?_eq_some_iff.mp h1).1
theorem case_ok {ns : List Int} {i : Nat} {S : Sto} (hi : i ≤ 64) : ∃ a b c : Int, d__law_case_N [.ro (ns.map .int), .int (i : Int)] S = .ok (.cell S.length) (S ++ [.lst [.int a, .int b, .int c]]) ∧ 0 ≤ a ∧ 0 ≤ b ∧ b < 10 ^ 42 ∧ c = 0 := by
  have hcell : ∃ z : Int, (if i < ns.length then itemV (.ro (ns.map .int)) (.int (i : Int)) S else Res.ok (.int 0) S) = .ok (.int z) S := by
    by_cases h : i < ns.length
    · rw [if_pos h]
      exact ⟨ns[i], item_nat (xs := ns.map .int) rfl (by rw [List.getElem?_map, List.getElem?_eq_getElem h]; rfl)⟩
    · rw [if_neg h]; exact ⟨0, rfl⟩
  obtain ⟨z, hz⟩ := hcell
  have h1 := Int.emod_nonneg z (show (100000000000000000000000000000000000133 : Int) ≠ 0 by decide)
  have h2 := Int.emod_lt_of_pos z (show (0 : Int) < 100000000000000000000000000000000000133 by decide)
  have e0 : ∀ (x : Int) S', modV (.int x) (.int 100000000000000000000000000000000000133) S' = .ok (.int (x % 100000000000000000000000000000000000133)) S' := fun x S' => modV_i _ _ (by decide)
  have e1 : ∀ S', mulV (.int (z % 100000000000000000000000000000000000133)) (.int 97) S' = .ok (.int (z % 100000000000000000000000000000000000133 * 97)) S' := fun S' => mulV_i _ _ (mulC_le (by omega) (by decide))
  have e2 : ∀ S', mulV (.int 67) (.int (i : Int)) S' = .ok (.int (67 * (i : Int))) S' := fun S' => mulV_i _ _ (mulC_le (by decide) (by omega))
  refine ⟨if (if z < 0 then -z else z) - 1000000000000000000 > 0 then (if z < 0 then -z else z) - 1000000000000000000 else 0, z % 100000000000000000000000000000000000133 * 97 + 67 * (i : Int) + 41, 0, ?_, by split <;> omega, by omega, by omega, rfl⟩
  unfold d__law_case_N
  rw [exitN_s]
  simp [hz, e0, e1, e2, cellK_ok, bels, bel]
  rw [exNK_cell (Nat.lt_irrefl _) (by rw [List.getElem?_append_right (Nat.le_refl _), Nat.sub_self]; rfl)]
  simp
theorem get_set {n : Nat} {S : Sto} {c : Cell} (h : n < S.length) : (S.set n c)[n]? = some c := List.getElem?_set_self h
theorem fr_set {n : Nat} {S : Sto} {c : Cell} : Fr n S (S.set n c) := ⟨List.length_set, fun j hj => List.getElem?_set_ne (fun e => hj e.symm)⟩
theorem take_ok {n : Nat} {m k : Int} {S : Sto} (h : Cs n m S) (hm : m < 10 ^ 11) (hk : 0 < k) (hk2 : k < 10 ^ 30) : ∃ (t : Int) (S' : Sto), d__law_take_T [.cell n, .int k] S = .ok (.int t) S' ∧ 0 ≤ t ∧ t < k ∧ Cs n (m + 1) S' ∧ Fr n S S' := by
  have hl := h.lt
  obtain ⟨a, b, c, h1, h2, h3, h4, h5, h6⟩ := h
  have hd : ∀ x : Int, divC x k := fun x => divC_le ⟨hk, by omega⟩
  by_cases ha : 0 < a
  · refine ⟨a % k, S.set n (.lst [.int (a / k), .int b, .int c]), ?_, Int.emod_nonneg _ (by omega), Int.emod_lt_of_pos _ hk, ⟨a / k, b, c, get_set hl, Int.ediv_nonneg h2 (by omega), h3, h4, h5, by omega⟩, fr_set⟩
    unfold d__law_take_T
    simp [item0 (seqOf_cell h1), item1 (seqOf_cell h1), item2 (seqOf_cell h1), ha, modV_i _ _ hk, fdivV_i _ _ (hd _), set3_0 h1]
  · have h1' : (S.set n (.lst [.int a, .int b, .int (c + 1)]))[n]? = some (.lst [.int a, .int b, .int (c + 1)]) := get_set hl
    have e1 : ∀ S', mulV (.int 80021) (.int (c + 1)) S' = .ok (.int (80021 * (c + 1))) S' := fun S' => mulV_i _ _ (mulC_le (by decide) (by omega))
    have e2 : ∀ S', powV (.int (b + 80021 * (c + 1))) (.int 2) S' = .ok (.int ((b + 80021 * (c + 1)) ^ 2)) S' := fun S' => powV_i _ _ (powC_le (by omega) (by decide))
    have e3 : ∀ S', mulV (.int 1700021) (.int (c + 1)) S' = .ok (.int (1700021 * (c + 1))) S' := fun S' => mulV_i _ _ (mulC_le (by decide) (by omega))
    have hx := Int.emod_nonneg ((b + 80021 * (c + 1)) ^ 2) (show (1000000000000000000000000000000000000187 : Int) ≠ 0 by decide)
    have hx2 := Int.emod_lt_of_pos ((b + 80021 * (c + 1)) ^ 2) (show (0 : Int) < 1000000000000000000000000000000000000187 by decide)
    generalize hX : (b + 80021 * (c + 1)) ^ 2 % (1000000000000000000000000000000000000187) = X at hx hx2
    have e4 : ∀ S', powV (.int (X + 1700021 * (c + 1))) (.int 3) S' = .ok (.int ((X + 1700021 * (c + 1)) ^ 3)) S' := fun S' => powV_i _ _ (powC_le (by omega) (by decide))
    have e5 : ∀ S', modV (.int ((b + 80021 * (c + 1)) ^ 2)) (.int (1000000000000000000000000000000000000187)) S' = .ok (.int X) S' := fun S' => by rw [modV_i _ _ (by decide), hX]
    have e6 : ∀ (x : Int) S', modV (.int x) (.int (10000000000000000000000000000000000139)) S' = .ok (.int (x % (10000000000000000000000000000000000139))) S' := fun x S' => modV_i _ _ (by decide)
    have e7 : ∀ (x : Int) S', fdivV (.int x) (.int 16384) S' = .ok (.int (x / 16384)) S' := fun x S' => fdivV_i _ _ (divC_le (by decide))
    refine ⟨(X + 1700021 * (c + 1)) ^ 3 % (10000000000000000000000000000000000139) / 16384 % k, S.set n (.lst [.int a, .int b, .int (c + 1)]), ?_, Int.emod_nonneg _ (by omega), Int.emod_lt_of_pos _ hk, ⟨a, b, c + 1, get_set hl, h2, h3, h4, by omega, by omega⟩, fr_set⟩
    unfold d__law_take_T
    simp [item0 (seqOf_cell h1), item1 (seqOf_cell h1), item2 (seqOf_cell h1), ha, set3_2 h1, item0 (seqOf_cell h1'), item1 (seqOf_cell h1'), item2 (seqOf_cell h1'), e1, e2, e3, e4, e5, e6, e7, modV_i _ _ hk]
end LW

/-! PC: rows of requests, drawn. -/
namespace LW
open PySem PySem.Spec PyProof.Rows L2 LH

def rq (p : Int × Int) : PV := .tup [.int p.1, .int p.2]
/-- a row of requests that is well formed, at most n of them -/
structure Rq (rows : List (Int × Int)) (n : Nat) : Prop where
  len : rows.length ≤ n
  rise : rows.Pairwise fun a b => a.1 ≤ b.1
  mom : ∀ r ∈ rows, 0 ≤ r.1 ∧ r.1 ≤ ((n : Int) + 1) * 2000000000000
  cost : ∀ r ∈ rows, 1 ≤ r.2 ∧ r.2 ≤ 2000000000000
theorem bel_rq (p : Int × Int) (k : Nat) : bel k (rq p) = true := by simp [rq, bel, bels]
theorem bels_rq (l : List (Int × Int)) (k : Nat) : bels k (l.map rq) = true := by
  rw [bels_all]; simp [bel_rq]
theorem Fr.at {n j : Nat} {S S' : Sto} (h : Fr n S S') (hj : j ≠ n) {c : Option Cell} (e : S[j]? = c) : S'[j]? = c := (h.2 j hj).trans e
theorem Cs.fr {n k : Nat} {m : Int} {S S' : Sto} (h : Cs n m S) (f : Fr k S S') (hk : n ≠ k) : Cs n m S' := by
  obtain ⟨a, b, c, h1, h2⟩ := h
  exact ⟨a, b, c, f.at hk h1, h2⟩
theorem Cs.take {n k : Nat} {m : Int} {S : Sto} (h : Cs n m S) (hk : n < k) : Cs n m (S.take k) := by
  obtain ⟨a, b, c, h1, h2⟩ := h
  exact ⟨a, b, c, by rw [List.getElem?_take_of_lt hk]; exact h1, h2⟩
theorem Cs.app {n : Nat} {m : Int} {S T : Sto} (h : Cs n m S) : Cs n m (S ++ T) := by
  have hl := h.lt
  obtain ⟨a, b, c, h1, h2⟩ := h
  exact ⟨a, b, c, by rw [List.getElem?_append_left hl]; exact h1, h2⟩
theorem pick4 {S : Sto} {a b c d t : Int} (h0 : 0 ≤ t) (h : t < 4) : ∃ v, itemV (.lst [.int a, .int b, .int c, .int d]) (.int t) S = .ok (.int v) S ∧ (v = a ∨ v = b ∨ v = c ∨ v = d) := by
  have : t = 0 ∨ t = 1 ∨ t = 2 ∨ t = 3 := by omega
  rcases this with rfl | rfl | rfl | rfl
  · exact ⟨a, rfl, .inl rfl⟩
  · exact ⟨b, rfl, .inr (.inl rfl)⟩
  · exact ⟨c, rfl, .inr (.inr (.inl rfl))⟩
  · exact ⟨d, rfl, .inr (.inr (.inr rfl))⟩
theorem pick3 {S : Sto} {a b c t : Int} (h0 : 0 ≤ t) (h : t < 3) : ∃ v, itemV (.lst [.int a, .int b, .int c]) (.int t) S = .ok (.int v) S ∧ (v = a ∨ v = b ∨ v = c) := by
  have : t = 0 ∨ t = 1 ∨ t = 2 := by omega
  rcases this with rfl | rfl | rfl
  · exact ⟨a, rfl, .inl rfl⟩
  · exact ⟨b, rfl, .inr (.inl rfl)⟩
  · exact ⟨c, rfl, .inr (.inr rfl)⟩
theorem pick2 {S : Sto} {a b t : Int} (h0 : 0 ≤ t) (h : t < 2) : ∃ v, itemV (.lst [.int a, .int b]) (.int t) S = .ok (.int v) S ∧ (v = a ∨ v = b) := by
  have : t = 0 ∨ t = 1 := by omega
  rcases this with rfl | rfl
  · exact ⟨a, rfl, .inl rfl⟩
  · exact ⟨b, rfl, .inr rfl⟩
def RqI (S : Sto) (n many : Nat) (m gap cost : Int) (i : Nat) (env : PEnv) (S' : Sto) : Prop := ∃ (rows : List (Int × Int)) (mo : Int) (x : Option PV), env = [some (.cell n), some (.int (many : Int)), some (.int gap), some (.int cost), some (.cell S.length), some (.int mo), x] ∧ S'.length = S.length + 1 ∧ Cs n (m + 2 + 5 * (i : Int)) S' ∧
    S'[S.length]? = some (.lst (rows.map rq)) ∧ rows.length = i ∧ rows.Pairwise (fun a b => a.1 ≤ b.1) ∧ (∀ r ∈ rows, 0 ≤ r.1 ∧ r.1 ≤ mo ∧ 1 ≤ r.2 ∧ r.2 ≤ 2000000000000 ∧ (r.2 ≤ 2 ∨ r.2 ≤ cost)) ∧ 0 ≤ mo ∧ mo ≤ ((i : Int) + 1) * 2000000000000 ∧ (∀ G : Int, gap ≤ G → 3 ≤ G → mo ≤ ((i : Int) + 1) * G) ∧ ∀ j, j ≠ n → j < S.length → S'[j]? = S[j]?
theorem requests_ok4 {n many : Nat} {m gap cost : Int} {S : Sto} (h : Cs n m S) (hm : m < 10 ^ 10) (hmany : many ≤ 100) (hg : 0 ≤ gap) (hg2 : gap ≤ 1000000000000) (hc : 1 ≤ cost) (hc2 : cost ≤ 1000000000000) :
    ∃ (rows : List (Int × Int)) (S' : Sto), d__law_requests_T [.cell n, .int (many : Int), .int gap, .int cost] S = .ok (.tup (rows.map rq)) S' ∧ Rq rows many ∧ Cs n (m + 2 + 5 * (many : Int)) S' ∧ Fr n S S' ∧ (∀ G : Int, gap ≤ G → 3 ≤ G → ∀ r ∈ rows, r.1 ≤ ((many : Int) + 1) * G) ∧ (∀ r ∈ rows, r.2 ≤ 2 ∨ r.2 ≤ cost) := by
  have hl := h.lt
  have hC0 : Cs n m (S ++ [.lst []]) := h.app
  obtain ⟨t1, S1, e1, a1, b1, C1, F1⟩ := take_ok hC0 (by omega) (show 0 < gap + 1 by omega) (by omega)
  obtain ⟨t2, S2, e2, a2, b2, C2, F2⟩ := take_ok C1 (by omega) (show 0 < (many : Int) + 1 by omega) (by omega)
  have F12 := F1.trans F2
  have hL2 : S2[S.length]? = some (.lst []) := F12.at (by omega) (by rw [List.getElem?_append_right (Nat.le_refl _), Nat.sub_self]; rfl)
  have hS2 : S2.length = S.length + 1 := by rw [F12.1]; simp
  have hold : ∀ j, j ≠ n → j < S.length → S2[j]? = S[j]? := fun j hj hlt => (F12.2 j hj).trans (List.getElem?_append_left hlt)
  have hlen : (rangeP 0 t2.toNat).length = t2.toNat := rangeP_len _ _
  have loop := for_inv (ds := rangeP 0 t2.toNat) (t := .nm 6) (b := B__law_requests_T_0) (RqI S n many m gap cost)
    (env := [some (.cell n), some (.int (many : Int)), some (.int gap), some (.int cost), some (.cell S.length), some (.int t1), none]) (S := S2) ⟨[], t1, none, rfl, hS2, C2.mono (by omega), hL2, rfl, .nil, fun _ h => absurd h (by simp), a1, by omega, fun G h1 h2 => by rw [show ((0 : Nat) : Int) + 1 = 1 from rfl, Int.one_mul]; omega, hold⟩ fun i d env S3 hd hI => by
      obtain ⟨rows, mo, x, rfl, hS3, C3, hL3, hr, hp, hall, hmo, hmo2, hmo3, hold3⟩ := hI
      have hi : i < t2.toNat := by have := (List.getElem?_eq_some_iff.mp hd).1; rw [hlen] at this; exact this
      refine ⟨_, bind_nm 6, ?_⟩
      obtain ⟨u1, S4, e4, a4, b4, C4, F4⟩ := take_ok C3 (by omega) (show (0 : Int) < 4 by decide) (by decide)
      obtain ⟨u2, S5, e5, a5, b5, C5, F5⟩ := take_ok C4 (by omega) (show 0 < gap + 1 by omega) (by omega)
      obtain ⟨u3, S6, e6, a6, b6, C6, F6⟩ := take_ok C5 (by omega) (show (0 : Int) < 4 by decide) (by decide)
      obtain ⟨v, ev, hv⟩ := pick4 (S := S6) (a := 0) (b := 1) (c := u1) (d := u2) a6 b6
      obtain ⟨u4, S7, e7, a7, b7, C7, F7⟩ := take_ok C6 (by omega) (show (0 : Int) < 2 by decide) (by decide)
      obtain ⟨w, ew, hw⟩ := pick2 (S := S7) (a := 2) (b := cost) a7 b7
      obtain ⟨u5, S8, e8, a8, b8, C8, F8⟩ := take_ok C7 (by omega) (show 0 < w by omega) (by omega)
      have F37 := ((F4.trans F5).trans F6)
      have F38 := (F37.trans F7).trans F8
      have hL6 : S6[S.length]? = some (.lst (rows.map rq)) := F37.at (by omega) hL3
      have hL8 : S8[S.length]? = some (.lst (rows.map rq)) := F38.at (by omega) hL3
      have hS8 : S8.length = S.length + 1 := F38.1.trans hS3
      refine ⟨_, S8.set S.length (.lst ((rows ++ [(mo + v, 1 + u5)]).map rq)), ?_, rows ++ [(mo + v, 1 + u5)], mo + v, some d, rfl, by rw [List.length_set]; exact hS8, (C8.fr fr_set (by omega)).mono (by push_cast; omega), get_set (by omega), by simp [hr], ?_, ?_, by omega, by push_cast; omega, fun G h1 h2 => by have := hmo3 G h1 h2; push_cast; rw [Int.add_mul _ 1 G, Int.one_mul]; omega, fun j hj hlt => ?_⟩
      · unfold B__law_requests_T_0
        have ep : pushC S.length (.tup [.int (mo + v), .int (1 + u5)]) S8 = .ok .non (S8.set S.length (.lst (rows.map rq ++ [.tup [.int (mo + v), .int (1 + u5)]]))) := pushC_of (y := rq (mo + v, 1 + u5)) hL8 (by simp; omega) (bel_rq (mo + v, 1 + u5) 0)
        simp [e4, e5, e6, ev, appG_of hL6, e7, ew, e8, ep, rq]
      · rw [List.pairwise_append]
        refine ⟨hp, by simp, fun a ha b hb => ?_⟩
        have : b = (mo + v, 1 + u5) := by simpa using hb
        subst this
        have := (hall a ha).2.1
        show a.1 ≤ mo + v
        omega
      · intro r hr'
        rcases List.mem_append.mp hr' with hr' | hr'
        · have := hall r hr'
          exact ⟨this.1, by omega, this.2.2⟩
        · have : r = (mo + v, 1 + u5) := by simpa using hr'
          subst this
          exact ⟨by show 0 ≤ mo + v; omega, Int.le_refl _, by show 1 ≤ 1 + u5; omega, by show 1 + u5 ≤ _; omega, by show 1 + u5 ≤ 2 ∨ 1 + u5 ≤ cost; omega⟩
      · rw [List.getElem?_set_ne (by omega), F38.2 j hj]; exact hold3 j hj hlt
  obtain ⟨env', S', hloop, rows, mo, x, rfl, hS', C', hL', hr, hp, hall, hmo, hmo2, hmo3, hold'⟩ := loop
  rw [hlen] at hr C' hmo2 hmo3
  refine ⟨rows, S'.take S.length, ?_, ⟨by omega, hp, fun r hr' => ?_, fun r hr' => ⟨(hall r hr').2.2.1, (hall r hr').2.2.2.1⟩⟩, (C'.mono (by omega)).take hl, ⟨by rw [List.length_take, hS']; omega, fun j hj => ?_⟩, fun G h1 h2 r hr' => by have := hmo3 G h1 h2; have := (hall r hr').2.1; have h5 : ((t2.toNat : Int) + 1) * G ≤ ((many : Int) + 1) * G := Int.mul_le_mul_of_nonneg_right (by omega) (by omega); omega, fun r hr' => (hall r hr').2.2.2.2⟩
  · unfold d__law_requests_T
    rw [exitT_s]
    have hsm : smallI t2 := ⟨by omega, by omega⟩
    simp [e1, e2, rg1K_of hsm, hloop, tupleB_of (seqOf_cell hL'), bels_rq]
  · have := hall r hr'
    exact ⟨this.1, by omega⟩
  · by_cases hlt : j < S.length
    · rw [List.getElem?_take_of_lt hlt]; exact hold' j hj hlt
    · rw [List.getElem?_eq_none (by rw [List.length_take]; omega), List.getElem?_eq_none (by omega)]
theorem requests_ok3 {n many : Nat} {m gap cost : Int} {S : Sto} (h : Cs n m S) (hm : m < 10 ^ 10) (hmany : many ≤ 100) (hg : 0 ≤ gap) (hg2 : gap ≤ 1000000000000) (hc : 1 ≤ cost) (hc2 : cost ≤ 1000000000000) :
    ∃ (rows : List (Int × Int)) (S' : Sto), d__law_requests_T [.cell n, .int (many : Int), .int gap, .int cost] S = .ok (.tup (rows.map rq)) S' ∧ Rq rows many ∧ Cs n (m + 2 + 5 * (many : Int)) S' ∧ Fr n S S' ∧ (∀ G : Int, gap ≤ G → 3 ≤ G → ∀ r ∈ rows, r.1 ≤ ((many : Int) + 1) * G) := by
  obtain ⟨rows, S', e, q, C, F, hb, _⟩ := requests_ok4 h hm hmany hg hg2 hc hc2
  exact ⟨rows, S', e, q, C, F, hb⟩
theorem requests_ok2 {n many : Nat} {m gap cost : Int} {S : Sto} (h : Cs n m S) (hm : m < 10 ^ 10) (hmany : many ≤ 100) (hg : 0 ≤ gap) (hg2 : gap ≤ 1000000000000) (hc : 1 ≤ cost) (hc2 : cost ≤ 1000000000000) :
    ∃ (rows : List (Int × Int)) (S' : Sto), d__law_requests_T [.cell n, .int (many : Int), .int gap, .int cost] S = .ok (.tup (rows.map rq)) S' ∧ Rq rows many ∧ Cs n (m + 2 + 5 * (many : Int)) S' ∧ Fr n S S' ∧ (gap ≤ 40 → ∀ r ∈ rows, r.1 ≤ ((many : Int) + 1) * 40) := by
  obtain ⟨rows, S', e, q, C, F, hb⟩ := requests_ok3 h hm hmany hg hg2 hc hc2
  exact ⟨rows, S', e, q, C, F, fun h4 => hb 40 h4 (by decide)⟩
theorem requests_ok {n many : Nat} {m gap cost : Int} {S : Sto} (h : Cs n m S) (hm : m < 10 ^ 10) (hmany : many ≤ 100) (hg : 0 ≤ gap) (hg2 : gap ≤ 1000000000000) (hc : 1 ≤ cost) (hc2 : cost ≤ 1000000000000) :
    ∃ (rows : List (Int × Int)) (S' : Sto), d__law_requests_T [.cell n, .int (many : Int), .int gap, .int cost] S = .ok (.tup (rows.map rq)) S' ∧ Rq rows many ∧ Cs n (m + 2 + 5 * (many : Int)) S' ∧ Fr n S S' := by
  obtain ⟨rows, S', e, q, C, F, _⟩ := requests_ok2 h hm hmany hg hg2 hc hc2
  exact ⟨rows, S', e, q, C, F⟩
end LW

/-! PG: entries, rules, what passes. -/
namespace LW
open PySem PySem.Spec PyProof.Rows L2 LH
abbrev En : Type := Int × Int × Bool
def en (e : En) : PV := .tup [.int e.1, .int e.2.1, .bl e.2.2]
def kd (mt : Bool) : Str := if mt then "meter" else "bucket"
theorem chk_str {n : Nat} {s : Str} (h : s.cps.all (· < 0x110000) = true) : chk n (.str s) = true := by cases n <;> simpa [chk] using h
theorem chk_i {n : Nat} {i : Int} : chk n (.int i) = true := by cases n <;> simp [chk]
/-- rules -/
inductive Rl where
  | fill (mt : Bool) (a b c d : Int) | win (w m : Int) | frm (w m : Int) | gap (g : Int)
def encR : Rl → PV
  | .fill mt a b c d => .tup [.str (kd mt), .tup [.int a, .int b], .tup [.int c, .int d]]
  | .win w m => .tup [.str "window", .int w, .int m]
  | .frm w m => .tup [.str "frame", .int w, .int m]
  | .gap g => .tup [.str "gap", .int g]
/-- a span rule, its numbers not too great -/
def Sp : Rl → Prop
  | .fill .. => False
  | .win w m => 1 ≤ w ∧ w ≤ 10 ^ 50 ∧ 0 ≤ m
  | .frm w m => 1 ≤ w ∧ w ≤ 10 ^ 50 ∧ 0 ≤ m
  | .gap g => 0 ≤ g
/-- an entry counts at t -/
def cnt (r : Rl) (t : Int) (e : En) : Bool := e.2.2 && (match r with
  | .win w _ => decide (t - w < e.1)
  | .frm w _ => e.1 / w == t / w
  | _ => false)
def spent (r : Rl) (t : Int) (l : List En) : Int := ((l.filter (cnt r t)).map fun e => e.2.1).sum
def lastP (l : List En) : PV := match (l.filter fun e => e.2.2).getLast? with
  | some e => .int e.1
  | none => .non
def enough (a b c d s since : Int) : Bool := decide (s * b * d ≤ a * d + c * since * b)
/-- the lines of a bucket | a meter: youngest first -/
def fillR (mt : Bool) (a b c d t : Int) : Int → List En → Bool
  | _, [] => true
  | s, e :: r => if e.2.2 = true ∨ mt = true then enough a b c d (s + e.2.1) (t - e.1) && fillR mt a b c d t (s + e.2.1) r else fillR mt a b c d t s r
def passR (r : Rl) (past : List En) (t p : Int) : Bool := match r with
  | .fill mt a b c d => enough a b c d p 0 && fillR mt a b c d t p past.reverse
  | .win _ m => decide (p + spent r t past ≤ m)
  | .frm _ m => decide (p + spent r t past ≤ m)
  | .gap g => match (past.filter fun e => e.2.2).getLast? with
    | none => true
    | some e => decide (g ≤ t - e.1)
def heardL (r : Rl) (rows : List (Int × Int)) : List En := rows.foldl (fun past p => past ++ [(p.1, p.2, passR r past p.1 p.2)]) []
/-- a row that is well formed -/
structure Row (rows : List (Int × Int)) : Prop where
  rise : rows.Pairwise fun a b => a.1 ≤ b.1
  mom : ∀ r ∈ rows, 0 ≤ r.1
  cost : ∀ r ∈ rows, 1 ≤ r.2
theorem Rq.row {rows : List (Int × Int)} {n : Nat} (h : Rq rows n) : Row rows := ⟨h.rise, fun r hr => (h.mom r hr).1, fun r hr => (h.cost r hr).1⟩
def oks (H : List En) : List PV := H.map fun e => .bl e.2.2
def kept (H : List En) : List En := H.filter fun e => e.2.2
def rqe (e : En) : PV := rq (e.1, e.2.1)
end LW

/-! PT: the greatest divisor, fractions in lowest terms. -/
namespace LW
open PySem PySem.Spec PyProof.Rows L2 LH
def gH : TestD := tstE (binE neV (vE 1) (cE (.int 0)))
def gB : StmtD := par2S 0 1 (consA (vE 1) (consA (binE modV (bE intB (consA (vE 0) (nilA))) (vE 1)) (nilA)))
theorem gcd_loop {S : Sto} : ∀ (k a b : Nat), b ≤ k → whileS gH gB [some (.int (a : Int)), some (.int (b : Int))] S = .ok (.nx [some (.int (Nat.gcd a b : Nat)), some (.int 0)]) S
  | 0, a, b, h => by
    have hb : b = 0 := by omega
    subst hb
    rw [whileS_turn]
    have h1 : gH [some (.int (a : Int)), some (.int ((0 : Nat) : Int))] S = .ok false S := by unfold gH; simp
    rw [h1]
    simp
  | k + 1, a, b, h => by
    rw [whileS_turn]
    by_cases hb : b = 0
    · subst hb
      have h1 : gH [some (.int (a : Int)), some (.int ((0 : Nat) : Int))] S = .ok false S := by unfold gH; simp
      rw [h1]
      simp
    · have h1 : gH [some (.int (a : Int)), some (.int (b : Int))] S = .ok true S := by unfold gH; simp [hb]
      have hm : modV (.int (a : Int)) (.int (b : Int)) S = .ok (.int ((a % b : Nat) : Int)) S := by rw [modV_i _ _ (by omega)]; rfl
      have h2 : gB [some (.int (a : Int)), some (.int (b : Int))] S = .ok (.nx [some (.int (b : Int)), some (.int ((a % b : Nat) : Int))]) S := by unfold gB; simp only [par2S_s, consA_s, vE_s, nilA_s, bE_s, binE_s, bind_ok, List.getElem?_cons_zero, List.getElem?_cons_succ, consK_s, binK_s, intB_i, consK2_s, hm, runA_s, par2K_s, List.set_cons_zero, List.set_cons_succ]
      rw [h1]
      simp only [runT_s, if_pos]
      rw [h2]
      simp only
      have hlt : a % b < b := Nat.mod_lt _ (by omega)
      rw [gcd_loop k b (a % b) (by omega)]
      have e : Nat.gcd a b = Nat.gcd b (a % b) := by rw [Nat.gcd_comm a b, Nat.gcd_rec b a, Nat.gcd_comm]
      rw [e]
theorem law_common_ok {a b : Nat} {S : Sto} : d__law_common_T [.int (a : Int), .int (b : Int)] S = .ok (.int (Nat.gcd a b : Nat)) S := by
  have h : whileS H__law_common_T_0 B__law_common_T_0 [some (.int (a : Int)), some (.int (b : Int))] S = _ := gcd_loop b a b (Nat.le_refl _)
  unfold d__law_common_T
  simp [h]
/-- in lowest terms -/
structure Lt (a b : Int) (B : Int) : Prop where
  a0 : 0 ≤ a
  b1 : 1 ≤ b
  co : Nat.gcd a.toNat b.toNat = 1
  aB : a ≤ B
  bB : b ≤ B
theorem lowest_ok {a b : Nat} {S : Sto} (hb : 1 ≤ b) (hB : b < 10 ^ 100) : d__law_lowest_T [.int (a : Int), .int (b : Int)] S = .ok (.tup [.int ((a / Nat.gcd a b : Nat) : Int), .int ((b / Nat.gcd a b : Nat) : Int)]) S := by
  have hg : 0 < Nat.gcd a b := Nat.gcd_pos_of_pos_right _ hb
  have hgl : Nat.gcd a b ≤ b := Nat.gcd_le_right _ hb
  have hd : ∀ x : Nat, fdivV (.int (x : Int)) (.int (Nat.gcd a b : Nat)) S = .ok (.int ((x / Nat.gcd a b : Nat) : Int)) S := fun x => by
    rw [fdivV_i _ _ (divC_le ⟨by omega, by omega⟩)]; rfl
  have ha : ¬ ((a : Int) < 0) := by omega
  have hc := law_common_ok (a := a) (b := b) (S := S)
  have h1 := hd a
  have h2 := hd b
  generalize Nat.gcd a b = g at *
  unfold d__law_lowest_T
  simp only [fnD2, Nat.reduceSub, rep1, seqS_s, asgS_s, callE_s, consA_s, bE_s, vE_s, nilA_s, bind_ok, List.getElem?_cons_zero, List.getElem?_cons_succ, consK_s, consK2_s, absB_i, if_neg ha, hc, runE_s, asgK_nm, List.set_cons_zero, List.set_cons_succ, seqK_nx, retS_s, tupE_s, binE_s, binK_s, h1, h2, tupK2, retK_s, fnK_rt]
theorem lt_of {a b : Nat} {B : Int} (hb : 1 ≤ b) (ha : (a : Int) ≤ B) (hB : (b : Int) ≤ B) : Lt ((a / Nat.gcd a b : Nat) : Int) ((b / Nat.gcd a b : Nat) : Int) B := by
  have hg : 0 < Nat.gcd a b := Nat.gcd_pos_of_pos_right _ hb
  have h1 : a / Nat.gcd a b ≤ a := Nat.div_le_self _ _
  have h2 : b / Nat.gcd a b ≤ b := Nat.div_le_self _ _
  have h3 : 0 < b / Nat.gcd a b := Nat.div_pos (Nat.gcd_le_right _ hb) hg
  refine ⟨Int.natCast_nonneg _, by exact_mod_cast h3, ?_, by have := Int.ofNat_le.mpr h1; exact Int.le_trans this ha, by have := Int.ofNat_le.mpr h2; exact Int.le_trans this hB⟩
  rw [Int.toNat_natCast, Int.toNat_natCast]
  exact Nat.coprime_div_gcd_div_gcd hg
/-- a fill rule of naturals, in lowest terms, not too great -/
structure FN (a b c d : Nat) : Prop where
  a : a ≤ 100000000000000000000
  b : 1 ≤ b ∧ b ≤ 100000000000000000000
  c : c ≤ 100000000000000000000
  d : 1 ≤ d ∧ d ≤ 100000000000000000000
end LW

/-! PXg: the program's greatest divisor. -/
namespace LW
open PySem PySem.Spec PyProof.Rows L2 LH
theorem gcd_ok {a b : Nat} {S : Sto} : d_greatest_divisor_T [.int (a : Int), .int (b : Int)] S = .ok (.int (Nat.gcd a b : Nat)) S := by
  have h : whileS H_greatest_divisor_T_0 B_greatest_divisor_T_0 [some (.int (a : Int)), some (.int (b : Int))] S = _ := gcd_loop b a b (Nat.le_refl _)
  unfold d_greatest_divisor_T
  simp [h]
end LW

/-! PI: doors: ints, requests, what rises. -/
namespace LW
open PySem PySem.Spec PyProof.Rows L2 LH
@[simp] theorem is_integer_i (i : Int) (S : Sto) : d_is_integer_T [.int i] S = .ok (.bl true) S := by
  unfold d_is_integer_T; simp
@[simp] theorem is_at_least_i (i j : Int) (S : Sto) : d_is_at_least_T [.int i, .int j] S = .ok (.bl (decide (j ≤ i))) S := by
  unfold d_is_at_least_T; simp
theorem zip_mem {x y : PV} : ∀ {xs ys : List PV}, PV.tup [x, y] ∈ zipP xs ys → ∃ i : Nat, xs[i]? = some x ∧ ys[i]? = some y
  | [], _, h => by simp [zipP] at h
  | _ :: _, [], h => by simp [zipP] at h
  | a :: xs, b :: ys, h => by
    simp only [zipP, List.mem_cons] at h
    rcases h with h | h
    · injection h with h
      injection h with h1 h2
      injection h2 with h2 _
      exact ⟨0, by simp [h1], by simp [h2]⟩
    · obtain ⟨i, h1, h2⟩ := zip_mem h
      exact ⟨i + 1, by simpa using h1, by simpa using h2⟩
theorem zip_form {z : PV} : ∀ {xs ys : List PV}, z ∈ zipP xs ys → ∃ x y, z = .tup [x, y]
  | [], _, h => by simp [zipP] at h
  | _ :: _, [], h => by simp [zipP] at h
  | a :: xs, b :: ys, h => by
    simp only [zipP, List.mem_cons] at h
    rcases h with h | h
    · exact ⟨a, b, h⟩
    · exact zip_form h
end LW

/-! JU: what the program says of any plain value: is it a fraction, a request, an entry, a row, a log, a rule. -/
namespace LW
open PySem PySem.Spec PyProof.Rows L2 LH
mutual
/-- a value with nothing mutable in it -/
def pln : PV → Bool
  | .non => true
  | .bl _ => true
  | .int _ => true
  | .str x => x.cps.all (· < 0x110000)
  | .tup xs => plns xs
  | .lst xs => plns xs
  | .opq _ => true
  | _ => false
def plns : List PV → Bool
  | [] => true
  | x :: xs => pln x && plns xs
end
theorem plns_all : ∀ xs : List PV, plns xs = xs.all pln
  | [] => rfl
  | x :: xs => by simp [plns, plns_all xs]
mutual
theorem pln_bel (k : Nat) : ∀ d : PV, pln d = true → bel k d = true
  | .non, _ => rfl
  | .bl _, _ => rfl
  | .int _, _ => rfl
  | .str _, _ => rfl
  | .opq _, _ => rfl
  | .tup xs, h => by simp only [pln] at h; simp only [bel]; exact plns_bels k xs h
  | .lst xs, h => by simp only [pln] at h; simp only [bel]; exact plns_bels k xs h
  | .ro _, h => by simp [pln] at h
  | .cell _, h => by simp [pln] at h
  | .ty _, h => by simp [pln] at h
  | .adr _, h => by simp [pln] at h
theorem plns_bels (k : Nat) : ∀ xs : List PV, plns xs = true → bels k xs = true
  | [], _ => rfl
  | x :: xs, h => by
    simp only [plns, Bool.and_eq_true] at h
    simp only [bels, pln_bel k x h.1, plns_bels k xs h.2, Bool.and_self]
end
theorem plns_mem {xs : List PV} (h : plns xs = true) {d : PV} (hd : d ∈ xs) : pln d = true := by
  rw [plns_all] at h
  exact List.all_eq_true.mp h d hd
theorem plns_app {xs ys : List PV} (h : plns xs = true) (h' : plns ys = true) : plns (xs ++ ys) = true := by
  rw [plns_all] at h h' ⊢
  rw [List.all_append, h, h']; rfl
theorem plns_cut {xs : List PV} (h : plns xs = true) (lo hi : Option Int) : plns (cutP xs lo hi) = true := by
  rw [plns_all] at h ⊢
  unfold cutP
  exact List.all_eq_true.mpr fun d hd => List.all_eq_true.mp h d (List.mem_of_mem_drop (List.mem_of_mem_take hd))
theorem plns_rev {xs : List PV} (h : plns xs = true) : plns xs.reverse = true := by
  rw [plns_all] at h ⊢
  rw [List.all_reverse, h]
section
variable {S : Sto} {xs : List PV}
@[simp] theorem ii_opqJ {t : Value} : isinB [.opq t, .ty "int"] S = .ok (.bl false) S := isin_v (fun _ h => nomatch h) (fun _ h => nomatch h) rfl
@[simp] theorem ib_opqJ {t : Value} : isinB [.opq t, .ty "bool"] S = .ok (.bl false) S := isin_v (fun _ h => nomatch h) (fun _ h => nomatch h) rfl
@[simp] theorem is_opqJ {t : Value} : isinB [.opq t, .ty "str"] S = .ok (.bl false) S := isin_v (fun _ h => nomatch h) (fun _ h => nomatch h) rfl
@[simp] theorem it_opqJ {t : Value} : isinB [.opq t, .ty "tuple"] S = .ok (.bl false) S := isin_v (fun _ h => nomatch h) (fun _ h => nomatch h) rfl
@[simp] theorem il_opqJ {t : Value} : isinB [.opq t, .ty "list"] S = .ok (.bl false) S := isin_v (fun _ h => nomatch h) (fun _ h => nomatch h) rfl
@[simp] theorem it_strJ {x : Str} : isinB [.str x, .ty "tuple"] S = .ok (.bl false) S := (rfl)
@[simp] theorem is_nonJ : isinB [.non, .ty "str"] S = .ok (.bl false) S := (rfl)
@[simp] theorem is_tupJ : isinB [.tup xs, .ty "str"] S = .ok (.bl false) S := (rfl)
@[simp] theorem is_lstJ : isinB [.lst xs, .ty "str"] S = .ok (.bl false) S := (rfl)
end
/-- an integer from n on -/
def atl (n : Int) : PV → Bool
  | .int i => decide (n ≤ i)
  | _ => false
def isStr : PV → Bool
  | .str _ => true
  | _ => false
def isIntB : PV → Bool
  | .int _ => true
  | _ => false
def isTup : PV → Bool
  | .tup _ => true
  | _ => false
def fraB : PV → Bool
  | .tup [x, y] => match x, y with
    | .int a, .int b => decide (0 ≤ a) && (decide (1 ≤ b) && Nat.gcd a.toNat b.toNat == 1)
    | _, _ => false
  | _ => false
def reqB : PV → Bool
  | .tup [x, y] => atl 0 x && atl 1 y
  | _ => false
def isBl : PV → Bool
  | .bl _ => true
  | _ => false
def entB : PV → Bool
  | .tup [x, y, z] => atl 0 x && (atl 1 y && isBl z)
  | _ => false
def fsI : PV → Int
  | .tup (.int i :: _) => i
  | _ => 0
def rsB (xs : List PV) : Bool := (List.range (xs.length - 1)).all fun i => decide (fsI (xs[i]?.getD .non) ≤ fsI (xs[i + 1]?.getD .non))
theorem rsB_iff {xs : List PV} : rsB xs = true ↔ ∀ i, i + 1 < xs.length → fsI (xs[i]?.getD .non) ≤ fsI (xs[i + 1]?.getD .non) := by
  unfold rsB
  rw [List.all_eq_true]
  constructor
  · intro h i hi
    exact of_decide_eq_true (h i (List.mem_range.mpr (by omega)))
  · intro h i hi
    have := List.mem_range.mp hi
    exact decide_eq_true (h i (by omega))
def rowB : PV → Bool
  | .tup xs => xs.all reqB && rsB xs
  | _ => false
def logB : PV → Bool
  | .tup xs => xs.all entB && rsB xs
  | _ => false
def ruleB : PV → Bool
  | .tup (.str s :: r) =>
    if s = "bucket" ∨ s = "meter" then (match r with | [x, y] => fraB x && fraB y | _ => false)
    else if s = "window" ∨ s = "frame" then (match r with | [x, y] => atl 1 x && atl 0 y | _ => false)
    else if s = "gap" then (match r with | [x] => atl 0 x | _ => false)
    else false
  | _ => false
section
variable {S : Sto}
theorem is_integer_any {x : PV} (h : pln x = true) : d_is_integer_T [x] S = .ok (.bl (isIntB x)) S := by
  cases x with
  | cell n => cases h
  | ty n => cases h
  | ro n => cases h
  | adr n => cases h
  | _ => unfold d_is_integer_T; simp [isIntB]
theorem is_at_least_any {x : PV} (h : pln x = true) (n : Int) : d_is_at_least_T [x, .int n] S = .ok (.bl (atl n x)) S := by
  have h1 := is_integer_any (S := S) h
  cases x with
  | int i => unfold d_is_at_least_T; simp [h1, isIntB, atl]
  | _ => unfold d_is_at_least_T; simp [h1, isIntB, atl]
theorem gcd_int {a b : Int} (ha : 0 ≤ a) (hb : 0 ≤ b) : d_greatest_divisor_T [.int a, .int b] S = .ok (.int (Nat.gcd a.toNat b.toNat : Nat)) S := by
  have h := gcd_ok (a := a.toNat) (b := b.toNat) (S := S)
  rw [Int.toNat_of_nonneg ha, Int.toNat_of_nonneg hb] at h
  exact h
theorem is_fraction_any {x : PV} (h : pln x = true) : d_is_fraction_T [x] S = .ok (.bl (fraB x)) S := by
  cases x with
  | tup xs =>
    match xs, h with
    | [], _ => unfold d_is_fraction_T; simp [fraB]
    | [a], _ => unfold d_is_fraction_T; simp [fraB]
    | [a, b], h =>
      simp only [pln, plns, Bool.and_eq_true] at h
      have h1 := is_at_least_any (S := S) h.1 0
      have h2 := is_at_least_any (S := S) h.2.1 1
      unfold d_is_fraction_T
      simp [h1, h2]
      cases a with
      | int i =>
        cases b with
        | int j =>
          by_cases hi : 0 ≤ i
          · by_cases hj : 1 ≤ j
            · have this := gcd_int (S := S) hi (show 0 ≤ j by omega)
              have hfr : fraB (.tup [.int i, .int j]) = (Nat.gcd i.toNat j.toNat == 1) := by
                show (decide (0 ≤ i) && (decide (1 ≤ j) && Nat.gcd i.toNat j.toNat == 1)) = _
                rw [decide_eq_true hi, decide_eq_true hj]; rfl
              rw [hfr]
              generalize Nat.gcd i.toNat j.toNat = g at this ⊢
              simp [atl, hi, hj, this]
              by_cases hg : g = 1
              · subst hg; rfl
              · have h5 : ((g : Int) == 1) = false := by rw [beq_eq_false_iff_ne]; omega
                have h6 : (g == 1) = false := by rw [beq_eq_false_iff_ne]; exact hg
                rw [h5, h6]
            · simp [atl, fraB, hi, hj]
          · simp [atl, fraB, hi]
        | _ => by_cases hi : 0 ≤ i <;> simp [atl, fraB, hi]
      | _ => simp [atl, fraB]
    | a :: b :: c :: r, _ =>
      unfold d_is_fraction_T
      have : ¬ ((r.length : Int) + 1 + 1 + 1 = 2) := by omega
      simp [fraB, this]
  | cell n => cases h
  | ty n => cases h
  | ro n => cases h
  | adr n => cases h
  | _ => unfold d_is_fraction_T; simp [fraB]
theorem is_request_any {x : PV} (h : pln x = true) : d_is_request_T [x] S = .ok (.bl (reqB x)) S := by
  cases x with
  | tup xs =>
    match xs, h with
    | [], _ => unfold d_is_request_T; simp [reqB]
    | [a], _ => unfold d_is_request_T; simp [reqB]
    | [a, b], h =>
      simp only [pln, plns, Bool.and_eq_true] at h
      have h1 := is_at_least_any (S := S) h.1 0
      have h2 := is_at_least_any (S := S) h.2.1 1
      unfold d_is_request_T
      simp [h1, h2, reqB]
      cases atl 0 a <;> simp
    | a :: b :: c :: r, _ =>
      unfold d_is_request_T
      have : ¬ ((r.length : Int) + 1 + 1 + 1 = 2) := by omega
      simp [reqB, this]
  | cell n => cases h
  | ty n => cases h
  | ro n => cases h
  | adr n => cases h
  | _ => unfold d_is_request_T; simp [reqB]
theorem isin_bool {x : PV} (h : pln x = true) : isinB [x, .ty "bool"] S = .ok (.bl (isBl x)) S := by
  cases x with
  | cell n => cases h
  | ty n => cases h
  | ro n => cases h
  | adr n => cases h
  | _ => simp [isBl] <;> rfl
theorem isin_tup {x : PV} (h : pln x = true) : isinB [x, .ty "tuple"] S = .ok (.bl (isTup x)) S := by
  cases x with
  | cell n => cases h
  | ty n => cases h
  | ro n => cases h
  | adr n => cases h
  | _ => simp [isTup] <;> rfl
theorem is_entry_any {x : PV} (h : pln x = true) : d_is_entry_T [x] S = .ok (.bl (entB x)) S := by
  cases x with
  | tup xs =>
    match xs, h with
    | [], _ => unfold d_is_entry_T; simp [entB]
    | [a], _ => unfold d_is_entry_T; simp [entB]
    | [a, b], _ => unfold d_is_entry_T; simp [entB]
    | [a, b, c], h =>
      simp only [pln, plns, Bool.and_eq_true] at h
      have h1 := is_request_any (S := S) (x := .tup [a, b]) (by simp [pln, plns, h.1, h.2.1])
      have h2 := isin_bool (S := S) h.2.2.1
      unfold d_is_entry_T
      simp [h1, h2, entB, reqB]
      cases atl 0 a <;> cases atl 1 b <;> simp
    | a :: b :: c :: d :: r, _ =>
      unfold d_is_entry_T
      have : ¬ ((r.length : Int) + 1 + 1 + 1 + 1 = 3) := by omega
      simp [entB, this]
  | cell n => cases h
  | ty n => cases h
  | ro n => cases h
  | adr n => cases h
  | _ => unfold d_is_entry_T; simp [entB]
theorem allB_of {f : PV → Bool} {xs : List PV} : LH.allB [.lst (xs.map fun d => .bl (f d))] S = .ok (.bl (xs.all f)) S := by
  have : ∀ xs : List PV, asBools (xs.map fun d => PV.bl (f d)) = some (xs.map f) := by
    intro xs
    induction xs with
    | nil => rfl
    | cons x xs ih => simp [asBools, ih]
  unfold LH.allB
  simp only [lstOf_lst, Option.bind_some, this]
  simp [List.all_map, Function.comp_def]
theorem zip_nexts : ∀ {xs : List PV} (f : PV → PV → Bool), (zipP xs (xs.drop 1)).all (fun d => match d with | .tup [x, y] => f x y | _ => true) = true ↔ ∀ i, i + 1 < xs.length → f (xs[i]?.getD .non) (xs[i + 1]?.getD .non) = true := by
  intro xs f
  rw [List.all_eq_true]
  constructor
  · intro h i hi
    have : ∀ (a b : List PV) (i : Nat) (x y : PV), a[i]? = some x → b[i]? = some y → PV.tup [x, y] ∈ zipP a b := by
      intro a
      induction a with
      | nil => intro b i x y h; simp at h
      | cons u a ih =>
        intro b i x y h h'
        cases b with
        | nil => simp at h'
        | cons v b =>
          simp only [zipP]
          cases i with
          | zero => simp at h h'; subst h h'; exact List.mem_cons_self
          | succ i => exact List.mem_cons_of_mem _ (ih b i x y (by simpa using h) (by simpa using h'))
    have e1 : xs[i]? = some (xs[i]?.getD .non) := by rw [List.getElem?_eq_getElem (show i < xs.length by omega)]; rfl
    have e2 : (xs.drop 1)[i]? = some (xs[i + 1]?.getD .non) := by
      rw [List.getElem?_drop, Nat.add_comm 1 i, List.getElem?_eq_getElem hi]; rfl
    exact h _ (this _ _ i _ _ e1 e2)
  · intro h d hd
    obtain ⟨x, y, rfl⟩ := zip_form hd
    obtain ⟨i, h1, h2⟩ := zip_mem hd
    rw [List.getElem?_drop, Nat.add_comm] at h2
    have hl := (List.getElem?_eq_some_iff.mp h2).1
    have := h i hl
    rw [h1, h2] at this
    exact this
theorem is_rising_any {xs : List PV} (h : ∀ x ∈ xs, ∃ i r, x = .tup (.int i :: r)) : d_is_rising_T [.tup xs] S = .ok (.bl (rsB xs)) S := by
  have hc := comp_map (ds := zipP xs (xs.drop 1)) (t := .tp [.nm 1, .nm 2]) (el := X_is_rising_T_0) (env0 := wipeE [some (.tup xs), none, none] [1, 2]) (S := S)
    (fun d => .bl (match d with | .tup [x, y] => decide (fsI x ≤ fsI y) | _ => true)) fun d hd => by
    obtain ⟨x, y, rfl⟩ := zip_form hd
    obtain ⟨i, h1, h2⟩ := zip_mem hd
    rw [List.getElem?_drop] at h2
    obtain ⟨a, r, rfl⟩ := h x (List.mem_of_getElem? h1)
    obtain ⟨b, r', rfl⟩ := h y (List.mem_of_getElem? h2)
    exact ⟨[some (.tup xs), some (.tup (.int a :: r)), some (.tup (.int b :: r'))], by simp [wipeE], by simp [X_is_rising_T_0, fsI]; exact decide_eq_decide.mpr Iff.rfl⟩
  have ha := allB_of (S := S) (f := fun d => match d with | .tup [x, y] => decide (fsI x ≤ fsI y) | _ => true) (xs := zipP xs (xs.drop 1))
  have hz : ((zipP xs (xs.drop 1)).all fun d => match d with | .tup [x, y] => decide (fsI x ≤ fsI y) | _ => true) = rsB xs := by
    rw [Bool.eq_iff_iff, zip_nexts (fun x y => decide (fsI x ≤ fsI y)), rsB_iff]
    simp
  rw [hz] at ha
  unfold d_is_rising_T
  simp only [List.drop_one] at hc ha
  simp [hc, ha]
theorem reqB_form {x : PV} (h : reqB x = true) : ∃ i r, x = .tup (.int i :: r) := by
  unfold reqB at h
  split at h
  · rename_i a b
    cases a with
    | int i => exact ⟨i, _, rfl⟩
    | _ => simp [atl] at h
  · cases h
theorem entB_form {x : PV} (h : entB x = true) : ∃ i r, x = .tup (.int i :: r) := by
  unfold entB at h
  split at h
  · rename_i a b c
    cases a with
    | int i => exact ⟨i, _, rfl⟩
    | _ => simp [atl] at h
  · cases h
theorem is_row_any {x : PV} (h : pln x = true) : d_is_row_T [x] S = .ok (.bl (rowB x)) S := by
  have ht := isin_tup (S := S) h
  cases x with
  | tup xs =>
    simp only [pln] at h
    have hc := comp_map (ds := xs) (t := .nm 1) (el := X_is_row_T_0) (env0 := wipeE [some (.tup xs), none] [1]) (S := S) (fun d => .bl (reqB d)) fun d hd =>
      ⟨[some (.tup xs), some d], by simp [wipeE], by simp [X_is_row_T_0, is_request_any (plns_mem h hd)]⟩
    have hA := allB_of (S := S) (f := reqB) (xs := xs)
    have hR : rowB (.tup xs) = (xs.all reqB && rsB xs) := rfl
    rw [hR]
    unfold d_is_row_T
    cases ha : xs.all reqB with
    | true =>
      have := is_rising_any (S := S) (xs := xs) fun x hx => reqB_form (List.all_eq_true.mp ha x hx)
      rw [ha] at hA
      simp [hc, hA, this]
    | false =>
      rw [ha] at hA
      simp [hc, hA]
  | _ => unfold d_is_row_T; simp [ht, isTup, rowB]
theorem is_log_any {x : PV} (h : pln x = true) : d_is_log_T [x] S = .ok (.bl (logB x)) S := by
  have ht := isin_tup (S := S) h
  cases x with
  | tup xs =>
    simp only [pln] at h
    have hc := comp_map (ds := xs) (t := .nm 1) (el := X_is_log_T_0) (env0 := wipeE [some (.tup xs), none] [1]) (S := S) (fun d => .bl (entB d)) fun d hd =>
      ⟨[some (.tup xs), some d], by simp [wipeE], by simp [X_is_log_T_0, is_entry_any (plns_mem h hd)]⟩
    have hA := allB_of (S := S) (f := entB) (xs := xs)
    have hR : logB (.tup xs) = (xs.all entB && rsB xs) := rfl
    rw [hR]
    unfold d_is_log_T
    cases ha : xs.all entB with
    | true =>
      have := is_rising_any (S := S) (xs := xs) fun x hx => entB_form (List.all_eq_true.mp ha x hx)
      rw [ha] at hA
      simp [hc, hA, this]
    | false =>
      rw [ha] at hA
      simp [hc, hA]
  | _ => unfold d_is_log_T; simp [ht, isTup, logB]
theorem inV_two {s a b : Str} : LH.inV (.str s) (.tup [.str a, .str b]) S = .ok (.bl (decide (s = a ∨ s = b))) S := by
  have h : ∀ x : Str, (x == s) = decide (s = x) := fun x => by
    by_cases e : s = x
    · subst e; simp
    · rw [decide_eq_false e, beq_eq_false_iff_ne]; exact fun z => e z.symm
  unfold LH.inV
  simp [flat, LH.inB, feq, h]
theorem eqV_word {s t : Str} (hs : s.cps.all (· < 0x110000) = true) (ht : t.cps.all (· < 0x110000) = true) : eqV (.str s) (.str t) S = .ok (.bl (decide (s = t))) S := by
  rw [eqV_strL hs ht rfl]
  congr 2
theorem isin_str {x : PV} (h : pln x = true) : isinB [x, .ty "str"] S = .ok (.bl (isStr x)) S := by
  cases x with
  | cell n => cases h
  | ty n => cases h
  | ro n => cases h
  | adr n => cases h
  | _ => simp [isStr] <;> rfl
theorem is_rule_any {x : PV} (h : pln x = true) : d_is_rule_T [x] S = .ok (.bl (ruleB x)) S := by
  have ht := isin_tup (S := S) h
  cases x with
  | tup xs =>
    cases xs with
    | nil => unfold d_is_rule_T; simp [eqZ_tup, ruleB]
    | cons x r =>
      simp only [pln, plns, Bool.and_eq_true] at h
      have hs := isin_str (S := S) h.1
      have hz : ((x :: r).length == 0) = false := rfl
      cases x with
      | str s =>
        have hw : s.cps.all (· < 0x110000) = true := h.1
        have hg := eqV_word (S := S) hw (show ("gap" : Str).cps.all (· < 0x110000) = true by decide +kernel)
        unfold d_is_rule_T
        by_cases h1 : s = "bucket" ∨ s = "meter"
        · match r, h with
          | [], _ => simp [eqZ_tup, ruleB, inV_two, h1]
          | [a], _ => simp [eqZ_tup, ruleB, inV_two, h1]
          | [a, b], h =>
            simp only [plns, Bool.and_eq_true] at h
            have ha := is_fraction_any (S := S) h.2.1
            have hb := is_fraction_any (S := S) h.2.2.1
            simp [eqZ_tup, ruleB, inV_two, h1, ha, hb]
            cases fraB a <;> simp
          | a :: b :: c :: r, _ =>
            have : ¬ ((r.length : Int) + 1 + 1 + 1 + 1 = 3) := by omega
            simp [eqZ_tup, ruleB, inV_two, h1, this]
        · by_cases h2 : s = "window" ∨ s = "frame"
          · match r, h with
            | [], _ => simp [eqZ_tup, ruleB, inV_two, h1, h2]
            | [a], _ => simp [eqZ_tup, ruleB, inV_two, h1, h2]
            | [a, b], h =>
              simp only [plns, Bool.and_eq_true] at h
              have ha := is_at_least_any (S := S) h.2.1 1
              have hb := is_at_least_any (S := S) h.2.2.1 0
              simp [eqZ_tup, ruleB, inV_two, h1, h2, ha, hb]
              cases atl 1 a <;> simp
            | a :: b :: c :: r, _ =>
              have : ¬ ((r.length : Int) + 1 + 1 + 1 + 1 = 3) := by omega
              simp [eqZ_tup, ruleB, inV_two, h1, h2, this]
          · by_cases h3 : s = "gap"
            · subst h3
              match r, h with
              | [], _ => simp [eqZ_tup, ruleB, inV_two, h1, h2]
              | [a], h =>
                simp only [plns, Bool.and_eq_true] at h
                have ha := is_at_least_any (S := S) h.2.1 0
                simp [eqZ_tup, ruleB, inV_two, h1, h2, ha]
              | a :: b :: r, _ =>
                have : ¬ ((r.length : Int) + 1 + 1 + 1 = 2) := by omega
                simp [eqZ_tup, ruleB, inV_two, h1, h2, this]
            · simp [eqZ_tup, ruleB, inV_two, h1, h2, h3, hg]
      | _ => unfold d_is_rule_T; simp [eqZ_tup, hs, isStr, ruleB]
  | _ => unfold d_is_rule_T; simp [ht, isTup, ruleB]
end
end LW

/-! JL: the law's own judges say the same. -/
namespace LW
open PySem PySem.Spec PyProof.Rows L2 LH
section
variable {S : Sto}
theorem is_whole_any {x : PV} (h : pln x = true) (n : Int) : d__law_is_whole_T [x, .int n] S = .ok (.bl (atl n x)) S := by
  cases x with
  | cell n => cases h
  | ty n => cases h
  | ro n => cases h
  | adr n => cases h
  | _ => unfold d__law_is_whole_T; simp [atl]
theorem law_common_int {a b : Int} (ha : 0 ≤ a) (hb : 0 ≤ b) : d__law_common_T [.int a, .int b] S = .ok (.int (Nat.gcd a.toNat b.toNat : Nat)) S := by
  have h := law_common_ok (a := a.toNat) (b := b.toNat) (S := S)
  rw [Int.toNat_of_nonneg ha, Int.toNat_of_nonneg hb] at h
  exact h
theorem rule_body {t x : PV} (h : pln x = true) : B__law_is_rule_T_0 [some t, some x] S = if fraB x = true then .ok (.nx [some t, some x]) S else .ok (.rt (.bl false)) S := by
  have ht := isin_tup (S := S) h
  cases x with
  | tup xs =>
    match xs, h with
    | [], _ => unfold B__law_is_rule_T_0; simp [fraB]
    | [a], _ => unfold B__law_is_rule_T_0; simp [fraB]
    | [a, b], h =>
      simp only [pln, plns, Bool.and_eq_true] at h
      have h1 := is_whole_any (S := S) h.1 0
      have h2 := is_whole_any (S := S) h.2.1 1
      unfold B__law_is_rule_T_0
      cases a with
      | int i =>
        cases b with
        | int j =>
          by_cases hi : 0 ≤ i
          · by_cases hj : 1 ≤ j
            · have this := law_common_int (S := S) hi (show 0 ≤ j by omega)
              have hfr : fraB (.tup [.int i, .int j]) = (Nat.gcd i.toNat j.toNat == 1) := by
                show (decide (0 ≤ i) && (decide (1 ≤ j) && Nat.gcd i.toNat j.toNat == 1)) = _
                rw [decide_eq_true hi, decide_eq_true hj]; rfl
              rw [hfr]
              generalize Nat.gcd i.toNat j.toNat = g at this ⊢
              simp [h1, h2, atl, hi, hj, this]
              by_cases hg : g = 1
              · subst hg; simp
              · have h5 : ((g : Int) == 1) = false := by rw [beq_eq_false_iff_ne]; omega
                simp [h5, hg]
                omega
            · simp [h1, h2, atl, fraB, hi, hj]
          · simp [h1, h2, atl, fraB, hi]
        | _ => by_cases hi : 0 ≤ i <;> simp [h1, h2, atl, fraB, hi]
      | _ => simp [h1, h2, atl, fraB]
    | a :: b :: c :: r, _ =>
      unfold B__law_is_rule_T_0
      have : ¬ ((r.length : Int) + 1 + 1 + 1 = 2) := by omega
      simp [fraB, this]
  | _ => unfold B__law_is_rule_T_0; simp [ht, isTup, fraB]
theorem forL_rt2 {ds : List PV} {t : Tg} {b : StmtD} {d e : PV} {env env1 : PEnv} {r : List PV} (h : t.bind S d env = some env1) (hb : b env1 S = .ok (.rt e) S) : forL none ds t b (d :: r) env S = .ok (.rt e) S := by
  unfold forL
  rw [guardW_none, h]
  dsimp only
  rw [hb]
theorem forL_nx2 {ds : List PV} {t : Tg} {b : StmtD} {d : PV} {env env1 env2 : PEnv} {r : List PV} (h : t.bind S d env = some env1) (hb : b env1 S = .ok (.nx env2) S) : forL none ds t b (d :: r) env S = forL none ds t b r env2 S := by
  conv => lhs; unfold forL
  rw [guardW_none, h]
  dsimp only
  rw [hb]
theorem forL_nil2 {ds : List PV} {t : Tg} {b : StmtD} {env : PEnv} : forL none ds t b [] env S = .ok (.nx env) S := by
  unfold forL; rfl
theorem rule_loop {ds : List PV} {t : PV} : ∀ (r : List PV) (z : Option PV), plns r = true → (r.all fraB = true → ∃ z', forL none ds (.nm 1) B__law_is_rule_T_0 r [some t, z] S = .ok (.nx [some t, z']) S) ∧ (r.all fraB = false → forL none ds (.nm 1) B__law_is_rule_T_0 r [some t, z] S = .ok (.rt (.bl false)) S)
  | [], z, _ => ⟨fun _ => ⟨z, forL_nil2⟩, fun h => by simp at h⟩
  | x :: r, z, h => by
    simp only [plns, Bool.and_eq_true] at h
    have hb := rule_body (S := S) (t := t) h.1
    have ih := rule_loop (ds := ds) (t := t) r (some x) h.2
    cases hf : fraB x with
    | true =>
      rw [hf, if_pos rfl] at hb
      have e := forL_nx2 (S := S) (ds := ds) (r := r) (t := .nm 1) (d := x) (env := [some t, z]) (bind_nm 1) hb
      rw [e]
      simp only [List.all_cons, hf, Bool.true_and]
      exact ih
    | false =>
      rw [hf, if_neg (by decide)] at hb
      have e := forL_rt2 (S := S) (ds := ds) (r := r) (t := .nm 1) (d := x) (env := [some t, z]) (bind_nm 1) hb
      rw [e]
      simp [hf]
theorem neV_word {s t : Str} (hs : s.cps.all (· < 0x110000) = true) (ht : t.cps.all (· < 0x110000) = true) : neV (.str s) (.str t) S = .ok (.bl (!decide (s = t))) S := by
  rw [neV_of (x := .str s) (y := .str t) (by simpa [topV, chk] using hs) (by simpa [topV, chk] using ht)]
  simp only [topV, peq, feq]
  congr 2
theorem law_is_rule_any {x : PV} (h : pln x = true) : d__law_is_rule_T [x] S = .ok (.bl (ruleB x)) S := by
  have ht := isin_tup (S := S) h
  cases x with
  | tup xs =>
    cases xs with
    | nil => unfold d__law_is_rule_T; simp [ruleB]
    | cons x r =>
      simp only [pln, plns, Bool.and_eq_true] at h
      have hs := isin_str (S := S) h.1
      cases r with
      | nil =>
        unfold d__law_is_rule_T
        cases x with
        | str s => simp [ruleB]
        | _ => simp [hs, isStr, ruleB]
      | cons a r =>
        have hlt : ¬ ((r.length : Int) + 1 + 1 < 2) := by omega
        cases x with
        | str s =>
          have hw : s.cps.all (· < 0x110000) = true := h.1
          have hg := eqV_word (S := S) hw (show ("gap" : Str).cps.all (· < 0x110000) = true by decide +kernel)
          have hwi := eqV_word (S := S) hw (show ("window" : Str).cps.all (· < 0x110000) = true by decide +kernel)
          have hfr := eqV_word (S := S) hw (show ("frame" : Str).cps.all (· < 0x110000) = true by decide +kernel)
          have hbu := neV_word (S := S) hw (show ("bucket" : Str).cps.all (· < 0x110000) = true by decide +kernel)
          have hme := neV_word (S := S) hw (show ("meter" : Str).cps.all (· < 0x110000) = true by decide +kernel)
          simp only [plns, Bool.and_eq_true] at h
          have ha0 := is_whole_any (S := S) h.2.1 0
          have ha1 := is_whole_any (S := S) h.2.1 1
          unfold d__law_is_rule_T
          by_cases h3 : s = "gap"
          · subst h3
            have q1 : ¬ (("gap" : Str) = "bucket" ∨ ("gap" : Str) = "meter") := by decide +kernel
            have q2 : ¬ (("gap" : Str) = "window" ∨ ("gap" : Str) = "frame") := by decide +kernel
            match r, h with
            | [], _ => simp [ha0, ruleB, q1, q2]
            | b :: r, _ =>
              have : ¬ ((r.length : Int) + 1 + 1 + 1 = 2) := by omega
              have h4 : ¬ ((r.length : Int) + 1 + 1 + 1 < 2) := by omega
              simp [h4, this, ruleB, q1, q2]
          · match r, h with
            | [], _ => simp [hg, h3, ruleB]
            | b :: c :: r, _ =>
              have : ¬ ((r.length : Int) + 1 + 1 + 1 + 1 = 3) := by omega
              have h4 : ¬ ((r.length : Int) + 1 + 1 + 1 + 1 < 2) := by omega
              simp [hg, h3, this, h4, ruleB]
            | [b], h =>
              have hpb : pln b = true := by simpa [plns] using h.2.2
              have hb0 := is_whole_any (S := S) hpb 0
              by_cases h2 : s = "window" ∨ s = "frame"
              · have h1 : ¬ (s = "bucket" ∨ s = "meter") := by rcases h2 with rfl | rfl <;> decide +kernel
                rcases h2 with h2 | h2
                · subst h2
                  simp [ha1, hb0, ruleB, h1]
                  cases atl 1 a <;> simp
                · subst h2
                  simp [ha1, hb0, ruleB, h1]
                  cases atl 1 a <;> simp
              · have h2' := not_or.mp h2
                by_cases h1 : s = "bucket" ∨ s = "meter"
                · have hl := rule_loop (S := S) (ds := [a, b]) (t := .tup [.str s, a, b]) [a, b] none (by simp [plns, h.2.1, hpb])
                  simp [hg, h3, hwi, hfr, h2'.1, h2'.2, hbu, hme]
                  have hor : ¬ (¬ s = "bucket" ∧ ¬ s = "meter") := fun z => h1.elim z.1 z.2
                  by_cases hsb : s = "bucket"
                  · simp [hsb, ruleB]
                    cases hf : (fraB a && fraB b) with
                    | true =>
                      obtain ⟨z', e⟩ := hl.1 (by simpa using hf)
                      subst hsb
                      simp [e]
                    | false =>
                      have e := hl.2 (by simpa using hf)
                      subst hsb
                      simp [e]
                  · have hsm : s = "meter" := h1.resolve_left hsb
                    subst hsm
                    simp [ruleB]
                    cases hf : (fraB a && fraB b) with
                    | true =>
                      obtain ⟨z', e⟩ := hl.1 (by simpa using hf)
                      simp [e]
                    | false =>
                      have e := hl.2 (by simpa using hf)
                      simp [e]
                · have h1' := not_or.mp h1
                  simp [hg, h3, hwi, hfr, h2'.1, h2'.2, hbu, hme, h1'.1, h1'.2, ruleB]
        | _ => unfold d__law_is_rule_T; simp [hlt, hs, isStr, ruleB]
  | _ => unfold d__law_is_rule_T; simp [ht, isTup, ruleB]
/-- an entry or a request -/
def entN (n : Int) : PV → Bool := if n = 3 then entB else reqB
theorem log_body {t x : PV} {n : Int} {w : Option PV} (hn : n = 2 ∨ n = 3) (h : pln x = true) : B__law_is_log_T_0 [some t, some (.int n), some x, w] S = if entN n x = true then .ok (.nx [some t, some (.int n), some x, w]) S else .ok (.rt (.bl false)) S := by
  have ht := isin_tup (S := S) h
  cases x with
  | tup xs =>
    rcases hn with rfl | rfl
    · match xs, h with
      | [], _ => unfold B__law_is_log_T_0; simp [entN, reqB]
      | [a], _ => unfold B__law_is_log_T_0; simp [entN, reqB]
      | [a, b], h =>
        simp only [pln, plns, Bool.and_eq_true] at h
        have h1 := is_whole_any (S := S) h.1 0
        have h2 := is_whole_any (S := S) h.2.1 1
        unfold B__law_is_log_T_0
        simp [h1, h2, entN, reqB]
        cases atl 0 a <;> cases atl 1 b <;> simp
      | a :: b :: c :: r, _ =>
        unfold B__law_is_log_T_0
        have : ¬ ((r.length : Int) + 1 + 1 + 1 = 2) := by omega
        simp [entN, reqB, this]
    · match xs, h with
      | [], _ => unfold B__law_is_log_T_0; simp [entN, entB]
      | [a], _ => unfold B__law_is_log_T_0; simp [entN, entB]
      | [a, b], _ => unfold B__law_is_log_T_0; simp [entN, entB]
      | [a, b, c], h =>
        simp only [pln, plns, Bool.and_eq_true] at h
        have h1 := is_whole_any (S := S) h.1 0
        have h2 := is_whole_any (S := S) h.2.1 1
        have h3 := isin_bool (S := S) h.2.2.1
        unfold B__law_is_log_T_0
        simp [h1, h2, h3, entN, entB]
        cases atl 0 a <;> cases atl 1 b <;> cases hbl : isBl c <;> simp [h3, hbl]
      | a :: b :: c :: d :: r, _ =>
        unfold B__law_is_log_T_0
        have : ¬ ((r.length : Int) + 1 + 1 + 1 + 1 = 3) := by omega
        simp [entN, entB, this]
  | _ =>
    rcases hn with rfl | rfl <;> (unfold B__law_is_log_T_0; simp [ht, isTup, entN, entB, reqB])
theorem log_loop {ds : List PV} {t : PV} {n : Int} {w : Option PV} (hn : n = 2 ∨ n = 3) : ∀ (r : List PV) (z : Option PV), plns r = true → (r.all (entN n) = true → ∃ z', forL none ds (.nm 2) B__law_is_log_T_0 r [some t, some (.int n), z, w] S = .ok (.nx [some t, some (.int n), z', w]) S) ∧ (r.all (entN n) = false → forL none ds (.nm 2) B__law_is_log_T_0 r [some t, some (.int n), z, w] S = .ok (.rt (.bl false)) S)
  | [], z, _ => ⟨fun _ => ⟨z, forL_nil2⟩, fun h => by simp at h⟩
  | x :: r, z, h => by
    simp only [plns, Bool.and_eq_true] at h
    have hb := log_body (S := S) (t := t) (w := w) hn h.1
    have ih := log_loop (ds := ds) (t := t) (w := w) hn r (some x) h.2
    cases hf : entN n x with
    | true =>
      rw [hf, if_pos rfl] at hb
      have e := forL_nx2 (S := S) (ds := ds) (r := r) (t := .nm 2) (d := x) (env := [some t, some (.int n), z, w]) (bind_nm 2) hb
      rw [e]
      simp only [List.all_cons, hf, Bool.true_and]
      exact ih
    | false =>
      rw [hf, if_neg (by decide)] at hb
      have e := forL_rt2 (S := S) (ds := ds) (r := r) (t := .nm 2) (d := x) (env := [some t, some (.int n), z, w]) (bind_nm 2) hb
      rw [e]
      simp [hf]
theorem entN_form {n : Int} {x : PV} (h : entN n x = true) : ∃ i r, x = .tup (.int i :: r) := by
  unfold entN at h
  split at h
  · exact entB_form h
  · exact reqB_form h
theorem rise_law {xs : List PV} {n : Int} {z : Option PV} (hl : xs.length ≤ 1000000) (h : ∀ x ∈ xs, ∃ i r, x = .tup (.int i :: r)) :
    ∃ zs : List PV, chks 59 zs = true ∧ zs.isEmpty = rsB xs ∧ compL none (rangeP 1 (xs.length - 1)) (.nm 3) G__law_is_log_T_0 X__law_is_log_T_0 (wipeE [some (.tup xs), some (.int n), z, none] [3]) (rangeP 1 (xs.length - 1)) [] S = .ok (.lst zs) S := by
  have hmem : ∀ d, d ∈ rangeP 1 (xs.length - 1) → ∃ i : Nat, i + 1 < xs.length ∧ d = .int ((i : Int) + 1) := fun d hd => by
    obtain ⟨i, hi⟩ := List.getElem?_of_mem hd
    have h1 := (List.getElem?_eq_some_iff.mp hi).1
    rw [rangeP_len] at h1
    rw [rangeP_get _ _ _ h1] at hi
    injection hi with hi
    exact ⟨i, by omega, by rw [← hi]; congr 1; omega⟩
  have hc := comp_filter (ds := rangeP 1 (xs.length - 1)) (t := .nm 3) (tst := G__law_is_log_T_0) (el := X__law_is_log_T_0) (env0 := wipeE [some (.tup xs), some (.int n), z, none] [3]) (S := S)
    (fun d => match d with | .int k => decide (fsI (xs[k.toNat]?.getD .non) < fsI (xs[k.toNat - 1]?.getD .non)) | _ => false) (fun d => d) fun d hd => by
    obtain ⟨i, hi, rfl⟩ := hmem d hd
    have e1 : xs[i]? = some xs[i] := List.getElem?_eq_getElem (by omega)
    have e2 : xs[i + 1]? = some xs[i + 1] := List.getElem?_eq_getElem hi
    obtain ⟨a, r, ha⟩ := h _ (List.getElem_mem (show i < xs.length by omega))
    obtain ⟨b, r', hb⟩ := h _ (List.getElem_mem hi)
    rw [ha] at e1
    rw [hb] at e2
    have k1 : itemV (.tup xs) (.int (i : Int)) S = .ok (.tup (.int a :: r)) S := item_nat rfl e1
    have k2 : itemV (.tup xs) (.int ((i : Int) + 1)) S = .ok (.tup (.int b :: r')) S := by
      rw [show (i : Int) + 1 = ((i + 1 : Nat) : Int) by omega]; exact item_nat rfl e2
    have t1 : ((i : Int) + 1).toNat = i + 1 := by omega
    have t2 : ((i : Int) + 1).toNat - 1 = i := by omega
    refine ⟨[some (.tup xs), some (.int n), z, some (.int ((i : Int) + 1))], by simp [wipeE], ?_, fun _ => by simp [X__law_is_log_T_0]⟩
    dsimp only
    rw [t2, t1, e1, e2]
    simp [G__law_is_log_T_0, k1, k2, fsI]
    exact decide_eq_decide.mpr Iff.rfl
  refine ⟨_, ?_, ?_, hc⟩
  · have hall : ∀ l : List PV, (∀ d ∈ l, ∃ i : Int, d = .int i) → chks 59 l = true := by
      intro l
      induction l with
      | nil => intro _; rfl
      | cons x l ih =>
        intro h
        obtain ⟨i, rfl⟩ := h x List.mem_cons_self
        simp only [chks, chk, Bool.true_and]
        exact ih fun d hd => h d (List.mem_cons_of_mem _ hd)
    refine hall _ fun d hd => ?_
    simp only [List.map_id', List.mem_filter] at hd
    obtain ⟨i, _, rfl⟩ := hmem d hd.1
    exact ⟨_, rfl⟩
  · rw [Bool.eq_iff_iff]
    rw [rsB_iff, List.isEmpty_iff]
    simp only [List.map_id', List.filter_eq_nil_iff]
    constructor
    · intro hz i hi
      have hm : PV.int ((i : Int) + 1) ∈ rangeP 1 (xs.length - 1) := by
        refine List.mem_of_getElem? (i := i) ?_
        rw [rangeP_get _ _ _ (by omega)]
        congr 2; omega
      have := hz _ hm
      have t1 : ((i : Int) + 1).toNat = i + 1 := by omega
      have t2 : ((i : Int) + 1).toNat - 1 = i := by omega
      dsimp only at this
      rw [t2, t1] at this
      simpa using this
    · intro hz d hd
      obtain ⟨i, hi, rfl⟩ := hmem d hd
      have := hz i hi
      have t1 : ((i : Int) + 1).toNat = i + 1 := by omega
      have t2 : ((i : Int) + 1).toNat - 1 = i := by omega
      dsimp only
      rw [t2, t1]
      simpa using this
def logN (n : Int) : PV → Bool
  | .tup xs => xs.all (entN n) && rsB xs
  | _ => false
theorem law_is_log_gen {x : PV} {n : Int} (hn : n = 2 ∨ n = 3) (h : pln x = true) (hl : ∀ xs, x = .tup xs → xs.length ≤ 1000000) :
    d__law_is_log_T [x, .int n] S = .ok (.bl (logN n x)) S := by
  have ht := isin_tup (S := S) h
  cases x with
  | tup xs =>
    simp only [pln] at h
    have hlen := hl xs rfl
    have hlp := log_loop (S := S) (ds := xs) (t := .tup xs) (w := none) hn xs none h
    have hR : logN n (.tup xs) = (xs.all (entN n) && rsB xs) := rfl
    rw [hR]
    unfold d__law_is_log_T
    cases ha : xs.all (entN n) with
    | true =>
      obtain ⟨z', e⟩ := hlp.1 ha
      obtain ⟨zs, h1, h2, h3⟩ := rise_law (S := S) (n := n) (z := z') hlen fun x hx => entN_form (List.all_eq_true.mp ha x hx)
      have hr : rg2K2 (.int 1) (.int (xs.length : Int)) S = .ok (none, rangeP 1 (xs.length - 1)) S := by
        rw [rg2K2_of ⟨by omega, by omega⟩ ⟨by omega, by omega⟩]; congr 3; omega
      simp [e, hr, h3, eq_nil_lst h1, h2]
    | false =>
      simp [hlp.2 ha]
  | _ => unfold d__law_is_log_T; simp [ht, isTup, logN]
theorem law_is_row_any {x : PV} (h : pln x = true) (hl : ∀ xs, x = .tup xs → xs.length ≤ 1000000) : d__law_is_log_T [x, .int 2] S = .ok (.bl (rowB x)) S := by
  rw [law_is_log_gen (.inl rfl) h hl]
  cases x <;> rfl
theorem law_is_log_any {x : PV} (h : pln x = true) (hl : ∀ xs, x = .tup xs → xs.length ≤ 1000000) : d__law_is_log_T [x, .int 3] S = .ok (.bl (logB x)) S := by
  rw [law_is_log_gen (.inr rfl) h hl]
  cases x <;> rfl
end
end LW

/-! SQ: statement by statement; lists of plain values of small size. -/
namespace LW
open PySem PySem.Spec PyProof.Rows L2 LH
section
variable {S S' : Sto} {env env' : PEnv} {p q : StmtD} {r : Res LH.Flow} {d : PV}
theorem seqS_of (env' : PEnv) (S' : Sto) (h : p env S = .ok (.nx env') S') (k : q env' S' = r) : seqS p q env S = r := by
  rw [seqS_s, h, seqK_nx]; exact k
theorem fnK_of {v : PV} (h : r = .ok (.rt v) S) : fnK r = .ok v S := by rw [h]; rfl
@[simp] theorem seqK_exJ {x : Exc} : seqK q (.ok (.ex x env) S) = .ok (.ex x env) S := (rfl)
@[simp] theorem fnK_exJ {x : Exc} : fnK (.ok (.ex x env) S) = .exc x S := (rfl)
@[simp] theorem exTK_excJ {n : Nat} {nm : Str} : exTK n (.exc ⟨nm, []⟩ S) = .exc ⟨nm, []⟩ (S.take n) := (rfl)
theorem negV_i (i : Int) : LH.negV (.int i) S = .ok (.int (-i)) S := (rfl)
theorem exT_of {v : PV} {n : Nat} {S2 : Sto} (S' : Sto) (h : r = .ok (.rt v) S') (hv : pln v = true) (ht : S'.take n = S2) : exTK n (fnK r) = .ok v S2 := by
  rw [fnK_of h, exTK_val (fun k hk => by subst hk; simp [pln] at hv) (pln_bel _ _ hv), ht]
def szB : PV → Bool
  | .tup xs => decide (xs.length ≤ 1000)
  | _ => true
/-- plain, and if a tuple, a small one -/
def gd (d : PV) : Bool := pln d && szB d
theorem gd_pln (h : gd d = true) : pln d = true := by
  unfold gd at h
  rw [Bool.and_eq_true] at h
  exact h.1
theorem gd_len (h : gd d = true) : ∀ xs, d = .tup xs → xs.length ≤ 1000000 := fun xs e => by
  subst e
  unfold gd szB at h
  rw [Bool.and_eq_true, decide_eq_true_iff] at h
  omega
theorem gd_tup {xs : List PV} (h : plns xs = true) (hl : xs.length ≤ 1000) : gd (.tup xs) = true := by
  unfold gd szB
  simp only [pln, h, decide_eq_true hl, Bool.and_self]
theorem pick_gd {xs : List PV} {t : Int} (h : xs.all gd = true) (h0 : 0 ≤ t) (hl : t < xs.length) : ∃ v, itemV (.lst xs) (.int t) S = .ok v S ∧ gd v = true ∧ v ∈ xs := by
  have hk : t.toNat < xs.length := by omega
  refine ⟨xs[t.toNat], item_int h0 rfl (List.getElem?_eq_getElem hk), List.all_eq_true.mp h _ (List.getElem_mem hk), List.getElem_mem hk⟩
theorem bels_gd {xs : List PV} (h : xs.all gd = true) (k : Nat) : bels k xs = true := by
  rw [bels_all]
  exact List.all_eq_true.mpr fun d hd => pln_bel k d (gd_pln (List.all_eq_true.mp h d hd))
/-- a value in the place of a tuple's item, or between two -/
def putG (xs : List PV) (i j : Int) (d : PV) : PV := .tup (cutP xs none (some i) ++ [d] ++ cutP xs (some j) none)
theorem gd_put {xs : List PV} (h : plns xs = true) (hl : xs.length ≤ 400) {i j : Int} {d : PV} (hd : pln d = true) : gd (putG xs i j d) = true := by
  refine gd_tup (plns_app (plns_app (plns_cut h _ _) (by simp [plns, hd])) (plns_cut h _ _)) ?_
  have h1 := cut_len xs none (some i)
  have h2 := cut_len xs (some j) none
  simp only [List.length_append, List.length_singleton]
  omega
theorem add_put {xs : List PV} (hl : xs.length ≤ 400) {i j : Int} {d : PV} : (LH.addV (.tup (cutP xs none (some i))) (.tup [d]) S).bind (fun x S2 => LH.addV x (.tup (cutP xs (some j) none)) S2) = .ok (putG xs i j d) S := by
  have h1 := cut_len xs none (some i)
  have h2 := cut_len xs (some j) none
  rw [addV_tup (by simp; omega), bind_ok, addV_tup (by simp; omega)]
  rfl
theorem all_map_gd {α : Type} {f : α → PV} {l : List α} (h : ∀ a ∈ l, gd (f a) = true) : (l.map f).all gd = true := by
  rw [List.all_map]
  exact List.all_eq_true.mpr h
end
end LW

/-! PK: what the law's own sums say of span rules. -/
namespace LW
open PySem PySem.Spec PyProof.Rows L2 LH
end LW

/-! PV: what the law's own sums say of buckets and meters. -/
namespace LW
open PySem PySem.Spec PyProof.Rows L2 LH
/-- no number too great -/
structure Nb (a b c d : Int) : Prop where
  a : 0 ≤ a ∧ a ≤ 10 ^ 40
  b : 1 ≤ b ∧ b ≤ 10 ^ 40
  c : 0 ≤ c ∧ c ≤ 10 ^ 40
  d : 1 ≤ d ∧ d ≤ 10 ^ 40
/-- no time, no cost too great -/
def Pb (past : List En) (t : Int) : Prop := ∀ e ∈ past, 1 ≤ e.2.1 ∧ e.2.1 ≤ 10 ^ 15 ∧ 0 ≤ e.1 ∧ e.1 ≤ t
end LW

/-! PF: the law's own comparison, where it says yes. -/
namespace LW
open PySem PySem.Spec PyProof.Rows L2 LH
/-- alike in all, at most so deep -/
inductive Sm (S : Sto) : Nat → PV → PV → Prop
  | int {n : Nat} (i : Int) : Sm S (n + 1) (.int i) (.int i)
  | bl {n : Nat} (b : Bool) : Sm S (n + 1) (.bl b) (.bl b)
  | non {n : Nat} : Sm S (n + 1) .non .non
  | str {n : Nat} (s : Str) (h : s.cps.all (· < 0x110000) = true) (hr : (s == s) = true) : Sm S (n + 1) (.str s) (.str s)
  | lst {n : Nat} {x y : PV} {xs ys : List PV} (h1 : lstOf S x = some xs) (h2 : lstOf S y = some ys) (hz : xs.length ≤ 8000000) (hl : xs.length = ys.length) (h : ∀ (i : Nat) (d e : PV), xs[i]? = some d → ys[i]? = some e → Sm S n d e) : Sm S (n + 1) x y
  | tup {n : Nat} {xs ys : List PV} (hz : xs.length ≤ 8000000) (hl : xs.length = ys.length) (h : ∀ (i : Nat) (d e : PV), xs[i]? = some d → ys[i]? = some e → Sm S n d e) : Sm S (n + 1) (.tup xs) (.tup ys)
theorem same_true {S : Sto} : ∀ {n : Nat} {x y : PV}, Sm S n x y → r__law_same_T n [x, y] S = .ok (.bl true) S
  | _, _, _, .int i => by
    show b__law_same_T _ _ _ = _
    unfold b__law_same_T
    simp [isinsV, isaAny, isaB]
  | _, _, _, .bl b => by
    show b__law_same_T _ _ _ = _
    unfold b__law_same_T
    simp
  | _, _, _, .non => by
    have he : eqV .non .non S = .ok (.bl true) S := rfl
    show b__law_same_T _ _ _ = _
    unfold b__law_same_T
    simp [isinsV, isaAny, isaB, he]
  | _, _, _, .str s h hr => by
    have he : eqV (.str s) (.str s) S = .ok (.bl true) S := eqV_strL h h hr
    show b__law_same_T _ _ _ = _
    unfold b__law_same_T
    simp [isinsV, isaAny, isaB, he]
  | n + 1, x, y, .lst (xs := xs) (ys := ys) h1 h2 hz hl h => by
    obtain ⟨x1, x2, x3, x4⟩ := isL_lst h1
    obtain ⟨y1, y2, y3, y4⟩ := isL_lst h2
    have lx := lenB_of (seq_of_lst h1)
    have ly := lenB_of (seq_of_lst h2)
    have hc := comp_filter (ds := rangeP 0 ys.length) (t := .nm 2) (tst := notT (tstE (callE (r__law_same_T n) (consA (binE itemV (vE 0) (vE 2)) (consA (binE itemV (vE 1) (vE 2)) (nilA)))))) (el := vE 2) (env0 := wipeE [some x, some y, none] [2]) (S := S) (fun _ => false) id fun d hd => by
      obtain ⟨i, hi, rfl⟩ := rangeP_mem hd
      have hi' : i < xs.length := by omega
      refine ⟨_, bind_nm 2, ?_, fun z => nomatch z⟩
      simp [wipeE, item_nat (seq_of_lst h1) (List.getElem?_eq_getElem hi'), item_nat (seq_of_lst h2) (List.getElem?_eq_getElem hi), same_true (h i _ _ (List.getElem?_eq_getElem hi') (List.getElem?_eq_getElem hi))]
    have he : eqV (.lst []) (.lst []) S = .ok (.bl true) S := rfl
    have hf : (rangeP 0 ys.length).filter (fun _ => false) = [] := List.filter_eq_nil_iff.mpr fun _ _ h => nomatch h
    show b__law_same_T _ _ _ = _
    unfold b__law_same_T
    simp [x1, x2, x3, x4, y1, y2, y3, y4, lx, ly, hl, rg1K_nat (show ys.length ≤ 8000000 by omega), hc, hf, he]
  | n + 1, _, _, .tup (xs := xs) (ys := ys) hz hl h => by
    have hc := comp_filter (ds := rangeP 0 ys.length) (t := .nm 2) (tst := notT (tstE (callE (r__law_same_T n) (consA (binE itemV (vE 0) (vE 2)) (consA (binE itemV (vE 1) (vE 2)) (nilA)))))) (el := vE 2) (env0 := wipeE [some (.tup xs), some (.tup ys), none] [2]) (S := S) (fun _ => false) id fun d hd => by
      obtain ⟨i, hi, rfl⟩ := rangeP_mem hd
      have hi' : i < xs.length := by omega
      refine ⟨_, bind_nm 2, ?_, fun z => nomatch z⟩
      simp [wipeE, item_nat (S := S) (seqOf_tup (xs := xs)) (List.getElem?_eq_getElem hi'), item_nat (S := S) (seqOf_tup (xs := ys)) (List.getElem?_eq_getElem hi), same_true (h i _ _ (List.getElem?_eq_getElem hi') (List.getElem?_eq_getElem hi))]
    have he : eqV (.lst []) (.lst []) S = .ok (.bl true) S := rfl
    have hf : (rangeP 0 ys.length).filter (fun _ => false) = [] := List.filter_eq_nil_iff.mpr fun _ _ h => nomatch h
    have x4 : ∀ zs, isinsV ["list", "tuple"] (.tup zs) S = .ok (.bl true) S := fun zs => rfl
    show b__law_same_T _ _ _ = _
    unfold b__law_same_T
    simp [x4, hl, rg1K_nat (show ys.length ≤ 8000000 by omega), hc, hf, he]
theorem Sm.up {S : Sto} : ∀ {n m : Nat} {x y : PV}, Sm S n x y → n ≤ m → Sm S m x y
  | _, 0, _, _, .int i, h => by omega
  | _, 0, _, _, .bl i, h => by omega
  | _, 0, _, _, .non, h => by omega
  | _, 0, _, _, .str s _ _, h => by omega
  | _, 0, _, _, .lst .., h => by omega
  | _, 0, _, _, .tup .., h => by omega
  | _, m + 1, _, _, .int i, _ => .int i
  | _, m + 1, _, _, .bl i, _ => .bl i
  | _, m + 1, _, _, .non, _ => .non
  | _, m + 1, _, _, .str s h hr, _ => .str s h hr
  | _, m + 1, _, _, .lst h1 h2 hz hl h, hm => .lst h1 h2 hz hl fun i d e a b => Sm.up (h i d e a b) (by omega)
  | _, m + 1, _, _, .tup hz hl h, hm => .tup hz hl fun i d e a b => Sm.up (h i d e a b) (by omega)
end LW

/-! TA: rules of all kinds, the law's side. -/
namespace LW
open PySem PySem.Spec PyProof.Rows L2 LH
def Ok : Rl → Prop
  | .fill _ a b c d => ∃ a' b' c' d' : Nat, a = a' ∧ b = b' ∧ c = c' ∧ d = d' ∧ FN a' b' c' d' ∧ Nat.gcd a' b' = 1 ∧ Nat.gcd c' d' = 1
  | .win w m => Sp (.win w m)
  | .frm w m => Sp (.frm w m)
  | .gap g => Sp (.gap g)
theorem Ok.of_sp {r : Rl} (h : Sp r) : Ok r := by cases r <;> first | exact h.elim | exact h
/-- a row that is well formed, no number too great -/
structure Rw (rows : List (Int × Int)) : Prop where
  row : Row rows
  bd : ∀ q ∈ rows, q.1 ≤ 10 ^ 45 ∧ q.2 ≤ 10 ^ 15
  len : rows.length ≤ 500
theorem Rw.take {rows : List (Int × Int)} (h : Rw rows) (k : Nat) : Rw (rows.take k) :=
  ⟨⟨h.row.rise.sublist (List.take_sublist _ _), fun r hr => h.row.mom r (List.mem_of_mem_take hr), fun r hr => h.row.cost r (List.mem_of_mem_take hr)⟩, fun q hq => h.bd q (List.mem_of_mem_take hq), by rw [List.length_take]; have := h.len; omega⟩
/-- a rule whose numbers are not too great to be heard -/
def OkH : Rl → Prop
  | .fill _ a b c d => Nb a b c d
  | .win w m => Sp (.win w m)
  | .frm w m => Sp (.frm w m)
  | .gap g => Sp (.gap g)
theorem Ok.h {r : Rl} (h : Ok r) : OkH r := by
  cases r with
  | fill mt a b c d =>
    obtain ⟨a, b, c, d, rfl, rfl, rfl, rfl, hF, _, _⟩ := h
    exact ⟨by have := hF.a; omega, by have := hF.b; omega, by have := hF.c; omega, by have := hF.d; omega⟩
  | win w m => exact h
  | frm w m => exact h
  | gap g => exact h
def Wrd (k : Str) : Prop := k = "bucket" ∨ k = "meter" ∨ k = "window" ∨ k = "frame" ∨ k = "gap"
/-! == of logs -/
def rqp (e : En) : Int × Int := (e.1, e.2.1)
def Lg (l : List En) : Prop := Rw (l.map rqp)
theorem Rq.rw {rows : List (Int × Int)} {n : Nat} (h : Rq rows n) (hn : n ≤ 100) : Rw rows := by
  refine ⟨h.row, fun q hq => ?_, by have := h.len; omega⟩
  have h1 := h.mom q hq
  have h2 := h.cost q hq
  omega
def lgv (l : List En) : PV := .tup (l.map en)
theorem Lg.mem {l : List En} (h : Lg l) {e : En} (he : e ∈ l) : 0 ≤ e.1 ∧ 1 ≤ e.2.1 := ⟨h.row.mom _ (List.mem_map_of_mem (f := rqp) he), h.row.cost _ (List.mem_map_of_mem (f := rqp) he)⟩
theorem Lg.rise {l : List En} (h : Lg l) : l.Pairwise fun a b => a.1 ≤ b.1 := by
  have := h.row.rise
  rw [List.pairwise_map] at this
  exact this
end LW

/-! K05a: values that are no rules. -/
namespace LW
open PySem PySem.Spec PyProof.Rows L2 LH
def odd9 : List PV := [.non, .bl true, .bl false, .str "1", .tup [.int 1, .int 2, .int 3, .int 4], .lst [.int 2], dct0, .tup [.int 1], .int (-1)]
theorem odd9_gd : odd9.all gd = true := by decide +kernel
def bads (o : PV) : List PV := [o, .tup [.int 1, o], .tup [o, .int 1], .tup [.int 2, .int 4], .tup [.int 0, .int 2], .tup [.int 3, .int 9], .tup [.int 0, .int 3], .tup [.int 35, .int 49], .tup [.int 1, .int 0], .tup [.int (-1), .int 2], .lst [.int 1, .int 2], .tup [.int 1, .int 2, .int 3], .tup [.int 1, .int 2]]
theorem plns_bads {o : PV} (h : pln o = true) : plns (bads o) = true := by simp [bads, plns, pln, h]
def heads (k a b c d : Str) : List PV := [.non, .int 1, .lst [.str k], dct0, .str a, .str b, .str c, .str "", .str d, .tup [.str k], .str "Bucket", .str "leaky"]
theorem addV_str {a b : Str} {S : Sto} (h : a.length + b.length ≤ 1000) : LH.addV (.str a) (.str b) S = .ok (.str (a ++ b)) S := if_pos (by rw [sizeLine_eq]; omega)
theorem sliceV_str {a : Str} {lo hi : Option Int} {S : Sto} (h : a.length ≤ 1000) : sliceV (.str a) lo hi S = .ok (.str (cutS a lo hi)) S := if_pos (by rw [sizeLine_eq]; omega)
theorem word_ops {k : Str} (h : Wrd k) : ∃ a b c d : Str, (∀ S, LH.addV (.str k) (.str "s") S = .ok (.str a) S) ∧ (∀ S, sliceV (.str k) none (some (-1)) S = .ok (.str b) S) ∧ (∀ S, sliceV (.str k) (some 1) none S = .ok (.str c) S) ∧ (∀ S, LH.addV (.str " ") (.str k) S = .ok (.str d) S) ∧
    pln (.str a) = true ∧ pln (.str b) = true ∧ pln (.str c) = true ∧ pln (.str d) = true ∧ pln (.str k) = true := by
  have hl : k.length ≤ 100 := by rcases h with rfl | rfl | rfl | rfl | rfl <;> decide +kernel
  have hs : ("s" : Str).length = 1 := by decide +kernel
  have hs2 : (" " : Str).length = 1 := by decide +kernel
  refine ⟨k ++ "s", cutS k none (some (-1)), cutS k (some 1) none, " " ++ k, fun S => addV_str (by omega), fun S => sliceV_str (by omega), fun S => sliceV_str (by omega), fun S => addV_str (by omega), ?_, ?_, ?_, ?_, ?_⟩
  all_goals rcases h with rfl | rfl | rfl | rfl | rfl <;> decide +kernel
theorem nr0 {e0 e2 e4 e5 e6 e7 e9 : Option PV} {rs : List PV} {i : Int} {d : PV} {S : Sto} (hl : rs.length ≤ 400) :
    X__law_no_rule_T_0 [e0, some (.tup rs), e2, some (.int i), e4, e5, e6, e7, some d, e9] S = .ok (putG rs i (i + 1) d) S := by
  have h := add_put (S := S) hl (i := i) (j := i + 1) (d := d)
  unfold X__law_no_rule_T_0
  simp at h ⊢
  rw [addV_tup (by have := cut_len rs none (some i); simp; omega)] at h ⊢
  simpa using h
theorem nr1 {e0 e2 e3 e4 e5 e6 e7 e8 : Option PV} {rs : List PV} {x d : PV} {S : Sto} (hl : rs.length ≤ 400) :
    X__law_no_rule_T_1 [e0, some (.tup (x :: rs)), e2, e3, e4, e5, e6, e7, e8, some d] S = .ok (.tup (d :: rs)) S := by
  unfold X__law_no_rule_T_1
  simp
  exact addV_tup (as := [d]) (bs := rs) (by simp; omega)
theorem no_rule_ok {n : Nat} {m : Int} {S : Sto} {k : Str} {xs : List PV} (hk : Wrd k) (h : Cs n m S) (hm : m + 20 < 10 ^ 10) (hx : plns xs = true) (hl : 1 ≤ xs.length) (hl2 : xs.length ≤ 10) :
    ∃ (v : PV) (S' : Sto), d__law_no_rule_T [.cell n, .tup (.str k :: xs)] S = .ok v S' ∧ gd v = true ∧ Cs n (m + 3) S' ∧ Fr n S S' := by
  obtain ⟨t1, S1, e1, a1, b1, C1, F1⟩ := take_ok h (by omega) (show (0 : Int) < 9 by decide) (by decide)
  obtain ⟨o, eo, ho, _⟩ := pick_gd (S := S1) odd9_gd a1 (show t1 < (odd9.length : Int) from b1)
  obtain ⟨t2, S2, e2, a2, b2, C2, F2⟩ := take_ok C1 (by omega) (show (0 : Int) < (xs.length : Int) by omega) (by omega)
  obtain ⟨wa, wb, wc, wd, w1, w2, w3, w4, p1, p2, p3, p4, pk⟩ := word_ops hk
  have hw : k.cps.all (· < 0x110000) = true := pk
  have q1 := fun S => eqV_word (S := S) hw (show ("bucket" : Str).cps.all (· < 0x110000) = true by decide +kernel)
  have q2 := fun S => eqV_word (S := S) hw (show ("meter" : Str).cps.all (· < 0x110000) = true by decide +kernel)
  have q3 := fun S => eqV_word (S := S) hw (show ("window" : Str).cps.all (· < 0x110000) = true by decide +kernel)
  have q4 := fun S => eqV_word (S := S) hw (show ("frame" : Str).cps.all (· < 0x110000) = true by decide +kernel)
  have po := gd_pln ho
  have hrs : plns (.str k :: xs) = true := by
    show (pln (.str k) && plns xs) = true
    rw [pk, hx]; rfl
  have hlr : (PV.str k :: xs).length ≤ 400 := by simp; omega
  obtain ⟨B, hB, pB, zB⟩ : ∃ B : List PV, (if k = "bucket" ∨ k = "meter" then cutP (bads o) none (some (-1)) ++ [.int 3] else bads o) = B ∧ plns B = true ∧ B.length ≤ 14 := by
    refine ⟨_, rfl, ?_, ?_⟩
    · split
      · exact plns_app (plns_cut (plns_bads po) _ _) (by simp [plns, pln])
      · exact plns_bads po
    · split
      · have := cut_len (bads o) none (some (-1))
        have h2 : (bads o).length = 13 := rfl
        simp; omega
      · show 13 ≤ 14; omega
  obtain ⟨D, hD, pD, zD⟩ : ∃ D : List PV, (if k = "window" ∨ k = "frame" then B.map (putG (.str k :: xs) (1 + t2) (1 + t2 + 1)) ++ [.tup [.str k, .int 0, .int 3], .tup [.str k, .int 3, .int (-1)]] else B.map (putG (.str k :: xs) (1 + t2) (1 + t2 + 1))) = D ∧ D.all gd = true ∧ D.length ≤ 20 := by
    have hg : (B.map (putG (.str k :: xs) (1 + t2) (1 + t2 + 1))).all gd = true := all_map_gd fun d hd => gd_put hrs hlr (plns_mem pB hd)
    refine ⟨_, rfl, ?_, ?_⟩
    · split
      · rw [List.all_append, hg]
        simp only [Bool.true_and, List.all_cons, List.all_nil, Bool.and_true]
        rw [gd_tup (by simp only [plns, pk]; rfl) (by simp), gd_tup (by simp only [plns, pk]; rfl) (by simp)]; rfl
      · exact hg
    · split <;> simp <;> omega
  have pH : plns (heads k wa wb wc wd) = true := by
    unfold heads
    simp only [plns, p1, p2, p3, p4, pk, Bool.and_true, Bool.true_and]
    have e0 : pln dct0 = true := rfl
    have e1 : pln (.str "") = true := by decide +kernel
    have e2 : pln (.str "Bucket") = true := by decide +kernel
    have e3 : pln (.str "leaky") = true := by decide +kernel
    have e4 : pln (.lst [.str k]) = true := by show (pln (.str k) && true) = true; rw [pk]; rfl
    have e5 : pln (.tup [.str k]) = true := by show (pln (.str k) && true) = true; rw [pk]; rfl
    have e6 : pln .non = true := rfl
    have e7 : ∀ i, pln (.int i) = true := fun _ => rfl
    simp only [e0, e1, e2, e3, e4, e5, e6, e7, Bool.and_true]
  have zH : (heads k wa wb wc wd).length = 12 := rfl
  obtain ⟨E, hE, pE, zE⟩ : ∃ E : List PV, D ++ (heads k wa wb wc wd).map (fun d => PV.tup (d :: xs)) = E ∧ E.all gd = true ∧ E.length ≤ 40 := by
    refine ⟨_, rfl, ?_, by simp [zH]; omega⟩
    rw [List.all_append, pD, all_map_gd fun d hd => gd_tup (by simp only [plns, plns_mem pH hd, hx]; rfl) (by simp; omega)]; rfl
  obtain ⟨G, hG, pG, zG, zG0⟩ : ∃ G : List PV, E ++ ([.tup [], .non, .str k, .lst (.str k :: xs), .tup (.str k :: xs ++ [.int 1]), .tup (cutP (.str k :: xs) none (some (-1))), .tup xs] : List PV) ++ ([dct0, .int 0, .tup [.tup (.str k :: xs)]] : List PV) = G ∧ G.all gd = true ∧ G.length ≤ 60 ∧ 1 ≤ G.length := by
    refine ⟨_, rfl, ?_, by simp; omega, by simp⟩
    rw [List.all_append, List.all_append, pE]
    have g1 : gd (.str k) = true := by unfold gd szB; rw [pk]; rfl
    have g2 : gd (.lst (.str k :: xs)) = true := by show (plns (.str k :: xs) && true) = true; rw [hrs]; rfl
    have g3 : gd (.tup (.str k :: xs ++ [.int 1])) = true := gd_tup (plns_app hrs (by simp [plns, pln])) (by simp; omega)
    have g4 : gd (.tup (cutP (.str k :: xs) none (some (-1)))) = true := gd_tup (plns_cut hrs _ _) (by have := cut_len (.str k :: xs) none (some (-1)); omega)
    have g5 : gd (.tup xs) = true := gd_tup hx (by omega)
    have g6 : gd (.tup [.tup (.str k :: xs)]) = true := gd_tup (by show (plns (.str k :: xs) && true) = true; rw [hrs]; rfl) (by simp)
    simp only [List.all_cons, List.all_nil, g1, g2, g3, g4, g5, g6]
    rfl
  obtain ⟨t3, S3, e3, a3, b3, C3, F3⟩ := take_ok C2 (by omega) (show (0 : Int) < (G.length : Int) by omega) (by omega)
  obtain ⟨v, ev, hv, _⟩ := pick_gd (S := S3) pG a3 b3
  have c1 := comp_map (ds := B) (t := .nm 8) (el := X__law_no_rule_T_0) (env0 := wipeE [some (.cell n), some (.tup (.str k :: xs)), some o, some (.int (1 + t2)), some (.lst B), none, none, none, none, none] [8]) (S := S2)
    (putG (.str k :: xs) (1 + t2) (1 + t2 + 1)) fun d hd => ⟨[some (.cell n), some (.tup (.str k :: xs)), some o, some (.int (1 + t2)), some (.lst B), none, none, none, some d, none], by simp [wipeE], nr0 hlr⟩
  have c2 := comp_map (ds := heads k wa wb wc wd) (t := .nm 9) (el := X__law_no_rule_T_1) (env0 := wipeE [some (.cell n), some (.tup (.str k :: xs)), some o, some (.int (1 + t2)), some (.lst B), some (.lst D), some (.str k), some (.lst (heads k wa wb wc wd)), none, none] [9]) (S := S2)
    (fun d => .tup (d :: xs)) fun d hd => ⟨[some (.cell n), some (.tup (.str k :: xs)), some o, some (.int (1 + t2)), some (.lst B), some (.lst D), some (.str k), some (.lst (heads k wa wb wc wd)), none, some d], by simp [wipeE], nr1 (by omega)⟩
  have hrs2 : seqOf S2 (.tup (.str k :: xs)) = some (.str k :: xs) := rfl
  refine ⟨v, S3, ?_, hv, C3.mono (by omega), (F1.trans F2).trans F3⟩
  unfold odd9 at eo
  unfold d__law_no_rule_T
  rw [fnD2]
  refine fnK_of ?_
  simp only [Nat.reduceSub, rep8]
  refine seqS_of [some (.cell n), some (.tup (.str k :: xs)), some o, none, none, none, none, none, none, none] S1 (by simp [e1, eo, negV_i, listK_ok]) ?_
  refine seqS_of [some (.cell n), some (.tup (.str k :: xs)), some o, some (.int (1 + t2)), none, none, none, none, none, none] S2 (by simp [e2]) ?_
  refine seqS_of [some (.cell n), some (.tup (.str k :: xs)), some o, some (.int (1 + t2)), some (.lst ((bads o).take 10)), none, none, none, none, none] S2 (by simp [bads, negV_i, listK_ok]) ?_
  refine seqS_of [some (.cell n), some (.tup (.str k :: xs)), some o, some (.int (1 + t2)), some (.lst (bads o)), none, none, none, none, none] S2 (by
    have ha := addV_lst (S := S2) (as := (bads o).take 10) (bs := (bads o).drop 10) (by simp [bads])
    rw [List.take_append_drop] at ha
    have hd : (bads o).drop 10 = [.lst [.int 1, .int 2], .tup [.int 1, .int 2, .int 3], .tup [.int 1, .int 2]] := rfl
    rw [hd] at ha
    generalize (bads o).take 10 = T at *
    generalize bads o = T2 at *
    simp [ha]) ?_
  refine seqS_of [some (.cell n), some (.tup (.str k :: xs)), some o, some (.int (1 + t2)), some (.lst B), none, none, none, none, none] S2 (by
    have hcut : sliceV (.lst (bads o)) none (some (-1)) S2 = .ok (.lst (cutP (bads o) none (some (-1)))) S2 := sliceV_lst _ _
    have ha := addV_lst (S := S2) (as := cutP (bads o) none (some (-1))) (bs := [.int 3]) (by have := cut_len (bads o) none (some (-1)); have h2 : (bads o).length = 13 := rfl; simp; omega)
    generalize bads o = T2 at *
    by_cases k1 : k = "bucket"
    · rw [if_pos (.inl k1)] at hB
      rw [hB] at ha
      simp [q1, k1, hcut, ha, negV_i]
    · by_cases k2 : k = "meter"
      · rw [if_pos (.inr k2)] at hB
        rw [hB] at ha
        simp [q1, q2, k1, k2, hcut, ha, negV_i]
      · rw [if_neg (fun z => z.elim k1 k2)] at hB
        simp [q1, q2, k1, k2, hB]) ?_
  refine seqS_of [some (.cell n), some (.tup (.str k :: xs)), some o, some (.int (1 + t2)), some (.lst B), some (.lst (B.map (putG (.str k :: xs) (1 + t2) (1 + t2 + 1)))), none, none, none, none] S2 (by
    generalize putG (.str k :: xs) (1 + t2) (1 + t2 + 1) = g at *
    simp [c1]) ?_
  refine seqS_of [some (.cell n), some (.tup (.str k :: xs)), some o, some (.int (1 + t2)), some (.lst B), some (.lst D), none, none, none, none] S2 (by
    generalize hMM : B.map (putG (.str k :: xs) (1 + t2) (1 + t2 + 1)) = MM at *
    have hlm : MM.length ≤ 20 := by rw [← hMM]; simp; omega
    have ha := addV_lst (S := S2) (as := MM) (bs := [.tup [.str k, .int 0, .int 3], .tup [.str k, .int 3, .int (-1)]]) (by simp; omega)
    by_cases k1 : k = "window"
    · rw [if_pos (.inl k1)] at hD
      rw [hD] at ha
      simp [q3, k1, ha, negV_i] at ha ⊢
      simp [ha]
    · by_cases k2 : k = "frame"
      · rw [if_pos (.inr k2)] at hD
        rw [hD] at ha
        simp [q3, q4, k1, k2, ha, negV_i] at ha ⊢
        simp [ha]
      · rw [if_neg (fun z => z.elim k1 k2)] at hD
        simp [q3, q4, k1, k2, hD]) ?_
  refine seqS_of [some (.cell n), some (.tup (.str k :: xs)), some o, some (.int (1 + t2)), some (.lst B), some (.lst D), some (.str k), none, none, none] S2 (by simp) ?_
  refine seqS_of [some (.cell n), some (.tup (.str k :: xs)), some o, some (.int (1 + t2)), some (.lst B), some (.lst D), some (.str k), some (.lst (heads k wa wb wc wd)), none, none] S2 (by
    simp [heads, w1, w2, w3, w4, negV_i, listK_ok]) ?_
  refine seqS_of [some (.cell n), some (.tup (.str k :: xs)), some o, some (.int (1 + t2)), some (.lst B), some (.lst E), some (.str k), some (.lst (heads k wa wb wc wd)), none, none] S2 (by
    have ha := addV_lst (S := S2) (as := D) (bs := (heads k wa wb wc wd).map fun d => PV.tup (d :: xs)) (by rw [List.length_map, zH]; omega)
    rw [hE] at ha
    generalize heads k wa wb wc wd = HH at *
    generalize (HH.map fun d => PV.tup (d :: xs)) = HM at *
    simp [c2, ha]) ?_
  refine seqS_of [some (.cell n), some (.tup (.str k :: xs)), some o, some (.int (1 + t2)), some (.lst B), some (.lst (E ++ [.tup [], .non, .str k, .lst (.str k :: xs), .tup (.str k :: xs ++ [.int 1]), .tup (cutP (.str k :: xs) none (some (-1))), .tup xs])), some (.str k), some (.lst (heads k wa wb wc wd)), none, none] S2 (by
    have ha := addV_lst (S := S2) (as := E) (bs := [.tup [], .non, .str k, .lst (.str k :: xs), .tup (.str k :: xs ++ [.int 1]), .tup (cutP (.str k :: xs) none (some (-1))), .tup xs]) (by simp; omega)
    have hb := addV_tup (S := S2) (as := .str k :: xs) (bs := [.int 1]) (by simp; omega)
    generalize hL : ([.tup [], .non, .str k, .lst (.str k :: xs), .tup (.str k :: xs ++ [.int 1]), .tup (cutP (.str k :: xs) none (some (-1))), .tup xs] : List PV) = L at ha ⊢
    have hk : listK ([.tup [], .non, .str k, .lst (.str k :: xs), .tup (.str k :: xs ++ [.int 1]), .tup (cutP (.str k :: xs) none (some (-1))), .tup xs] : List PV) S2 = .ok (.lst L) S2 := by rw [← hL]; exact listK_ok (by simp)
    generalize E ++ L = EL at *
    generalize .str k :: xs ++ [.int 1] = C2 at *
    simp [negV_i, hb, hk, ha]) ?_
  refine seqS_of [some (.cell n), some (.tup (.str k :: xs)), some o, some (.int (1 + t2)), some (.lst B), some (.lst G), some (.str k), some (.lst (heads k wa wb wc wd)), none, none] S2 (by
    generalize hL : E ++ ([.tup [], .non, .str k, .lst (.str k :: xs), .tup (.str k :: xs ++ [.int 1]), .tup (cutP (.str k :: xs) none (some (-1))), .tup xs] : List PV) = EL at *
    have ha := addV_lst (S := S2) (as := EL) (bs := [dct0, .int 0, .tup [.tup (.str k :: xs)]]) (by rw [← hG] at zG; rw [List.length_append] at zG; simp at zG ⊢; omega)
    rw [hG] at ha
    simp [ha]) ?_
  simp [e3, ev]
end LW

/-! K05b: values that are no rows, no logs. -/
namespace LW
open PySem PySem.Spec PyProof.Rows L2 LH
def odd8 : List PV := [.non, .bl true, .str "1", .tup [.int 1, .int 2, .int 3, .int 4], .lst [.int 2], dct0, .tup [.int 1], .int (-1)]
theorem odd8_gd : odd8.all gd = true := by decide +kernel
theorem nw0 {e0 e2 e4 e5 e6 : Option PV} {rs : List PV} {i : Int} {d : PV} {S : Sto} (hl : rs.length ≤ 400) :
    X__law_no_row_T_0 [e0, some (.tup rs), e2, some (.int i), e4, e5, e6, some d] S = .ok (putG rs i i d) S := by
  have h := add_put (S := S) hl (i := i) (j := i) (d := d)
  unfold X__law_no_row_T_0
  simp at h ⊢
  rw [addV_tup (by have := cut_len rs none (some i); simp; omega)] at h ⊢
  simpa using h
def badR (o : PV) (mo : Int) : List PV := [o, .tup [.int mo], .tup [.int mo, .int 1, .bl true], .lst [.int mo, .int 1], .tup [o, .int 1], .tup [.int mo, o], .tup [.int mo, .int 0], .tup [.int mo, .int (-2)], .str "01", .tup []]
theorem p01 : pln (.str "01") = true := by decide +kernel
theorem plns_badR {o : PV} {mo : Int} (h : pln o = true) : plns (badR o mo) = true := by
  have := p01
  unfold badR
  simp only [plns, this]
  simp [pln, plns, h]
theorem lst_ext {S : Sto} {L M : List PV} (h : L.all gd = true) (h' : M.all gd = true) (z : L.length ≤ 200) (z' : M.length ≤ 20) : LH.addV (.lst L) (.lst M) S = .ok (.lst (L ++ M)) S ∧ (L ++ M).all gd = true ∧ (L ++ M).length = L.length + M.length := ⟨addV_lst (by omega), by rw [List.all_append, h, h']; rfl, List.length_append⟩
theorem plns_rq (rows : List (Int × Int)) : plns (rows.map rq) = true := by
  rw [plns_all, List.all_map]
  exact List.all_eq_true.mpr fun r _ => rfl
theorem chks_rq2 (rows : List (Int × Int)) (n : Nat) : chks (n + 1) (rows.map rq) = true := chks_map (f := rq) (n := n + 1) (fun a => by simp [rq, chk, chks]) rows
theorem ne_rq {rows : List (Int × Int)} {S : Sto} : LH.neV (.tup (rows.map rq)) (.tup []) S = .ok (.bl (!rows.isEmpty)) S := by
  rw [ne_nil_tup (chks_rq2 rows 58)]
  cases rows <;> rfl
theorem no_row_ok {n : Nat} {m : Int} {S : Sto} {rows : List (Int × Int)} (h : Cs n m S) (hm : m + 20 < 10 ^ 10) (hl : rows.length ≤ 100) :
    ∃ (v : PV) (S' : Sto), d__law_no_row_T [.cell n, .tup (rows.map rq)] S = .ok v S' ∧ gd v = true ∧ Cs n (m + 3) S' ∧ Fr n S S' := by
  obtain ⟨t1, S1, e1, a1, b1, C1, F1⟩ := take_ok h (by omega) (show (0 : Int) < 8 by decide) (by decide)
  obtain ⟨o, eo, ho, _⟩ := pick_gd (S := S1) odd8_gd a1 (show t1 < (odd8.length : Int) from b1)
  obtain ⟨t2, S2, e2, a2, b2, C2, F2⟩ := take_ok C1 (by omega) (show (0 : Int) < (rows.length : Int) + 1 by omega) (by omega)
  have po := gd_pln ho
  obtain ⟨mo, hmo⟩ : ∃ mo : Int, (0 < t2 → ∃ c : Int, itemV (.tup (rows.map rq)) (.int (t2 - 1)) S2 = .ok (.tup [.int mo, .int c]) S2) ∧ (¬ 0 < t2 → mo = 0) := by
    by_cases h0 : 0 < t2
    · have hk : (t2 - 1).toNat < rows.length := by omega
      exact ⟨rows[(t2 - 1).toNat].1, fun _ => ⟨rows[(t2 - 1).toNat].2, item_int (by omega) rfl (by rw [List.getElem?_map, List.getElem?_eq_getElem hk]; rfl)⟩, fun z => absurd h0 z⟩
    · exact ⟨0, fun z => absurd z h0, fun _ => rfl⟩
  generalize hX : rows.map rq = X at *
  have pX : plns X = true := by rw [← hX]; exact plns_rq rows
  have zX : X.length = rows.length := by rw [← hX]; simp
  have pB := plns_badR (mo := mo) po
  have zB : (badR o mo).length = 10 := rfl
  have c1 := comp_map (ds := badR o mo) (t := .nm 7) (el := X__law_no_row_T_0) (env0 := wipeE [some (.cell n), some (.tup X), some o, some (.int t2), some (.int mo), some (.lst (badR o mo)), none, none] [7]) (S := S2)
    (putG X t2 t2) fun d hd => ⟨[some (.cell n), some (.tup X), some o, some (.int t2), some (.int mo), some (.lst (badR o mo)), none, some d], by simp [wipeE], nw0 (by omega)⟩
  obtain ⟨L1, hL1, g1, z1⟩ : ∃ L1, (badR o mo).map (putG X t2 t2) = L1 ∧ L1.all gd = true ∧ L1.length = 10 := ⟨_, rfl, all_map_gd fun d hd => gd_put pX (by omega) (plns_mem pB hd), by simp [zB]⟩
  rw [hL1] at c1
  obtain ⟨M1, hM1⟩ : ∃ M1 : List PV, ([.non, .lst X, .str "", dct0, .int 0, .bl true, .tup [.tup X], .tup [.tup [.int 7, .int 1], .tup [.int 3, .int 1]], .tup [.tup [.int 7, .int 1], .tup [.int 9, .int 1], .tup [.int 8, .int 1]]] : List PV) = M1 := ⟨_, rfl⟩
  have gM1 : M1.all gd = true ∧ M1.length = 9 := by
    subst hM1
    have k1 : gd (.lst X) = true := by show (plns X && true) = true; rw [pX]; rfl
    have k2 : gd (.tup [.tup X]) = true := gd_tup (by show (plns X && true) = true; rw [pX]; rfl) (by simp)
    have k3 : gd (.str "") = true := by decide +kernel
    refine ⟨?_, rfl⟩
    simp only [List.all_cons, k1, k2, k3]; rfl
  obtain ⟨f1, g2, z2⟩ := lst_ext (S := S2) g1 gM1.1 (by omega) (by omega)
  obtain ⟨M2, hM2⟩ : ∃ M2 : PV, (.tup (cutP X none (some t2) ++ [.tup [.int (mo + 5), .int 1], .tup [.int (mo + 3), .int 1], .tup [.int (mo + 9), .int 1]]) : PV) = M2 := ⟨_, rfl⟩
  have hcl := cut_len X none (some t2)
  have gM2 : gd M2 = true := by
    subst hM2
    exact gd_tup (plns_app (plns_cut pX _ _) rfl) (by simp; omega)
  have eM2 : LH.addV (.tup (cutP X none (some t2))) (.tup [.tup [.int (mo + 5), .int 1], .tup [.int (mo + 3), .int 1], .tup [.int (mo + 9), .int 1]]) S2 = .ok M2 S2 := by rw [addV_tup (by simp; omega), hM2]
  obtain ⟨f2, g3, z3⟩ := lst_ext (S := S2) (M := [M2]) g2 (by simp [gM2]) (by omega) (by simp)
  obtain ⟨f3, g4, z4⟩ := lst_ext (S := S2) (M := [.tup [.tup [.int 0, .int 1], .tup [.int 5, .int 1], .tup [.int 3, .int 1], .tup [.int 9, .int 1]]]) g3 (by decide +kernel) (by rw [z3, z2]; simp; omega) (by simp)
  generalize hA1 : L1 ++ M1 = A1 at *
  generalize hA2 : A1 ++ [M2] = A2 at *
  generalize hA3 : A2 ++ [.tup [.tup [.int 0, .int 1], .tup [.int 5, .int 1], .tup [.int 3, .int 1], .tup [.int 9, .int 1]]] = A3 at *
  have z4' : A3.length ≤ 30 := by simp at z3 z4; omega
  unfold odd8 at eo
  have hfin : ∀ (G : List PV), G.all gd = true → G.length ≤ 60 → 1 ≤ G.length → (∃ (v : PV) (S' : Sto), retS (binE itemV (vE 6) (callE d__law_take_T (consA (vE 0) (consA (bE lenB (consA (vE 6) nilA)) nilA)))) [some (.cell n), some (.tup X), some o, some (.int t2), some (.int mo), some (.lst (badR o mo)), some (.lst G), none] S2 = .ok (.rt v) S' ∧ gd v = true ∧ Cs n (m + 3) S' ∧ Fr n S S') := fun G hG zG zG0 => by
    obtain ⟨t3, S3, e3, a3, b3, C3, F3⟩ := take_ok C2 (by omega) (show (0 : Int) < (G.length : Int) by omega) (by omega)
    obtain ⟨v, ev, hv, _⟩ := pick_gd (S := S3) hG a3 b3
    exact ⟨v, S3, by simp [e3, ev], hv, C3.mono (by omega), (F1.trans F2).trans F3⟩
  have hrun : ∀ (A4 A5 : List PV) (r : Res LH.Flow) (p5 p6 p7 : StmtD), r = seqS p5 (seqS p6 p7) [some (.cell n), some (.tup X), some o, some (.int t2), some (.int mo), some (.lst (badR o mo)), some (.lst A3), none] S2 → p5 [some (.cell n), some (.tup X), some o, some (.int t2), some (.int mo), some (.lst (badR o mo)), some (.lst A3), none] S2 = .ok (.nx [some (.cell n), some (.tup X), some o, some (.int t2), some (.int mo), some (.lst (badR o mo)), some (.lst A4), none]) S2 →
      p6 [some (.cell n), some (.tup X), some o, some (.int t2), some (.int mo), some (.lst (badR o mo)), some (.lst A4), none] S2 = .ok (.nx [some (.cell n), some (.tup X), some o, some (.int t2), some (.int mo), some (.lst (badR o mo)), some (.lst A5), none]) S2 → r = p7 [some (.cell n), some (.tup X), some o, some (.int t2), some (.int mo), some (.lst (badR o mo)), some (.lst A5), none] S2 := fun A4 A5 r p5 p6 p7 h1 h2 h3 => by
    rw [h1]
    exact seqS_of _ _ h2 (seqS_of _ _ h3 rfl)
  -- the two branches
  obtain ⟨A4, hA4, g5, z5⟩ : ∃ A4 : List PV, (∀ S', S' = S2 → (ifS (andT (tstE (binE LH.neV (vE 1) (tupE (nilA)))) (tstE (binE gtV (binE itemV (binE itemV (vE 1) (unE LH.negV (cE (.int 1)))) (cE (.int 0))) (cE (.int 0))))) (seqS (asgS (.nm 6) (binE LH.addV (vE 6) (listE (consA (binE LH.addV (vE 1) (tupE (consA (tupE (consA (binE subV (binE itemV (binE itemV (vE 1) (unE LH.negV (cE (.int 1)))) (cE (.int 0))) (cE (.int 1))) (consA (cE (.int 1)) (nilA)))) (nilA)))) (consA (binE LH.addV (vE 1) (tupE (consA (tupE (consA (cE (.int 0)) (consA (cE (.int 1)) (nilA)))) (nilA)))) (nilA)))))) (asgS (.nm 6) (binE LH.addV (vE 6) (listE (consA (binE LH.addV (vE 1) (tupE (consA (binE itemV (vE 1) (unE LH.negV (cE (.int 1)))) (consA (tupE (consA (cE (.int 0)) (consA (cE (.int 2)) (nilA)))) (nilA))))) (nilA)))))) (skipS)) [some (.cell n), some (.tup X), some o, some (.int t2), some (.int mo), some (.lst (badR o mo)), some (.lst A3), none] S' = .ok (.nx [some (.cell n), some (.tup X), some o, some (.int t2), some (.int mo), some (.lst (badR o mo)), some (.lst A4), none]) S2) ∧ A4.all gd = true ∧ 1 ≤ A4.length ∧ A4.length ≤ 40 := by
    have hne := ne_rq (rows := rows) (S := S2)
    rw [hX] at hne
    rcases List.eq_nil_or_concat rows with hr | ⟨ri, rl, hr⟩
    · subst hr
      refine ⟨A3, fun S' hS => ?_, g4, ?_, by omega⟩
      · subst hS
        simp [hne]
      · rw [← hA3]; simp
    · have hXs : X = ri.map rq ++ [rq rl] := by rw [← hX, hr]; simp
      have hemp : rows.isEmpty = false := by rw [hr]; simp
      rw [hemp] at hne
      have hit := item_last (S := S2) (x := .tup X) (xs := ri.map rq) (d := rq rl) (by rw [hXs]; rfl)
      have k1 := addV_tup (S := S2) (as := X) (bs := [.tup [.int (rl.1 - 1), .int 1]]) (by simp; omega)
      have k2 := addV_tup (S := S2) (as := X) (bs := [.tup [.int 0, .int 1]]) (by simp; omega)
      have k3 := addV_tup (S := S2) (as := X) (bs := [rq rl, .tup [.int 0, .int 2]]) (by simp; omega)
      have q1 : gd (.tup (X ++ [.tup [.int (rl.1 - 1), .int 1]])) = true := gd_tup (plns_app pX rfl) (by simp; omega)
      have q2 : gd (.tup (X ++ [.tup [.int 0, .int 1]])) = true := gd_tup (plns_app pX rfl) (by simp; omega)
      have q3 : gd (.tup (X ++ [rq rl, .tup [.int 0, .int 2]])) = true := gd_tup (plns_app pX rfl) (by simp; omega)
      generalize X ++ [.tup [.int (rl.1 - 1), .int 1]] = Y1 at *
      generalize X ++ [.tup [.int 0, .int 1]] = Y2 at *
      generalize X ++ [rq rl, .tup [.int 0, .int 2]] = Y3 at *
      obtain ⟨f4, g5, z5⟩ := lst_ext (S := S2) (M := [.tup Y1, .tup Y2]) g4 (by simp [q1, q2]) (by omega) (by simp)
      obtain ⟨f5, g6, z6⟩ := lst_ext (S := S2) (M := [.tup Y3]) g5 (by simp [q3]) (by rw [z5]; simp; omega) (by simp)
      generalize A3 ++ [.tup Y1, .tup Y2] = A3b at *
      generalize A3b ++ [.tup Y3] = A3c at *
      unfold rq at hit k3
      by_cases h0 : 0 < rl.1
      · refine ⟨A3c, fun S' hS => ?_, g6, by simp at z6; omega, by simp at z5 z6; omega⟩
        subst hS
        simp [hne, negV_i, hit, h0, k1, k2, k3, f4, f5]
      · refine ⟨A3, fun S' hS => ?_, g4, by rw [← hA3]; simp, by omega⟩
        subst hS
        simp [hne, negV_i, hit, h0]
  obtain ⟨A5, hA5, g6, z6⟩ : ∃ A5 : List PV, (∀ S', S' = S2 → (ifS (andT (tstE (binE gtV (bE lenB (consA (vE 1) (nilA))) (cE (.int 2)))) (tstE (binE ltV (binE itemV (binE itemV (vE 1) (cE (.int 0))) (cE (.int 0))) (binE itemV (binE itemV (vE 1) (unE LH.negV (cE (.int 1)))) (cE (.int 0)))))) (asgS (.nm 6) (binE LH.addV (vE 6) (listE (consA (unE revAV (vE 1)) (consA (binE LH.addV (sliceE (vE 1) (someP (cE (.int 1))) noP) (sliceE (vE 1) noP (someP (cE (.int 1))))) (nilA)))))) (skipS)) [some (.cell n), some (.tup X), some o, some (.int t2), some (.int mo), some (.lst (badR o mo)), some (.lst A4), none] S' = .ok (.nx [some (.cell n), some (.tup X), some o, some (.int t2), some (.int mo), some (.lst (badR o mo)), some (.lst A5), none]) S2) ∧ A5.all gd = true ∧ 1 ≤ A5.length ∧ A5.length ≤ 50 := by
    by_cases h2 : (2 : Int) < (X.length : Int)
    · rcases List.eq_nil_or_concat rows with hr | ⟨ri, rl, hr⟩
      · subst hr; rw [List.length_nil] at zX; omega
      · have hXs : X = ri.map rq ++ [rq rl] := by rw [← hX, hr]; simp
        have hit := item_last (S := S2) (x := .tup X) (xs := ri.map rq) (d := rq rl) (by rw [hXs]; rfl)
        obtain ⟨r0, rr, hr0⟩ : ∃ r0 rr, rows = r0 :: rr := by cases rows with
          | nil => rw [List.length_nil] at zX; omega
          | cons a b => exact ⟨a, b, rfl⟩
        have hX0 : X = rq r0 :: rr.map rq := by rw [← hX, hr0]; rfl
        have hi0 : itemV (.tup X) (.int 0) S2 = .ok (rq r0) S2 := item0 (by rw [hX0]; rfl)
        have hcl1 := cut_len X (some 1) none
        have hcl2 := cut_len X none (some 1)
        have k1 := addV_tup (S := S2) (as := cutP X (some 1) none) (bs := cutP X none (some 1)) (by omega)
        have k0 : revAV (.tup X) S2 = .ok (.tup X.reverse) S2 := rfl
        have q0 : gd (.tup X.reverse) = true := gd_tup (plns_rev pX) (by simp; omega)
        have q1 : gd (.tup (cutP X (some 1) none ++ cutP X none (some 1))) = true := gd_tup (plns_app (plns_cut pX _ _) (plns_cut pX _ _)) (by rw [List.length_append]; omega)
        have s1 : sliceV (.tup X) (some 1) none S2 = .ok (.tup (cutP X (some 1) none)) S2 := rfl
        have s2 : sliceV (.tup X) none (some 1) S2 = .ok (.tup (cutP X none (some 1))) S2 := rfl
        generalize cutP X (some 1) none = Z1 at *
        generalize cutP X none (some 1) = Z2 at *
        generalize Z1 ++ Z2 = Z3 at *
        generalize X.reverse = X' at *
        obtain ⟨f4, g6, z6⟩ := lst_ext (S := S2) (M := [.tup X', .tup Z3]) g5 (by simp [q0, q1]) (by omega) (by simp)
        generalize A4 ++ [.tup X', .tup Z3] = A4b at *
        unfold rq at hit hi0
        by_cases h0 : r0.1 < rl.1
        · refine ⟨A4b, fun S' hS => ?_, g6, by simp at z6; omega, by simp at z6; omega⟩
          subst hS
          simp [-sliceV_tup, h2, negV_i, hit, hi0, h0, k0, s1, s2, k1, f4]
        · refine ⟨A4, fun S' hS => ?_, g5, by omega, by omega⟩
          subst hS
          simp [h2, negV_i, hit, hi0, h0]
    · refine ⟨A4, fun S' hS => ?_, g5, by omega, by omega⟩
      subst hS
      simp [h2]
  obtain ⟨v, S', ev, hv, C, F⟩ := hfin A5 g6 (by omega) z6.1
  refine ⟨v, S', ?_, hv, C, F⟩
  unfold d__law_no_row_T
  rw [fnD2]
  refine fnK_of ?_
  simp only [Nat.reduceSub, rep6]
  refine seqS_of [some (.cell n), some (.tup X), some o, none, none, none, none, none] S1 (by simp [e1, eo, negV_i, listK_ok]) ?_
  refine seqS_of [some (.cell n), some (.tup X), some o, some (.int t2), none, none, none, none] S2 (by simp [zX, e2]) ?_
  refine seqS_of [some (.cell n), some (.tup X), some o, some (.int t2), some (.int mo), none, none, none] S2 (by
    by_cases h0 : 0 < t2
    · obtain ⟨c, hc⟩ := hmo.1 h0
      simp [h0, hc]
    · simp [h0, hmo.2 h0]) ?_
  refine seqS_of [some (.cell n), some (.tup X), some o, some (.int t2), some (.int mo), some (.lst ((badR o mo).take 6)), none, none] S2 (by simp [badR, listK_ok]) ?_
  refine seqS_of [some (.cell n), some (.tup X), some o, some (.int t2), some (.int mo), some (.lst (badR o mo)), none, none] S2 (by
    have ha := addV_lst (S := S2) (as := (badR o mo).take 6) (bs := (badR o mo).drop 6) (by simp [badR])
    rw [List.take_append_drop] at ha
    have hd : (badR o mo).drop 6 = [.tup [.int mo, .int 0], .tup [.int mo, .int (-2)], .str "01", .tup []] := rfl
    rw [hd] at ha
    generalize (badR o mo).take 6 = T at *
    generalize badR o mo = T2 at *
    simp [ha, negV_i]) ?_
  refine seqS_of [some (.cell n), some (.tup X), some o, some (.int t2), some (.int mo), some (.lst (badR o mo)), some (.lst L1), none] S2 (by
    generalize badR o mo = T2 at *
    simp [c1]) ?_
  refine seqS_of [some (.cell n), some (.tup X), some o, some (.int t2), some (.int mo), some (.lst (badR o mo)), some (.lst A1), none] S2 (by
    have hk : listK ([.non, .lst X, .str "", dct0, .int 0, .bl true, .tup [.tup X], .tup [.tup [.int 7, .int 1], .tup [.int 3, .int 1]], .tup [.tup [.int 7, .int 1], .tup [.int 9, .int 1], .tup [.int 8, .int 1]]] : List PV) S2 = .ok (.lst M1) S2 := by rw [← hM1]; exact listK_ok (by simp)
    generalize badR o mo = T2 at *
    simp [hk, f1]) ?_
  refine seqS_of [some (.cell n), some (.tup X), some o, some (.int t2), some (.int mo), some (.lst (badR o mo)), some (.lst A2), none] S2 (by
    generalize badR o mo = T2 at *
    simp [eM2, f2]) ?_
  refine seqS_of [some (.cell n), some (.tup X), some o, some (.int t2), some (.int mo), some (.lst (badR o mo)), some (.lst A3), none] S2 (by
    generalize badR o mo = T2 at *
    simp [f3]) ?_
  refine seqS_of _ _ (hA4 S2 rfl) ?_
  refine seqS_of _ _ (hA5 S2 rfl) ?_
  exact ev
end LW

/-! K05c: values that are no logs. -/
namespace LW
open PySem PySem.Spec PyProof.Rows L2 LH
theorem nl0 {e0 e2 e4 e5 e6 e7 e9 : Option PV} {rs : List PV} {i : Int} {d : PV} {S : Sto} (hl : rs.length ≤ 400) :
    X__law_no_log_T_0 [e0, some (.tup rs), e2, some (.int i), e4, e5, e6, e7, some d, e9] S = .ok (putG rs i i d) S := by
  have h := add_put (S := S) hl (i := i) (j := i) (d := d)
  unfold X__law_no_log_T_0
  simp at h ⊢
  rw [addV_tup (by have := cut_len rs none (some i); simp; omega)] at h ⊢
  simpa using h
def badL (o : PV) (mo : Int) : List PV := [o, .tup [.int mo, .int 1], .tup [.int mo, .int 1, .int 1], .tup [.int mo, .int 1, .int 0], .tup [.int mo, .int 0, .bl true], .tup [.int mo, .int (-2), .bl true], .tup [o, .int 1, .bl true],
  .tup [.int mo, o, .bl false], .lst [.int mo, .int 1, .bl true], .tup [.int mo, .int 1, .bl true, .bl true], .tup [.int mo, .int 1, .non], .tup [.bl true, .int 1, .bl true]]
theorem plns_badL {o : PV} {mo : Int} (h : pln o = true) : plns (badL o mo) = true := by
  unfold badL
  simp [pln, plns, h]
theorem plns_en (l : List En) : plns (l.map en) = true := by
  rw [plns_all, List.all_map]
  exact List.all_eq_true.mpr fun r _ => rfl
theorem no_log_ok {n : Nat} {m : Int} {S : Sto} {log : List En} (h : Cs n m S) (hm : m + 20 < 10 ^ 10) (hl : log.length ≤ 100) :
    ∃ (v : PV) (S' : Sto), d__law_no_log_T [.cell n, .tup (log.map en)] S = .ok v S' ∧ gd v = true ∧ Cs n (m + 3) S' ∧ Fr n S S' := by
  have hlt := h.lt
  obtain ⟨t1, S1, e1, a1, b1, C1, F1⟩ := take_ok h (by omega) (show (0 : Int) < 8 by decide) (by decide)
  obtain ⟨o, eo, ho, _⟩ := pick_gd (S := S1) odd8_gd a1 (show t1 < (odd8.length : Int) from b1)
  obtain ⟨t2, S2, e2, a2, b2, C2, F2⟩ := take_ok C1 (by omega) (show (0 : Int) < (log.length : Int) + 1 by omega) (by omega)
  have po := gd_pln ho
  obtain ⟨mo, hmo⟩ : ∃ mo : Int, (0 < t2 → ∃ (c : Int) (b : Bool), itemV (.tup (log.map en)) (.int (t2 - 1)) S2 = .ok (.tup [.int mo, .int c, .bl b]) S2) ∧ (¬ 0 < t2 → mo = 0) := by
    by_cases h0 : 0 < t2
    · have hk : (t2 - 1).toNat < log.length := by omega
      exact ⟨log[(t2 - 1).toNat].1, fun _ => ⟨log[(t2 - 1).toNat].2.1, log[(t2 - 1).toNat].2.2, item_int (by omega) rfl (by rw [List.getElem?_map, List.getElem?_eq_getElem hk]; rfl)⟩, fun z => absurd h0 z⟩
    · exact ⟨0, fun z => absurd z h0, fun _ => rfl⟩
  generalize hX : log.map en = X at *
  have pX : plns X = true := by rw [← hX]; exact plns_en log
  have zX : X.length = log.length := by rw [← hX]; simp
  have pB := plns_badL (mo := mo) po
  have zB : (badL o mo).length = 12 := rfl
  have c1 := comp_map (ds := badL o mo) (t := .nm 8) (el := X__law_no_log_T_0) (env0 := wipeE [some (.cell n), some (.tup X), some o, some (.int t2), some (.int mo), some (.lst (badL o mo)), none, none, none, none] [8]) (S := S2)
    (putG X t2 t2) fun d hd => ⟨[some (.cell n), some (.tup X), some o, some (.int t2), some (.int mo), some (.lst (badL o mo)), none, none, some d, none], by simp [wipeE], nl0 (by omega)⟩
  obtain ⟨L1, hL1, g1, z1⟩ : ∃ L1, (badL o mo).map (putG X t2 t2) = L1 ∧ L1.all gd = true ∧ L1.length = 12 := ⟨_, rfl, all_map_gd fun d hd => gd_put pX (by omega) (plns_mem pB hd), by simp [zB]⟩
  rw [hL1] at c1
  have d1 : cellOf (.lst L1) S2 = .ok (.cell S2.length) (S2 ++ [.lst L1]) := if_pos (bels_gd g1 0)
  have CA : Cs n (m + 1 + 1) (S2 ++ [.lst L1]) := C2.app
  have hT1 : (S2 ++ [LH.Cell.lst L1])[S2.length]? = some (.lst L1) := by rw [List.getElem?_append_right (Nat.le_refl _), Nat.sub_self]; rfl
  have zT1 : (S2 ++ [LH.Cell.lst L1]).length = S2.length + 1 := by simp
  have oT1 : ∀ j, j < S2.length → (S2 ++ [LH.Cell.lst L1])[j]? = S2[j]? := fun j hj => List.getElem?_append_left hj
  generalize S2 ++ [LH.Cell.lst L1] = T1 at *
  obtain ⟨M1, hM1⟩ : ∃ M1 : List PV, ([.non, .lst X, .str "", dct0, .int 0, .bl true, .tup [.tup X], .lst [.tup X]] : List PV) = M1 := ⟨_, rfl⟩
  have gM1 : M1.all gd = true ∧ M1.length = 8 := by
    subst hM1
    have k1 : gd (.lst X) = true := by show (plns X && true) = true; rw [pX]; rfl
    have k2 : gd (.tup [.tup X]) = true := gd_tup (by show (plns X && true) = true; rw [pX]; rfl) (by simp)
    have k3 : gd (.str "") = true := by decide +kernel
    have k4 : gd (.lst [.tup X]) = true := by show ((plns X && true) && true) = true; rw [pX]; rfl
    refine ⟨?_, rfl⟩
    simp only [List.all_cons, k1, k2, k3, k4]; rfl
  obtain ⟨_, g2, z2⟩ := lst_ext (S := S2) g1 gM1.1 (by omega) (by omega)
  have d2 := addCV_cell (S := T1) (ys := M1) hT1 (by omega) (bels_gd g2 0)
  have CB : Cs n (m + 1 + 1) (T1 ++ [.lst (L1 ++ M1)]) := CA.app
  have hT2 : (T1 ++ [LH.Cell.lst (L1 ++ M1)])[T1.length]? = some (.lst (L1 ++ M1)) := by rw [List.getElem?_append_right (Nat.le_refl _), Nat.sub_self]; rfl
  have zT2 : (T1 ++ [LH.Cell.lst (L1 ++ M1)]).length = T1.length + 1 := by simp
  have oT2 : ∀ j, j < T1.length → (T1 ++ [LH.Cell.lst (L1 ++ M1)])[j]? = T1[j]? := fun j hj => List.getElem?_append_left hj
  generalize T1 ++ [LH.Cell.lst (L1 ++ M1)] = T2 at *
  generalize hA1 : L1 ++ M1 = A1 at *
  obtain ⟨M2, hM2⟩ : ∃ M2 : PV, (.tup [.tup [.int (mo + 9), .int 1, .bl true], .tup [.int 2, .int 1, .bl true]] : PV) = M2 := ⟨_, rfl⟩
  have gM2 : gd M2 = true := by subst hM2; rfl
  have eM2 : ∀ S, LH.addV (.tup [.tup [.int (mo + 9), .int 1, .bl true]]) (.tup [.tup [.int 2, .int 1, .bl true]]) S = .ok M2 S := fun S => by rw [addV_tup (by simp), ← hM2]; rfl
  obtain ⟨_, g3, z3⟩ := lst_ext (S := S2) (M := [M2]) g2 (by simp [gM2]) (by omega) (by simp)
  have d3 := addCV_cell (S := T2) (ys := [M2]) hT2 (by simp; omega) (bels_gd g3 0)
  have CC : Cs n (m + 1 + 1) (T2 ++ [.lst (A1 ++ [M2])]) := CB.app
  have hT3 : (T2 ++ [LH.Cell.lst (A1 ++ [M2])])[T2.length]? = some (.lst (A1 ++ [M2])) := by rw [List.getElem?_append_right (Nat.le_refl _), Nat.sub_self]; rfl
  have zT3 : (T2 ++ [LH.Cell.lst (A1 ++ [M2])]).length = T2.length + 1 := by simp
  have oT3 : ∀ j, j < T2.length → (T2 ++ [LH.Cell.lst (A1 ++ [M2])])[j]? = T2[j]? := fun j hj => List.getElem?_append_left hj
  generalize T2 ++ [LH.Cell.lst (A1 ++ [M2])] = T3 at *
  generalize hA2 : A1 ++ [M2] = A2 at *
  have hcl := cut_len X none (some t2)
  obtain ⟨M3, hM3⟩ : ∃ M3 : PV, (.tup (cutP X none (some t2) ++ [.tup [.int (mo + 5), .int 1, .bl true], .tup [.int (mo + 3), .int 1, .bl false], .tup [.int (mo + 9), .int 1, .bl true]]) : PV) = M3 := ⟨_, rfl⟩
  have gM3 : gd M3 = true := by
    subst hM3
    exact gd_tup (plns_app (plns_cut pX _ _) rfl) (by simp; omega)
  have eM3 : ∀ S, LH.addV (.tup (cutP X none (some t2))) (.tup [.tup [.int (mo + 5), .int 1, .bl true], .tup [.int (mo + 3), .int 1, .bl false], .tup [.int (mo + 9), .int 1, .bl true]]) S = .ok M3 S := fun S => by rw [addV_tup (by simp; omega), hM3]
  have c2 := comp_map (ds := [.int 5, .int 3, .int 9]) (t := .nm 9) (el := X__law_no_log_T_1) (env0 := wipeE [some (.cell n), some (.tup X), some o, some (.int t2), some (.int mo), some (.lst (badL o mo)), some (.cell T2.length), some (.tup [.int 5, .int 3, .int 9]), none, none] [9]) (S := T3)
    (fun d => match d with | .int i => .tup [.int (mo + i), .int 1, .bl (decide (4 < i))] | _ => .non) fun d hd => by
      simp only [List.mem_cons, List.not_mem_nil, or_false] at hd
      rcases hd with rfl | rfl | rfl
      · exact ⟨[some (.cell n), some (.tup X), some o, some (.int t2), some (.int mo), some (.lst (badL o mo)), some (.cell T2.length), some (.tup [.int 5, .int 3, .int 9]), none, some (.int 5)], by simp [wipeE], by simp [X__law_no_log_T_1]⟩
      · exact ⟨[some (.cell n), some (.tup X), some o, some (.int t2), some (.int mo), some (.lst (badL o mo)), some (.cell T2.length), some (.tup [.int 5, .int 3, .int 9]), none, some (.int 3)], by simp [wipeE], by simp [X__law_no_log_T_1]⟩
      · exact ⟨[some (.cell n), some (.tup X), some o, some (.int t2), some (.int mo), some (.lst (badL o mo)), some (.cell T2.length), some (.tup [.int 5, .int 3, .int 9]), none, some (.int 9)], by simp [wipeE], by simp [X__law_no_log_T_1]⟩
  simp only [List.map_cons, List.map_nil, show decide ((4 : Int) < 5) = true from rfl, show decide ((4 : Int) < 3) = false from rfl, show decide ((4 : Int) < 9) = true from rfl] at c2
  have zA2 : A2.length ≤ 40 := by simp at z2 z3; omega
  have d4 := pushC_of (y := M3) hT3 (by omega) (pln_bel 0 _ (gd_pln gM3))
  have gA3 : (A2 ++ [M3]).all gd = true := by rw [List.all_append, g3]; simp [gM3]
  have hg3 := appG_of (f := binE LH.addV (sliceE (vE 1) noP (someP (vE 3))) (bE tupleB (consA (compE (seqI (vE 7)) (.nm 9) [9] yesT X__law_no_log_T_1) (nilA)))) (env := [some (.cell n), some (.tup X), some o, some (.int t2), some (.int mo), some (.lst (badL o mo)), some (.cell T2.length), some (.tup [.int 5, .int 3, .int 9]), none, none]) hT3
  have hne : T2.length ≠ n := by have := F1.1; have := F2.1; omega
  have CD : Cs n (m + 1 + 1) (T3.set T2.length (.lst (A2 ++ [M3]))) := CC.fr fr_set hne.symm
  have hT4 : (T3.set T2.length (LH.Cell.lst (A2 ++ [M3])))[T2.length]? = some (.lst (A2 ++ [M3])) := get_set (by omega)
  have zT4 : (T3.set T2.length (LH.Cell.lst (A2 ++ [M3]))).length = T3.length := List.length_set
  have oT4 : ∀ j, j < T2.length → (T3.set T2.length (LH.Cell.lst (A2 ++ [M3])))[j]? = T3[j]? := fun j hj => List.getElem?_set_ne (by omega)
  generalize T3.set T2.length (LH.Cell.lst (A2 ++ [M3])) = T4 at *
  have zA3 : (A2 ++ [M3]).length ≤ 41 := by simp; omega
  have zA3' : 1 ≤ (A2 ++ [M3]).length := by simp
  generalize A2 ++ [M3] = A3 at *
  obtain ⟨T5, G, h5, hT5, zT5, oT5, gG, zG, zG0, CE⟩ : ∃ (T5 : Sto) (G : List PV), (∀ S', S' = T4 → (ifS (andT (tstE (binE gtV (bE lenB (consA (vE 1) (nilA))) (cE (.int 1)))) (tstE (binE ltV (binE itemV (binE itemV (vE 1) (cE (.int 0))) (cE (.int 0))) (binE itemV (binE itemV (vE 1) (unE LH.negV (cE (.int 1)))) (cE (.int 0)))))) (exprS (appE (vE 6) (unE revAV (vE 1)))) (skipS))
      [some (.cell n), some (.tup X), some o, some (.int t2), some (.int mo), some (.lst (badL o mo)), some (.cell T2.length), some (.tup [.int 5, .int 3, .int 9]), none, none] S' = .ok (.nx [some (.cell n), some (.tup X), some o, some (.int t2), some (.int mo), some (.lst (badL o mo)), some (.cell T2.length), some (.tup [.int 5, .int 3, .int 9]), none, none]) T5) ∧
      T5[T2.length]? = some (.lst G) ∧ T5.length = T4.length ∧ (∀ j, j < T2.length → T5[j]? = T4[j]?) ∧ G.all gd = true ∧ G.length ≤ 50 ∧ 1 ≤ G.length ∧ Cs n (m + 1 + 1) T5 := by
    by_cases h2 : (1 : Int) < (X.length : Int)
    · rcases List.eq_nil_or_concat log with hr | ⟨ri, rl, hr⟩
      · subst hr; rw [List.length_nil] at zX; omega
      · have hXs : X = ri.map en ++ [en rl] := by rw [← hX, hr]; simp
        have hit := item_last (S := T4) (x := .tup X) (xs := ri.map en) (d := en rl) (by rw [hXs]; rfl)
        obtain ⟨r0, rr, hr0⟩ : ∃ r0 rr, log = r0 :: rr := by cases log with
          | nil => rw [List.length_nil] at zX; omega
          | cons a b => exact ⟨a, b, rfl⟩
        have hX0 : X = en r0 :: rr.map en := by rw [← hX, hr0]; rfl
        have hi0 : itemV (.tup X) (.int 0) T4 = .ok (en r0) T4 := item0 (by rw [hX0]; rfl)
        have k0 : revAV (.tup X) T4 = .ok (.tup X.reverse) T4 := rfl
        have q0 : gd (.tup X.reverse) = true := gd_tup (plns_rev pX) (by simp; omega)
        generalize X.reverse = X' at *
        have d5 := pushC_of (y := .tup X') hT4 (by omega) (pln_bel 0 _ (gd_pln q0))
        have hg4 := appG_of (f := unE revAV (vE 1)) (env := [some (.cell n), some (.tup X), some o, some (.int t2), some (.int mo), some (.lst (badL o mo)), some (.cell T2.length), some (.tup [.int 5, .int 3, .int 9]), none, none]) hT4
        unfold en at hit hi0
        by_cases h0 : r0.1 < rl.1
        · refine ⟨T4.set T2.length (.lst (A3 ++ [.tup X'])), A3 ++ [.tup X'], fun S' hS => ?_, get_set (by omega), List.length_set, fun j hj => List.getElem?_set_ne (by omega), by rw [List.all_append, gA3]; simp [q0], by simp; omega, by simp, CD.fr fr_set hne.symm⟩
          subst hS
          generalize badL o mo = BB at *
          simp [h2, negV_i, hit, hi0, h0, hg4, k0, d5]
        · refine ⟨T4, A3, fun S' hS => ?_, hT4, rfl, fun _ _ => rfl, gA3, by omega, zA3', CD⟩
          subst hS
          generalize badL o mo = BB at *
          simp [h2, negV_i, hit, hi0, h0]
    · refine ⟨T4, A3, fun S' hS => ?_, hT4, rfl, fun _ _ => rfl, gA3, by omega, zA3', CD⟩
      subst hS
      generalize badL o mo = BB at *
      simp [h2]
  obtain ⟨t3, S3, e3, a3, b3, C3, F3⟩ := take_ok CE (by omega) (show (0 : Int) < (G.length : Int) by omega) (by omega)
  have hS3 : S3[T2.length]? = some (.lst G) := F3.at hne hT5
  have hk3 : t3.toNat < G.length := by omega
  have ev : itemV (.cell T2.length) (.int t3) S3 = .ok G[t3.toNat] S3 := item_int a3 (seqOf_cell hS3) (List.getElem?_eq_getElem hk3)
  have hv : gd G[t3.toNat] = true := List.all_eq_true.mp gG _ (List.getElem_mem hk3)
  have hlen : lenB [.cell T2.length] T5 = .ok (.int G.length) T5 := lenB_of (seqOf_cell hT5)
  generalize G[t3.toNat] = v at *
  have l1 := F1.1; have l2 := F2.1; have l3 := F3.1
  refine ⟨v, S3.take S.length, ?_, hv, (C3.take hlt).mono (by omega), by rw [List.length_take]; omega, fun j hj => ?_⟩
  · unfold odd8 at eo
    unfold d__law_no_log_T
    rw [exitT_s, fnD2]
    simp only [Nat.reduceSub, rep8]
    have hfn : ∀ r : Res LH.Flow, r = .ok (.rt v) S3 → exTK S.length (fnK r) = .ok v (S3.take S.length) := fun r hr => by
      rw [fnK_of hr]
      exact exTK_val (fun k hk => by subst hk; have := gd_pln hv; simp [pln] at this) (pln_bel _ _ (gd_pln hv))
    refine hfn _ ?_
    refine seqS_of [some (.cell n), some (.tup X), some o, none, none, none, none, none, none, none] S1 (by simp [e1, eo, negV_i, listK_ok]) ?_
    refine seqS_of [some (.cell n), some (.tup X), some o, some (.int t2), none, none, none, none, none, none] S2 (by simp [zX, e2]) ?_
    refine seqS_of [some (.cell n), some (.tup X), some o, some (.int t2), some (.int mo), none, none, none, none, none] S2 (by
      by_cases h0 : 0 < t2
      · obtain ⟨c, b, hc⟩ := hmo.1 h0
        simp [h0, hc]
      · simp [h0, hmo.2 h0]) ?_
    refine seqS_of [some (.cell n), some (.tup X), some o, some (.int t2), some (.int mo), some (.lst ((badL o mo).take 7)), none, none, none, none] S2 (by simp [badL, listK_ok, negV_i]) ?_
    refine seqS_of [some (.cell n), some (.tup X), some o, some (.int t2), some (.int mo), some (.lst ((badL o mo).take 10)), none, none, none, none] S2 (by
      have ha := addV_lst (S := S2) (as := (badL o mo).take 7) (bs := [.tup [.int mo, o, .bl false], .lst [.int mo, .int 1, .bl true], .tup [.int mo, .int 1, .bl true, .bl true]]) (by simp [badL])
      have hd : (badL o mo).take 7 ++ [.tup [.int mo, o, .bl false], .lst [.int mo, .int 1, .bl true], .tup [.int mo, .int 1, .bl true, .bl true]] = (badL o mo).take 10 := rfl
      rw [hd] at ha
      generalize (badL o mo).take 7 = T at *
      generalize (badL o mo).take 10 = T2 at *
      simp [ha]) ?_
    refine seqS_of [some (.cell n), some (.tup X), some o, some (.int t2), some (.int mo), some (.lst (badL o mo)), none, none, none, none] S2 (by
      have ha := addV_lst (S := S2) (as := (badL o mo).take 10) (bs := [.tup [.int mo, .int 1, .non], .tup [.bl true, .int 1, .bl true]]) (by simp [badL])
      have hd : (badL o mo).take 10 ++ [.tup [.int mo, .int 1, .non], .tup [.bl true, .int 1, .bl true]] = badL o mo := rfl
      rw [hd] at ha
      generalize (badL o mo).take 10 = T at *
      generalize badL o mo = T2 at *
      simp [ha]) ?_
    generalize badL o mo = BB at *
    refine seqS_of [some (.cell n), some (.tup X), some o, some (.int t2), some (.int mo), some (.lst BB), some (.cell S2.length), none, none, none] T1 (by simp [c1, d1]) ?_
    refine seqS_of [some (.cell n), some (.tup X), some o, some (.int t2), some (.int mo), some (.lst BB), some (.cell T1.length), none, none, none] T2 (by
      have hk : listK ([.non, .lst X, .str "", dct0, .int 0, .bl true, .tup [.tup X], .lst [.tup X]] : List PV) T1 = .ok (.lst M1) T1 := by rw [← hM1]; exact listK_ok (by simp)
      simp [hk, d2]) ?_
    refine seqS_of [some (.cell n), some (.tup X), some o, some (.int t2), some (.int mo), some (.lst BB), some (.cell T2.length), none, none, none] T3 (by simp [eM2, d3]) ?_
    refine seqS_of [some (.cell n), some (.tup X), some o, some (.int t2), some (.int mo), some (.lst BB), some (.cell T2.length), some (.tup [.int 5, .int 3, .int 9]), none, none] T3 (by simp) ?_
    refine seqS_of [some (.cell n), some (.tup X), some o, some (.int t2), some (.int mo), some (.lst BB), some (.cell T2.length), some (.tup [.int 5, .int 3, .int 9]), none, none] T4 (by
      simp [hg3, c2, eM3, d4]) ?_
    refine seqS_of _ _ (h5 T4 rfl) ?_
    simp [hlen, e3, ev]
  · by_cases hlt2 : j < S.length
    · rw [List.getElem?_take_of_lt hlt2, F3.2 j hj, oT5 j (by omega), oT4 j (by omega), oT3 j (by omega), oT2 j (by omega), oT1 j (by omega), F2.2 j hj, F1.2 j hj]
    · rw [List.getElem?_eq_none (by rw [List.length_take]; omega), List.getElem?_eq_none (by omega)]
end LW

/-! LOJ: instances as rewriting rules. -/
namespace LH
open PySem PySem.Spec PyProof.Rows L2
section
variable {C : Addr} {ns : List Str} {f : Str} {n : Nat} {xs ds : List PV} {S S2 : Sto} {env : PEnv} {y : PV} {fo fv : ExprD} {r : ArgsD} {g : FnDen}
theorem fldV_of {v : PV} (h : S[n]? = some (.gen true (insG C ns) xs)) (hl : xs.length = ns.length) (hv : (ns.zip xs).lookup f = some v) : fldV C ns f (.cell n) S = .ok v S := by
  unfold fldV
  rw [insAt_of h hl]
  dsimp only
  rw [hv]
theorem setFS_new (hv : fv env S = .ok y S) (ho : fo env S = .ok (.cell n) S) (h : S[n]? = some (.gen true (insG C ns) xs)) (hl : xs.length = ns.length) (hy : bel 0 y = true) (hs : ns.length < 1000) (hf : f ∉ ns) :
    setFS C ns f fo fv env S = .ok (.nx env) (S.set n (.gen true (insG C (ns ++ [f])) (xs ++ [y]))) := by
  unfold setFS
  rw [hv]
  show runE (fo env S) env _ = _
  rw [ho]
  show (match insAt S C ns (.cell n) with | some (n, xs) => _ | none => _) = _
  rw [insAt_of h hl]
  dsimp only
  rw [if_pos ⟨hy, hs⟩, if_neg hf]
noncomputable def makK (C : Addr) (g : FnDen) (ds : List PV) (S1 : Sto) : Res PV := (g (.cell S1.length :: ds) (S1 ++ [.gen true (insG C []) []])).bind fun v S2 => if isNonB v = true then .ok (.cell S1.length) S2 else .stuck
@[simp] theorem makeE_s : makeE C g r env S = (r env S).bind (makK C g) := (rfl)
theorem makK_of (h : g (.cell S.length :: ds) (S ++ [.gen true (insG C []) []]) = .ok .non S2) : makK C g ds S = .ok (.cell S.length) S2 := by
  unfold makK
  rw [h]
  rfl
noncomputable def instK2 (C : Addr) (ns : List Str) (g : FnDen) (d : PV) (ds : List PV) (S2 : Sto) : Res PV := match insAt S2 C ns d with
  | some _ => g (d :: ds) S2
  | none => .stuck
noncomputable def instK (C : Addr) (ns : List Str) (g : FnDen) (r : ArgsD) (env : PEnv) (d : PV) (S1 : Sto) : Res PV := (r env S1).bind (instK2 C ns g d)
@[simp] theorem instE_s : instE C ns g fo r env S = (fo env S).bind (instK C ns g r env) := (rfl)
@[simp] theorem instK_s : instK C ns g r env y S = (r env S).bind (instK2 C ns g y) := (rfl)
noncomputable def methK (C : Addr) (ns : List Str) (g : FnDen) (r : ArgsD) (env : PEnv) (d : PV) (S1 : Sto) : Res PV := match insAt S1 C ns d with
  | some _ => (r env S1).bind fun ds S2 => g (d :: ds) S2
  | none => .stuck
@[simp] theorem methE_s : methE C ns g fo r env S = (fo env S).bind (methK C ns g r env) := (rfl)
def methK2 (g : FnDen) (d : PV) (ds : List PV) (S2 : Sto) : Res PV := g (d :: ds) S2
@[simp] theorem methK2_s : methK2 g y ds S = g (y :: ds) S := (rfl)
noncomputable def propK (C : Addr) (ns : List Str) (g : FnDen) (d : PV) (S1 : Sto) : Res PV := match insAt S1 C ns d with
  | some _ => match g [d] S1 with
    | .ok v S2 => .ok v S2
    | _ => .stuck
  | none => .stuck
@[simp] theorem propE_s : propE C ns g fo env S = (fo env S).bind (propK C ns g) := (rfl)
end
end LH

/-! PW: a level is the least of the lines. -/
namespace LW
open PySem PySem.Spec PyProof.Rows L2 LH
/-- x lies below each line; youngest first -/
def fillX (mt : Bool) (full rise cm t x : Int) : Int → List En → Prop
  | _, [] => True
  | s, e :: r => if e.2.2 = true ∨ mt = true then x ≤ full + rise * (t - e.1) - cm * (s + e.2.1) ∧ fillX mt full rise cm t x (s + e.2.1) r else fillX mt full rise cm t x s r
def LInv (mt : Bool) (full rise cm t L : Int) (l : List En) : Prop := ∀ x, x ≤ L ↔ x ≤ full ∧ fillX mt full rise cm t x 0 l
/-- the rule's numbers over the common ground -/
structure Cg (a b c d full rise cm g : Int) : Prop where
  g0 : 0 < g
  cm : cm * g = b * d
  full : full * g = a * d
  rise : rise * g = c * b
end LW

/-! PX: the program's levels. -/
namespace LW
open PySem PySem.Spec PyProof.Rows L2 LH
def cmN (b d : Nat) : Nat := b / Nat.gcd b d * d
def fuN (a b d : Nat) : Nat := a * (d / Nat.gcd b d)
def riN (b c d : Nat) : Nat := c * (b / Nat.gcd b d)
/-- the last moment of a row -/
def lastT (rows : List (Int × Int)) : Int := match rows.getLast? with
  | some q => q.1
  | none => 0
end LW

/-! PY: the doors at fills; answers at fills. -/
namespace LW
open PySem PySem.Spec PyProof.Rows L2 LH
theorem is_fraction_ok {a b : Nat} {S : Sto} (hb : 1 ≤ b) (hg : Nat.gcd a b = 1) : d_is_fraction_T [.tup [.int (a : Int), .int (b : Int)]] S = .ok (.bl true) S := by
  have h := gcd_ok (a := a) (b := b) (S := S)
  rw [hg] at h
  have h1 : (1 : Int) ≤ (b : Int) := by omega
  unfold d_is_fraction_T
  simp at h
  simp [h, h1]
theorem check_rule_fill {mt : Bool} {a b c d : Nat} {S : Sto} (h : FN a b c d) (h1 : Nat.gcd a b = 1) (h2 : Nat.gcd c d = 1) : d_check_rule_T [encR (.fill mt a b c d)] S = .ok .non S := by
  have f1 := is_fraction_ok (S := S) h.b.1 h1
  have f2 := is_fraction_ok (S := S) h.d.1 h2
  have he : eqV (encR (.fill mt a b c d)) (.tup []) S = .ok (.bl false) S := by
    refine eq_nil_tup ?_
    have hk : ∀ n, chk n (.str (kd mt)) = true := fun n => by cases mt <;> exact chk_str (by decide +kernel)
    show (chk 59 (.str (kd mt)) && _) = true
    rw [hk]
    rfl
  have hr : d_is_rule_T [encR (.fill mt a b c d)] S = .ok (.bl true) S := by
    unfold d_is_rule_T
    cases mt with
    | true => simp [encR, kd] at he ⊢; simp [he, f1, f2]
    | false => simp [encR, kd] at he ⊢; simp [he, f1, f2]
  unfold d_check_rule_T
  simp [hr]
end LW

/-! PJ0: doors: rows, span rules. -/
namespace LW
open PySem PySem.Spec PyProof.Rows L2 LH
theorem eq_nil_R (r : Rl) (S : Sto) (h : Sp r) : eqV (encR r) (.tup []) S = .ok (.bl false) S := by
  cases r with
  | fill => exact h.elim
  | win w m => exact eq_nil_tup (by simp only [chks, chk_i, chk_str (s := "window") (by decide +kernel), Bool.and_self])
  | frm w m => exact eq_nil_tup (by simp only [chks, chk_i, chk_str (s := "frame") (by decide +kernel), Bool.and_self])
  | gap g => exact eq_nil_tup (by simp only [chks, chk_i, chk_str (s := "gap") (by decide +kernel), Bool.and_self])
theorem check_rule_sp {r : Rl} {S : Sto} (h : Sp r) : d_check_rule_T [encR r] S = .ok .non S := by
  have he := eq_nil_R r S h
  have hr : d_is_rule_T [encR r] S = .ok (.bl true) S := by
    cases r with
    | fill => exact h.elim
    | win w m => unfold d_is_rule_T; simp [encR] at he ⊢; simp [he, h.1, h.2.2]
    | frm w m => unfold d_is_rule_T; simp [encR] at he ⊢; simp [he, h.1, h.2.2]
    | gap g => unfold d_is_rule_T; simp [encR] at he ⊢; simp [he, show 0 ≤ g from h]
  unfold d_check_rule_T
  simp [hr]
end LW

/-! PN: the program's counted. -/
namespace LW
open PySem PySem.Spec PyProof.Rows L2 LH
end LW

/-! T1: rules of all kinds, the program's side. -/
namespace LW
open PySem PySem.Spec PyProof.Rows L2 LH
theorem check_rule_any {r : Rl} {S : Sto} (h : Ok r) : d_check_rule_T [encR r] S = .ok .non S := by
  cases r with
  | fill mt a b c d =>
    obtain ⟨a, b, c, d, rfl, rfl, rfl, rfl, hF, h1, h2⟩ := h
    exact check_rule_fill hF h1 h2
  | win w m => exact check_rule_sp h
  | frm w m => exact check_rule_sp h
  | gap g => exact check_rule_sp h
end LW

/-! PJ: doors: rows, span rules. -/
namespace LW
open PySem PySem.Spec PyProof.Rows L2 LH
end LW

/-! PZ: rows at the doors, answers at fills. -/
namespace LW
open PySem PySem.Spec PyProof.Rows L2 LH
end LW

/-! P0: the program's levels, the answers a mutable list. -/
namespace LW
open PySem PySem.Spec PyProof.Rows L2 LH
end LW

/-! P1: answers at fills, a mutable list; the law's level. -/
namespace LW
open PySem PySem.Spec PyProof.Rows L2 LH
/-- the least of the lines over the common ground b * d; s: the sum so far -/
def lvR (mt : Bool) (full rise gr t : Int) : Int → Int → List En → Int
  | _, m, [] => m
  | s, m, e :: r => if e.2.2 = true ∨ mt = true then lvR mt full rise gr t (s + e.2.1) (if full - (s + e.2.1) * gr + rise * (t - e.1) < m then full - (s + e.2.1) * gr + rise * (t - e.1) else m) r else lvR mt full rise gr t s m r
end LW

/-! RA: lines over gains; the broken line above all. -/
namespace RG
/-- (sum, span) -/
abbrev Ln := Int × Int
def lv (l : Ln) (g : Rat) : Rat := (l.1 : Rat) - (l.2 : Rat) * g
def cross (a b : Ln) : Rat := ((a.1 : Rat) - (b.1 : Rat)) / ((a.2 : Rat) - (b.2 : Rat))
theorem cast_lt {a b : Int} (h : a < b) : (a : Rat) < (b : Rat) := Rat.intCast_lt_intCast.mpr h
theorem cross_mul {a b : Ln} (h : a.2 ≠ b.2) : cross a b * ((b.2 : Rat) - a.2) = (b.1 : Rat) - a.1 := by
  have h' : (a.2 : Rat) ≠ (b.2 : Rat) := fun e => h (by exact_mod_cast e)
  have h1 : (a.2 : Rat) - b.2 ≠ 0 := by grind
  have h2 : cross a b * ((a.2 : Rat) - b.2) = (a.1 : Rat) - b.1 := by unfold cross; grind
  grind
/-- b is steeper: ahead of the crossing it is above -/
theorem le_cross {a b : Ln} (h : a.2 < b.2) {g : Rat} (hg : g ≤ cross a b) : lv a g ≤ lv b g := by
  have h1 := cast_lt h
  have h2 := cross_mul (a := a) (b := b) (by omega)
  have h3 : 0 ≤ (cross a b - g) * ((b.2 : Rat) - a.2) := Rat.mul_nonneg (by grind) (by grind)
  unfold lv; grind
/-- the greatest of some lines -/
def mx : List Ln → Rat → Rat
  | [], _ => 0
  | [a], g => lv a g
  | a :: b :: r, g => if lv a g ≤ mx (b :: r) g then mx (b :: r) g else lv a g
/-- a broken line tells a function from its first begin on -/
def Tells (f : Rat → Rat) : List (Rat × Ln) → Prop
  | [] => False
  | [(b, l)] => ∀ g, b ≤ g → f g = lv l g
  | (b, l) :: (b', l') :: r => b < b' ∧ l ≠ l' ∧ (∀ g, b ≤ g → g ≤ b' → f g = lv l g) ∧ Tells f ((b', l') :: r)
/-- lines, steepest first: less steep, lesser, the crossings rise -/
def Chain : List Ln → Prop
  | [] => True
  | [_] => True
  | [a, b] => b.2 < a.2 ∧ b.1 < a.1
  | a :: b :: c :: r => b.2 < a.2 ∧ b.1 < a.1 ∧ cross b a < cross c b ∧ Chain (b :: c :: r)
theorem Chain.tail {a : Ln} : ∀ {r : List Ln}, Chain (a :: r) → Chain r
  | [], _ => True.intro
  | [_], _ => True.intro
  | _ :: _ :: _, h => h.2.2.2
theorem Chain.two {a b : Ln} : ∀ {r : List Ln}, Chain (a :: b :: r) → b.2 < a.2 ∧ b.1 < a.1
  | [], h => h
  | _ :: _, h => ⟨h.1, h.2.1⟩
theorem Chain.lt {a : Ln} : ∀ {r : List Ln}, Chain (a :: r) → ∀ l ∈ r, l.2 < a.2 ∧ l.1 < a.1
  | [], _, _, h => by cases h
  | b :: r, h, l, hl => by
    have h2 := h.two
    rcases List.mem_cons.mp hl with rfl | hl
    · exact h2
    · have := Chain.lt h.tail l hl; omega
/-- ahead of its first crossing the steepest is the greatest -/
theorem Chain.first {a b : Ln} : ∀ {r : List Ln} {g : Rat}, Chain (a :: b :: r) → g ≤ cross b a → ∀ l ∈ a :: b :: r, lv l g ≤ lv a g
  | [], g, h, hg, l, hl => by
    rcases List.mem_cons.mp hl with rfl | hl
    · exact Rat.le_refl
    · simp at hl; subst hl; exact le_cross h.1 hg
  | c :: r, g, h, hg, l, hl => by
    have hab := le_cross h.1 hg
    rcases List.mem_cons.mp hl with rfl | hl
    · exact Rat.le_refl
    · have h3 := h.2.2.1
      have h4 : g ≤ cross c b := by grind
      exact Rat.le_trans (Chain.first h.2.2.2 h4 l hl) hab
def brks : Rat → List Ln → List (Rat × Ln)
  | _, [] => []
  | g, [a] => [(g, a)]
  | g, a :: b :: r => (g, a) :: brks (cross b a) (b :: r)
/-- what is not above any more goes -/
def pops (t : Ln) : List Ln → List Ln
  | a :: b :: r => if cross a t < cross b a then a :: b :: r else pops t (b :: r)
  | s => s
def push (st : List Ln) (t : Ln) : List Ln := match st with
  | [] => [t]
  | a :: r => if a.1 < t.1 then t :: pops t (a :: r) else a :: r
/-- the last of each span -/
def topsL : List Ln → List Ln
  | [] => []
  | [x] => [x]
  | x :: y :: r => if x.2 < y.2 then x :: topsL (y :: r) else topsL (y :: r)
def spLe (a b : Ln) : Prop := a.2 < b.2 ∨ a.2 = b.2 ∧ a.1 ≤ b.1
/-- the broken line above some rows that ascend -/
def hiRows (rows : List Ln) : List (Rat × Ln) := brks 0 ((topsL rows).foldl push [])
end RG

/-! FR: fractions in lowest terms are rationals. -/
namespace LW
open PySem PySem.Spec PyProof.Rows L2 LH RG
def lowI (t : Int) (b : Nat) : PV := .tup [.int (t / (Nat.gcd t.natAbs b : Nat)), .int ((b / Nat.gcd t.natAbs b : Nat) : Int)]
/-- a rational as a tuple (top, bottom) -/
def fr (q : Rat) : PV := .tup [.int q.num, .int (q.den : Int)]
def oF : Option Rat → PV
  | none => .non
  | some q => fr q
@[simp] theorem isV_oF (o : Option Rat) (S : Sto) : isV (oF o) .non S = .ok (.bl o.isNone) S := by cases o <;> rfl
@[simp] theorem isNotV_oF (o : Option Rat) (S : Sto) : isNotV (oF o) .non S = .ok (.bl o.isSome) S := by cases o <;> rfl
end LW

/-! P2: lowest terms of any top; the common ground does not matter. -/
namespace LW
open PySem PySem.Spec PyProof.Rows L2 LH
end LW

/-! P3: the law's level. -/
namespace LW
open PySem PySem.Spec PyProof.Rows L2 LH
end LW

/-! P4: the program's level. -/
namespace LW
open PySem PySem.Spec PyProof.Rows L2 LH
end LW

/-! T5: logs at the doors. -/
namespace LW
open PySem PySem.Spec PyProof.Rows L2 LH
end LW

/-! DOR: doors as objects. -/
namespace LW
open PySem PySem.Spec PyProof.Rows L2 LH
def doorF : List Str := ["door_rule", "asked"]
/-- a door with a rule and the requests that it answered -/
noncomputable def doorC (C : Addr) (r : Rl) (rows : List (Int × Int)) : LH.Cell := .gen true (insG C ["door_rule", "asked"]) [encR r, .tup (rows.map rq)]
section
variable {cO : Str → Addr} {r : Rl} {rows : List (Int × Int)} {n : Nat} {S : Sto} {t c : Int}
theorem bel_encDR (r : Rl) (k : Nat) : bel k (encR r) = true := by
  cases r <;> simp [encR, bel, bels]
theorem door_rule (h : S[n]? = some (doorC (cO "Door") r rows)) : fldV (cO "Door") ["door_rule", "asked"] "door_rule" (.cell n) S = .ok (encR r) S := fldV_of h rfl rfl
theorem door_init (hr : Ok r) : d_Door___init___T cO [.cell S.length, encR r] (S ++ [.gen true (insG (cO "Door") []) []]) = .ok .non (S ++ [doorC (cO "Door") r []]) := by
  have g1 := check_rule_any (S := S ++ [.gen true (insG (cO "Door") []) []]) hr
  have e1 : (S ++ [LH.Cell.gen true (insG (cO "Door") []) []])[S.length]? = some (.gen true (insG (cO "Door") []) []) := by rw [List.getElem?_append_right (Nat.le_refl _), Nat.sub_self]; rfl
  have f1 := setFS_new (C := cO "Door") (ns := []) (f := "door_rule") (fo := vE 0) (fv := vE 1) (env := [some (.cell S.length), some (encR r)]) (y := encR r) (by simp) (by simp) e1 rfl (bel_encDR r 0) (by decide) (by simp)
  have e2 : (S ++ [LH.Cell.gen true (insG (cO "Door") []) []]).set S.length (.gen true (insG (cO "Door") (([] : List Str) ++ (["door_rule"] : List Str))) (([] : List PV) ++ [encR r])) = S ++ [.gen true (insG (cO "Door") ["door_rule"]) [encR r]] := by simp
  rw [e2] at f1
  have e3 : (S ++ [LH.Cell.gen true (insG (cO "Door") ["door_rule"]) [encR r]])[S.length]? = some (.gen true (insG (cO "Door") ["door_rule"]) [encR r]) := by rw [List.getElem?_append_right (Nat.le_refl _), Nat.sub_self]; rfl
  have f2 := setFS_new (C := cO "Door") (ns := ["door_rule"]) (f := "asked") (fo := vE 0) (fv := tupE nilA) (env := [some (.cell S.length), some (encR r)]) (y := .tup []) (by simp) (by simp) e3 rfl (by simp [bel, bels]) (by decide) (by decide)
  have e4 : (S ++ [LH.Cell.gen true (insG (cO "Door") ["door_rule"]) [encR r]]).set S.length (.gen true (insG (cO "Door") ((["door_rule"] : List Str) ++ (["asked"] : List Str))) ([encR r] ++ [.tup []])) = S ++ [doorC (cO "Door") r []] := by simp [doorC]
  rw [e4] at f2
  unfold d_Door___init___T
  simp [g1, f1, f2]
theorem door_new (hr : Ok r) : makK (cO "Door") (d_Door___init___T cO) [encR r] S = .ok (.cell S.length) (S ++ [doorC (cO "Door") r []]) := makK_of (door_init hr)
end
end LW

/-! LOK: star parameters, methods without arguments, operators of own classes: rewriting rules. -/
namespace LH
open PySem PySem.Spec PyProof.Rows L2
section
variable {C : Addr} {ns : List Str} {n n2 k : Nat} {xs ys ds : List PV} {S S2 : Sto} {env : PEnv} {x y v : PV} {fo : ExprD} {g : FnDen} {p : PV → Bool}
theorem packD_of (h1 : k ≤ ds.length) (h2 : ds.length - k ≤ sizeLine) : packD k g ds S = g (ds.take k ++ [.tup (ds.drop k)]) S := by
  unfold packD
  rw [if_pos ⟨h1, h2⟩]
noncomputable def meth0K (C : Addr) (ns : List Str) (g : FnDen) (d : PV) (S1 : Sto) : Res PV := match insAt S1 C ns d with
  | some _ => g [d] S1
  | none => .stuck
@[simp] theorem meth0E_s : meth0E C ns g fo env S = (fo env S).bind (meth0K C ns g) := (rfl)
end
end LH

/-! PR: span rules and rows, drawn. -/
namespace LW
open PySem PySem.Spec PyProof.Rows L2 LH
def knd : Rl → Str
  | .fill mt _ _ _ _ => kd mt
  | .win _ _ => "window"
  | .frm _ _ => "frame"
  | .gap _ => "gap"
def wd : Rl → Int
  | .fill _ _ _ _ _ => 0
  | .win w _ => w
  | .frm w _ => w
  | .gap g => g
def SpB (r : Rl) : Prop := Sp r ∧ 0 ≤ wd r ∧ wd r ≤ 2000000000
theorem rule_gap {n : Nat} {m great : Int} {S : Sto} (h : Cs n m S) (hm : m + 10 < 10 ^ 11) (hg : 1 ≤ great) (hg2 : great ≤ 1000000000) :
    ∃ (r : Rl) (S' : Sto), d__law_rule_T [.cell n, .str "gap", .int great] S = .ok (encR r) S' ∧ SpB r ∧ knd r = "gap" ∧ Cs n (m + 3) S' ∧ Fr n S S' := by
  obtain ⟨t1, S1, e1, a1, b1, C1, F1⟩ := take_ok h (by omega) (show (0 : Int) < 9 by decide) (by decide)
  obtain ⟨t2, S2, e2, a2, b2, C2, F2⟩ := take_ok C1 (by omega) (show 0 < great + 1 by omega) (by omega)
  obtain ⟨t3, S3, e3, a3, b3, C3, F3⟩ := take_ok C2 (by omega) (show (0 : Int) < 3 by decide) (by decide)
  obtain ⟨v, ev, hv⟩ := pick3 (S := S3) (a := 0) (b := t1) (c := t2) a3 b3
  refine ⟨.gap v, S3, ?_, ⟨show 0 ≤ v by omega, show 0 ≤ v by omega, show v ≤ _ by omega⟩, rfl, C3.mono (by omega), (F1.trans F2).trans F3⟩
  unfold d__law_rule_T
  simp [e1, e2, e3, ev, encR]
theorem rule_win {n : Nat} {m great : Int} {S : Sto} (h : Cs n m S) (hm : m + 10 < 10 ^ 11) (hg : 1 ≤ great) (hg2 : great ≤ 1000000000) :
    ∃ (r : Rl) (S' : Sto), d__law_rule_T [.cell n, .str "window", .int great] S = .ok (encR r) S' ∧ SpB r ∧ knd r = "window" ∧ Cs n (m + 3) S' ∧ Fr n S S' := by
  obtain ⟨t1, S1, e1, a1, b1, C1, F1⟩ := take_ok h (by omega) (show (0 : Int) < 3 by decide) (by decide)
  obtain ⟨v, ev, hv⟩ := pick3 (S := S1) (a := 4) (b := 12) (c := great) a1 b1
  obtain ⟨t2, S2, e2, a2, b2, C2, F2⟩ := take_ok C1 (by omega) (show 0 < v by omega) (by omega)
  obtain ⟨t3, S3, e3, a3, b3, C3, F3⟩ := take_ok C2 (by omega) (show 0 < great + 1 by omega) (by omega)
  refine ⟨.win (1 + t2) t3, S3, ?_, ⟨⟨by omega, by omega, a3⟩, show 0 ≤ 1 + t2 by omega, show 1 + t2 ≤ _ by omega⟩, rfl, C3.mono (by omega), (F1.trans F2).trans F3⟩
  unfold d__law_rule_T
  simp [e1, ev, e2, e3, encR]
theorem rule_frm {n : Nat} {m great : Int} {S : Sto} (h : Cs n m S) (hm : m + 10 < 10 ^ 11) (hg : 1 ≤ great) (hg2 : great ≤ 1000000000) :
    ∃ (r : Rl) (S' : Sto), d__law_rule_T [.cell n, .str "frame", .int great] S = .ok (encR r) S' ∧ SpB r ∧ knd r = "frame" ∧ Cs n (m + 3) S' ∧ Fr n S S' := by
  obtain ⟨t1, S1, e1, a1, b1, C1, F1⟩ := take_ok h (by omega) (show (0 : Int) < 3 by decide) (by decide)
  obtain ⟨v, ev, hv⟩ := pick3 (S := S1) (a := 4) (b := 12) (c := great) a1 b1
  obtain ⟨t2, S2, e2, a2, b2, C2, F2⟩ := take_ok C1 (by omega) (show 0 < v by omega) (by omega)
  obtain ⟨t3, S3, e3, a3, b3, C3, F3⟩ := take_ok C2 (by omega) (show 0 < great + 1 by omega) (by omega)
  refine ⟨.frm (1 + t2) t3, S3, ?_, ⟨⟨by omega, by omega, a3⟩, show 0 ≤ 1 + t2 by omega, show 1 + t2 ≤ _ by omega⟩, rfl, C3.mono (by omega), (F1.trans F2).trans F3⟩
  unfold d__law_rule_T
  simp [e1, ev, e2, e3, encR]
end LW

/-! PUf: fractions, drawn. -/
namespace LW
open PySem PySem.Spec PyProof.Rows L2 LH
theorem pick5 {S : Sto} {a b c d e t : Int} (h0 : 0 ≤ t) (h : t < 5) : ∃ v, itemV (.lst [.int a, .int b, .int c, .int d, .int e]) (.int t) S = .ok (.int v) S ∧ (v = a ∨ v = b ∨ v = c ∨ v = d ∨ v = e) := by
  have : t = 0 ∨ t = 1 ∨ t = 2 ∨ t = 3 ∨ t = 4 := by omega
  rcases this with rfl | rfl | rfl | rfl | rfl
  · exact ⟨a, rfl, .inl rfl⟩
  · exact ⟨b, rfl, .inr (.inl rfl)⟩
  · exact ⟨c, rfl, .inr (.inr (.inl rfl))⟩
  · exact ⟨d, rfl, .inr (.inr (.inr (.inl rfl)))⟩
  · exact ⟨e, rfl, .inr (.inr (.inr (.inr rfl)))⟩
theorem fraction_ok {n : Nat} {m great : Int} {S : Sto} (h : Cs n m S) (hm : m + 10 < 10 ^ 11) (hg : 0 ≤ great) (hg2 : great ≤ 1000000000) :
    ∃ (a b : Int) (S' : Sto), d__law_fraction_T [.cell n, .int great] S = .ok (.tup [.int a, .int b]) S' ∧ Lt a b 1000000 ∧ Cs n (m + 4) S' ∧ Fr n S S' := by
  obtain ⟨t1, S1, e1, a1, b1, C1, F1⟩ := take_ok h (by omega) (show (0 : Int) < 9 by decide) (by decide)
  obtain ⟨t2, S2, e2, a2, b2, C2, F2⟩ := take_ok C1 (by omega) (show (0 : Int) < 1000000 by decide) (by decide)
  obtain ⟨t3, S3, e3, a3, b3, C3, F3⟩ := take_ok C2 (by omega) (show (0 : Int) < 5 by decide) (by decide)
  obtain ⟨v, ev, hv⟩ := pick5 (S := S3) (a := 1) (b := 1) (c := 2) (d := 1 + t1) (e := 1 + t2) a3 b3
  have hv1 : 1 ≤ v := by omega
  have hv2 : v ≤ 1000000 := by omega
  have hmu : mulV (.int great) (.int v) S3 = .ok (.int (great * v)) S3 := mulV_i _ _ (mulC_le (by omega) (by omega))
  have hq0 : 0 ≤ great * v := Int.mul_nonneg hg (by omega)
  generalize great * v = gv at hmu hq0
  obtain ⟨z, hz, hz0, hz1⟩ : ∃ z, (if (1000000 : Int) < gv then (1000000 : Int) else gv) = z ∧ 0 ≤ z ∧ z ≤ 1000000 := ⟨_, rfl, by split <;> omega, by split <;> omega⟩
  obtain ⟨t4, S4, e4, a4, b4, C4, F4⟩ := take_ok C3 (by omega) (show 0 < z + 1 by omega) (by omega)
  have hlo := lowest_ok (a := t4.toNat) (b := v.toNat) (S := S4) (by omega) (by omega)
  rw [Int.toNat_of_nonneg a4, Int.toNat_of_nonneg (by omega)] at hlo
  refine ⟨_, _, S4, ?_, lt_of (a := t4.toNat) (b := v.toNat) (B := 1000000) (by omega) (by omega) (by omega), C4.mono (by omega), ((F1.trans F2).trans F3).trans F4⟩
  rw [← hlo]
  unfold d__law_fraction_T
  simp [e1, e2, e3, ev, hmu, hz, e4]
  rw [hlo]
  rfl
end LW

/-! PU: bucket and meter rules, drawn. -/
namespace LW
open PySem PySem.Spec PyProof.Rows L2 LH
def Fill (mt : Bool) (a b c d : Int) : Prop := Lt a b 1000000 ∧ Lt c d 1000000
theorem rule_fill {mt : Bool} {n : Nat} {m great : Int} {S : Sto} (h : Cs n m S) (hm : m + 20 < 10 ^ 11) (hg : 0 ≤ great) (hg2 : great ≤ 1000000000) :
    ∃ (a b c d : Int) (S' : Sto), d__law_rule_T [.cell n, .str (kd mt), .int great] S = .ok (encR (.fill mt a b c d)) S' ∧ Fill mt a b c d ∧ Cs n (m + 9) S' ∧ Fr n S S' := by
  obtain ⟨t1, S1, e1, a1, b1, C1, F1⟩ := take_ok h (by omega) (show (0 : Int) < 3 by decide) (by decide)
  obtain ⟨v, ev, hv⟩ := pick3 (S := S1) (a := 1) (b := 3) (c := great) a1 b1
  obtain ⟨c, d, S2, e2, l2, C2, F2⟩ := fraction_ok C1 (by omega) (show 0 ≤ v by omega) (by omega)
  obtain ⟨a, b, S3, e3, l3, C3, F3⟩ := fraction_ok C2 (by omega) hg hg2
  refine ⟨a, b, c, d, S3, ?_, ⟨l3, l2⟩, C3.mono (by omega), (F1.trans F2).trans F3⟩
  unfold d__law_rule_T
  cases mt with
  | true => simp [kd, e1, ev, e2, e3, encR]
  | false => simp [kd, e1, ev, e2, e3, encR]
end LW

/-! T0: rules of all kinds, drawn. -/
namespace LW
open PySem PySem.Spec PyProof.Rows L2 LH
theorem fill_any {mt : Bool} {a b c d : Int} (h : Fill mt a b c d) : Ok (.fill mt a b c d) := by
  obtain ⟨l1, l2⟩ := h
  have q1 := l1.a0; have q2 := l1.b1; have q3 := l2.a0; have q4 := l2.b1
  have r1 := l1.aB; have r2 := l1.bB; have r3 := l2.aB; have r4 := l2.bB
  exact ⟨a.toNat, b.toNat, c.toNat, d.toNat, by omega, by omega, by omega, by omega, ⟨by omega, by omega, by omega, by omega⟩, l1.co, l2.co⟩
theorem rule_any {kk : Str} {n : Nat} {m great : Int} {S : Sto} (hk : Wrd kk) (h : Cs n m S) (hm : m + 20 < 10 ^ 11) (hg : 1 ≤ great) (hg2 : great ≤ 1000000000) :
    ∃ (r : Rl) (S' : Sto), d__law_rule_T [.cell n, .str kk, .int great] S = .ok (encR r) S' ∧ Ok r ∧ knd r = kk ∧ Cs n (m + 9) S' ∧ Fr n S S' := by
  rcases hk with rfl | rfl | rfl | rfl | rfl
  · obtain ⟨a, b, c, d, S', e, hf, C, F⟩ := rule_fill (mt := false) h hm (by omega) hg2
    exact ⟨_, S', e, fill_any hf, rfl, C, F⟩
  · obtain ⟨a, b, c, d, S', e, hf, C, F⟩ := rule_fill (mt := true) h hm (by omega) hg2
    exact ⟨_, S', e, fill_any hf, rfl, C, F⟩
  · obtain ⟨r, S', e, hr, hk, C, F⟩ := rule_win h (by omega) hg hg2
    exact ⟨r, S', e, .of_sp hr.1, hk, C.mono (by omega), F⟩
  · obtain ⟨r, S', e, hr, hk, C, F⟩ := rule_frm h (by omega) hg hg2
    exact ⟨r, S', e, .of_sp hr.1, hk, C.mono (by omega), F⟩
  · obtain ⟨r, S', e, hr, hk, C, F⟩ := rule_gap h (by omega) hg hg2
    exact ⟨r, S', e, .of_sp hr.1, hk, C.mono (by omega), F⟩
end LW

/-! K05d: a wrong argument, drawn. -/
namespace LW
open PySem PySem.Spec PyProof.Rows L2 LH
section
variable {cO : Str → Addr} {S : Sto}
theorem opq_door : (makK (cO "Door") (d_Door___init___T cO) [.tup [.str "gap", .int 1]] S).bind (opqV (cO "Door") ["door_rule", "asked"]) = .ok (.opq (.ref (cO "Door"))) (S ++ [.dead]) := by
  have hr : Ok (.gap 1) := show (0 : Int) ≤ 1 by decide
  have h := door_new (cO := cO) (S := S) hr
  have e : encR (.gap 1) = .tup [.str "gap", .int 1] := rfl
  rw [e] at h
  rw [h, bind_ok]
  have e1 : (S ++ [doorC (cO "Door") (.gap 1) []])[S.length]? = some (.gen true (insG (cO "Door") ["door_rule", "asked"]) [encR (.gap 1), .tup (([] : List (Int × Int)).map rq)]) := by rw [List.getElem?_append_right (Nat.le_refl _), Nat.sub_self]; rfl
  unfold opqV
  rw [insAt_of e1 rfl]
  simp
theorem hrd_init0 : d_Heard___init___T cO [.cell S.length, .str "gap", .tup []] (S ++ [.gen true (LH.insG (cO "Heard") []) []]) = .ok .non (S ++ [.gen true (LH.insG (cO "Heard") ["heard_kind", "heard_logs"]) [.str "gap", .tup [.tup []]]]) := by
  have c1 : d_check_kind_T [.str "gap", .tup [.str "bucket", .str "meter", .str "window", .str "frame", .str "gap"]] (S ++ [LH.Cell.gen true (LH.insG (cO "Heard") []) []]) = .ok .non (S ++ [LH.Cell.gen true (LH.insG (cO "Heard") []) []]) := by
    have h : ∀ S, notInV (.str "gap") (.tup [.str "bucket", .str "meter", .str "window", .str "frame", .str "gap"]) S = .ok (.bl false) S := fun _ => rfl
    unfold d_check_kind_T
    simp [h]
  have e1 : (S ++ [LH.Cell.gen true (LH.insG (cO "Heard") []) []])[S.length]? = some (.gen true (LH.insG (cO "Heard") []) []) := by rw [List.getElem?_append_right (Nat.le_refl _), Nat.sub_self]; rfl
  have f1 := setFS_new (C := cO "Heard") (ns := []) (f := "heard_kind") (fo := vE 0) (fv := vE 1) (env := [some (.cell S.length), some (.str "gap"), some (.tup []), none]) (y := .str "gap") (by simp) (by simp) e1 rfl rfl (by decide) (by simp)
  have e2 : (S ++ [LH.Cell.gen true (LH.insG (cO "Heard") []) []]).set S.length (.gen true (LH.insG (cO "Heard") (([] : List Str) ++ (["heard_kind"] : List Str))) (([] : List PV) ++ [.str "gap"])) = S ++ [.gen true (LH.insG (cO "Heard") ["heard_kind"]) [.str "gap"]] := by simp
  rw [e2] at f1
  have e3 : (S ++ [LH.Cell.gen true (LH.insG (cO "Heard") ["heard_kind"]) [.str "gap"]])[S.length]? = some (.gen true (LH.insG (cO "Heard") ["heard_kind"]) [.str "gap"]) := by rw [List.getElem?_append_right (Nat.le_refl _), Nat.sub_self]; rfl
  have hne : ∀ S, LH.neV (.tup []) (.tup []) S = .ok (.bl false) S := fun S => ne_nil_tup (xs := []) rfl
  have f2 := setFS_new (C := cO "Heard") (ns := ["heard_kind"]) (f := "heard_logs") (fo := vE 0) (fv := iteE (tstE (binE LH.neV (vE 2) (tupE (nilA)))) (vE 2) (tupE (consA (tupE (nilA)) (nilA)))) (env := [some (.cell S.length), some (.str "gap"), some (.tup []), none]) (y := .tup [.tup []]) (by simp [hne]) (by simp) e3 rfl rfl (by decide) (by decide)
  have e4 : (S ++ [LH.Cell.gen true (LH.insG (cO "Heard") ["heard_kind"]) [.str "gap"]]).set S.length (.gen true (LH.insG (cO "Heard") ((["heard_kind"] : List Str) ++ (["heard_logs"] : List Str))) ([.str "gap"] ++ [.tup [.tup []]])) = S ++ [.gen true (LH.insG (cO "Heard") ["heard_kind", "heard_logs"]) [.str "gap", .tup [.tup []]]] := by simp
  rw [e4] at f2
  have hf : ∀ ds t b env S, forL none ds t b [] env S = .ok (.nx env) S := fun _ _ _ _ _ => forL_nil2
  unfold d_Heard___init___T
  simp [c1, hf, f1, f2]
theorem opq_heard : (makK (cO "Heard") (packD 2 (d_Heard___init___T cO)) [.str "gap"] S).bind (opqV (cO "Heard") ["heard_kind", "heard_logs"]) = .ok (.opq (.ref (cO "Heard"))) (S ++ [.dead]) := by
  have h : makK (cO "Heard") (packD 2 (d_Heard___init___T cO)) [.str "gap"] S = .ok (.cell S.length) (S ++ [.gen true (LH.insG (cO "Heard") ["heard_kind", "heard_logs"]) [.str "gap", .tup [.tup []]]]) := makK_of (by
    rw [packD_of (by simp) (by rw [sizeLine_eq]; simp)]
    exact hrd_init0)
  rw [h, bind_ok]
  have e1 : (S ++ [LH.Cell.gen true (LH.insG (cO "Heard") ["heard_kind", "heard_logs"]) [.str "gap", .tup [.tup []]]])[S.length]? = some (.gen true (insG (cO "Heard") ["heard_kind", "heard_logs"]) [.str "gap", .tup [.tup []]]) := by rw [List.getElem?_append_right (Nat.le_refl _), Nat.sub_self]; rfl
  unfold opqV
  rw [insAt_of e1 rfl]
  simp
/-- a bad argument in the place of a word -/
def BadV (w : Str) (v : PV) : Prop := pln v = true ∧ (w = "rule" → ruleB v = false) ∧ (w = "row" → rowB v = false) ∧ (w = "log" → logB v = false) ∧ (w = "moment" → atl 0 v = false)
theorem BadV.opq (w : Str) (t : Value) : BadV w (.opq t) := ⟨rfl, fun _ => rfl, fun _ => rfl, fun _ => rfl, fun _ => rfl⟩
def Wd (w : Str) : Prop := w = "rule" ∨ w = "row" ∨ w = "log" ∨ w = "moment"
theorem encR_form {r : Rl} (h : Ok r) : ∃ xs, encR r = .tup (.str (knd r) :: xs) ∧ Wrd (knd r) ∧ plns xs = true ∧ 1 ≤ xs.length ∧ xs.length ≤ 10 := by
  cases r with
  | fill mt a b c d => exact ⟨_, by cases mt <;> rfl, by cases mt; exact .inl rfl; exact .inr (.inl rfl), rfl, by simp, by simp⟩
  | win w m => exact ⟨_, rfl, .inr (.inr (.inl rfl)), rfl, by simp, by simp⟩
  | frm w m => exact ⟨_, rfl, .inr (.inr (.inr (.inl rfl))), rfl, by simp, by simp⟩
  | gap g => exact ⟨_, rfl, .inr (.inr (.inr (.inr rfl))), rfl, by simp, by simp⟩
end
end LW

/-! PS: rows, drawn. -/
namespace LW
open PySem PySem.Spec PyProof.Rows L2 LH
theorem Rq.mono {rows : List (Int × Int)} {n k : Nat} (h : Rq rows n) (hk : n ≤ k) : Rq rows k := ⟨by have := h.len; omega, h.rise, fun r hr => ⟨(h.mom r hr).1, by have := (h.mom r hr).2; omega⟩, h.cost⟩
theorem draws_ok {n many : Nat} {m great : Int} {S : Sto} (h : Cs n m S) (hm : m + 10 < 10 ^ 10) (hmany : many ≤ 100) (hmany4 : 4 ≤ many) (hg : 1 ≤ great) (hg2 : great ≤ 1000000000) :
    ∃ (rows : List (Int × Int)) (S' : Sto), d__law_draws_T [.cell n, .int (many : Int), .int great] S = .ok (.tup (rows.map rq)) S' ∧ Rq rows many ∧ Cs n (m + 5 + 5 * (many : Int)) S' ∧ Fr n S S' := by
  obtain ⟨t1, S1, e1, a1, b1, C1, F1⟩ := take_ok h (by omega) (show (0 : Int) < 2 by decide) (by decide)
  obtain ⟨v, ev, hv⟩ := pick2 (S := S1) (a := 6) (b := great) a1 b1
  obtain ⟨t2, S2, e2, a2, b2, C2, F2⟩ := take_ok C1 (by omega) (show (0 : Int) < 2 by decide) (by decide)
  obtain ⟨w, ew, hw⟩ := pick2 (S := S2) (a := 4) (b := great) a2 b2
  obtain ⟨t3, S3, e3, a3, b3, C3, F3⟩ := take_ok C2 (by omega) (show (0 : Int) < 2 by decide) (by decide)
  obtain ⟨k, ek, hk4, hkm⟩ : ∃ k : Nat, itemV (.lst [.int 4, .int (many : Int)]) (.int t3) S3 = .ok (.int (k : Int)) S3 ∧ 4 ≤ k ∧ k ≤ many := by
    obtain ⟨z, ez, hz⟩ := pick2 (S := S3) (a := 4) (b := (many : Int)) a3 b3
    rcases hz with rfl | rfl
    · exact ⟨4, ez, by omega, hmany4⟩
    · exact ⟨many, ez, hmany4, by omega⟩
  obtain ⟨rows, S4, e4, q4, C4, F4⟩ := requests_ok (many := k) C3 (by omega) (by omega) (show 0 ≤ v by omega) (show v ≤ _ by omega) (show 1 ≤ w by omega) (by omega)
  refine ⟨rows, S4, ?_, q4.mono hkm, C4.mono (by omega), ((F1.trans F2).trans F3).trans F4⟩
  unfold d__law_draws_T
  simp [e1, ev, e2, ew, e3, ek, e4]
end LW

/-! K01z: rules, rows and logs judged. -/
namespace LW
open PySem PySem.Spec PyProof.Rows L2 LH
section
variable {S : Sto} {cO : Str → Addr}
theorem same_bl01 (b : Bool) : d__law_same_T [.bl b, .bl b] S = .ok (.bl true) S := same_true (n := 6) (.bl b)
theorem same_bls (bs : List Bool) (hl : bs.length ≤ 1000) : d__law_same_T [.lst (bs.map .bl), .lst (bs.map .bl)] S = .ok (.bl true) S := same_true (n := 6) (.lst rfl rfl (by simp; omega) rfl fun i d e h1 h2 => by
  rw [h1] at h2
  cases h2
  rw [List.getElem?_map] at h1
  obtain ⟨b, _, rfl⟩ := Option.map_eq_some_iff.mp h1
  exact .bl b)
theorem ruleB_ok {r : Rl} (h : Ok r) : ruleB (encR r) = true := by
  cases r with
  | fill mt a b c d =>
    obtain ⟨a, b, c, d, rfl, rfl, rfl, rfl, hF, h1, h2⟩ := h
    have hb := hF.b; have hd := hF.d
    have f1 : fraB (.tup [.int (a : Int), .int (b : Int)]) = true := by
      show (decide ((0 : Int) ≤ a) && (decide ((1 : Int) ≤ b) && Nat.gcd (a : Int).toNat (b : Int).toNat == 1)) = true
      rw [decide_eq_true (by omega), decide_eq_true (by omega)]
      simp [h1]
    have f2 : fraB (.tup [.int (c : Int), .int (d : Int)]) = true := by
      show (decide ((0 : Int) ≤ c) && (decide ((1 : Int) ≤ d) && Nat.gcd (c : Int).toNat (d : Int).toNat == 1)) = true
      rw [decide_eq_true (by omega), decide_eq_true (by omega)]
      simp [h2]
    cases mt with
    | true => simp [encR, ruleB, kd, f1, f2]
    | false => simp [encR, ruleB, kd, f1, f2]
  | win w m =>
    have q1 : ¬ (("window" : Str) = "bucket" ∨ ("window" : Str) = "meter") := by decide +kernel
    simp [encR, ruleB, q1, atl, h.1, h.2.2]
  | frm w m =>
    have q1 : ¬ (("frame" : Str) = "bucket" ∨ ("frame" : Str) = "meter") := by decide +kernel
    simp [encR, ruleB, q1, atl, h.1, h.2.2]
  | gap g =>
    have q1 : ¬ (("gap" : Str) = "bucket" ∨ ("gap" : Str) = "meter") := by decide +kernel
    have q2 : ¬ (("gap" : Str) = "window" ∨ ("gap" : Str) = "frame") := by decide +kernel
    simp [encR, ruleB, q1, q2, atl, show 0 ≤ g from h]
theorem pln_encR (r : Rl) : pln (encR r) = true := by
  cases r with
  | fill mt a b c d =>
    have h : pln (.str (kd mt)) = true := by cases mt <;> decide +kernel
    show (pln (.str (kd mt)) && _) = true
    rw [h]; rfl
  | win w m =>
    have h : pln (.str "window") = true := by decide +kernel
    show (pln (.str "window") && _) = true
    rw [h]; rfl
  | frm w m =>
    have h : pln (.str "frame") = true := by decide +kernel
    show (pln (.str "frame") && _) = true
    rw [h]; rfl
  | gap g =>
    have h : pln (.str "gap") = true := by decide +kernel
    show (pln (.str "gap") && _) = true
    rw [h]; rfl
theorem rsB_map {α : Type} {f : α → PV} {m : α → Int} {l : List α} (hf : ∀ a, fsI (f a) = m a) (h : l.Pairwise fun a b => m a ≤ m b) : rsB (l.map f) = true := by
  rw [rsB_iff]
  intro i hi
  rw [List.length_map] at hi
  have h1 : (l.map f)[i]? = some (f l[i]) := by rw [List.getElem?_map, List.getElem?_eq_getElem (by omega)]; rfl
  have h2 : (l.map f)[i + 1]? = some (f l[i + 1]) := by rw [List.getElem?_map, List.getElem?_eq_getElem hi]; rfl
  rw [h1, h2]
  show fsI (f l[i]) ≤ fsI (f l[i + 1])
  rw [hf, hf]
  exact List.pairwise_iff_getElem.mp h i (i + 1) (by omega) hi (by omega)
theorem rowB_rq {rows : List (Int × Int)} (h : Row rows) : rowB (.tup (rows.map rq)) = true := by
  show ((rows.map rq).all reqB && rsB (rows.map rq)) = true
  rw [rsB_map (m := fun q => q.1) (fun _ => rfl) h.rise, Bool.and_true, List.all_map]
  refine List.all_eq_true.mpr fun q hq => ?_
  show (decide ((0 : Int) ≤ q.1) && decide ((1 : Int) ≤ q.2)) = true
  rw [decide_eq_true (h.mom q hq), decide_eq_true (h.cost q hq)]; rfl
theorem logB_en {log : List En} (h : Row (log.map rqp)) : logB (.tup (log.map en)) = true := by
  show ((log.map en).all entB && rsB (log.map en)) = true
  have hr : log.Pairwise fun a b => a.1 ≤ b.1 := by
    have := h.rise
    rw [List.pairwise_map] at this
    exact this
  rw [rsB_map (m := fun q => q.1) (fun _ => rfl) hr, Bool.and_true, List.all_map]
  refine List.all_eq_true.mpr fun q hq => ?_
  have hm := List.mem_map_of_mem (f := rqp) hq
  show (decide ((0 : Int) ≤ q.1) && (decide ((1 : Int) ≤ q.2.1) && true)) = true
  rw [decide_eq_true (p := (0 : Int) ≤ q.1) (h.mom _ hm), decide_eq_true (p := (1 : Int) ≤ q.2.1) (h.cost _ hm)]; rfl
theorem rowB_en (log : List En) : rowB (.tup (log.map en)) = log.isEmpty := by
  cases log with
  | nil => rfl
  | cons e l => rfl
theorem logB_rq (rows : List (Int × Int)) : logB (.tup (rows.map rq)) = rows.isEmpty := by
  cases rows with
  | nil => rfl
  | cons e l => rfl
theorem turnA {n : Nat} {m : Int} {r : Rl} {x0 x1 x2 x4 x6 x7 x8 x9 x10 x11 x12 x13 : Option PV} (h : Cs n m S) (hm : m + 20 < 10 ^ 10) (hr : Ok r) :
    ∃ y7 S', B_law_T_0 [x0, x1, x2, some (.cell n), x4, some (encR r), x6, x7, x8, x9, x10, x11, x12, x13] S = .ok (.nx [x0, x1, x2, some (.cell n), x4, some (encR r), x6, y7, x8, x9, x10, x11, x12, x13]) S' ∧ Cs n (m + 3) S' := by
  obtain ⟨xs, ex, hk, px, l1, l2⟩ := encR_form hr
  obtain ⟨v, S1, e1, g1, C1, F1⟩ := no_rule_ok hk h hm px l1 l2
  rw [← ex] at e1
  have j1 := is_rule_any (S := S1) (gd_pln g1)
  have j2 := law_is_rule_any (S := S1) (gd_pln g1)
  have j3 := same_bl01 (S := S1) (ruleB v)
  refine ⟨some v, S1, ?_, C1⟩
  generalize encR r = E at *
  unfold B_law_T_0
  simp [e1, j1, j2, j3]
theorem turnB {n : Nat} {m : Int} {rows : List (Int × Int)} {log : List En} {x0 x1 x2 x4 x5 x6 x7 x10 x11 x12 x13 : Option PV} (h : Cs n m S) (hm : m + 40 < 10 ^ 10) (hl : rows.length ≤ 100) (hl2 : log.length ≤ 100) :
    ∃ y7 S', B_law_T_1 [x0, x1, x2, some (.cell n), x4, x5, x6, x7, some (.tup (rows.map rq)), some (.tup (log.map en)), x10, x11, x12, x13] S = .ok (.nx [x0, x1, x2, some (.cell n), x4, x5, x6, y7, some (.tup (rows.map rq)), some (.tup (log.map en)), x10, x11, x12, x13]) S' ∧ Cs n (m + 6) S' := by
  obtain ⟨v, S1, e1, g1, C1, F1⟩ := no_log_ok h (by omega) hl2
  obtain ⟨u, S2, e2, g2, C2, F2⟩ := no_row_ok C1 (by omega) hl
  have j1 := is_log_any (S := S1) (gd_pln g1)
  have j2 := law_is_log_any (S := S1) (gd_pln g1) (gd_len g1)
  have j3 := same_bl01 (S := S1) (logB v)
  have j4 := is_row_any (S := S1) (gd_pln g1)
  have j5 := law_is_row_any (S := S1) (gd_pln g1) (gd_len g1)
  have j6 := same_bl01 (S := S1) (rowB v)
  have k1 := is_log_any (S := S2) (gd_pln g2)
  have k2 := law_is_log_any (S := S2) (gd_pln g2) (gd_len g2)
  have k4 := is_row_any (S := S2) (gd_pln g2)
  have k5 := law_is_row_any (S := S2) (gd_pln g2) (gd_len g2)
  have k6 : d__law_same_T [.lst [.bl (rowB u), .bl (logB u)], .lst [.bl (rowB u), .bl (logB u)]] S2 = .ok (.bl true) S2 := same_bls [rowB u, logB u] (by simp)
  refine ⟨some u, S2, ?_, C2.mono (by omega)⟩
  generalize rows.map rq = RR at *
  generalize log.map en = LL at *
  unfold B_law_T_1
  simp [e1, e2, j1, j2, j3, j4, j5, j6, k1, k2, k4, k5, k6]
theorem kind_ok {n : Nat} {m : Int} {kk : Str} {x0 x1 x2 x5 x6 x7 x8 x9 x10 x11 x12 x13 : Option PV} (hkk : Wrd kk) (h : Cs n m S) (hm : m + 1000 < 10 ^ 10) :
    ∃ y5 y6 y7 y8 y9 y10 y11 y12 y13 S', B_law_T_2 [x0, x1, x2, some (.cell n), some (.str kk), x5, x6, x7, x8, x9, x10, x11, x12, x13] S = .ok (.nx [x0, x1, x2, some (.cell n), some (.str kk), y5, y6, y7, y8, y9, y10, y11, y12, y13]) S' ∧ Cs n (m + 500) S' := by
  obtain ⟨t1, S1, e1, a1, b1, C1, F1⟩ := take_ok h (by omega) (show (0 : Int) < 3 by decide) (by decide)
  obtain ⟨gr, egr, hgr⟩ := pick3 (S := S1) (a := 9) (b := 1000000) (c := 999999999) a1 b1
  obtain ⟨r, S2, e2, hr, hrk, C2, F2⟩ := rule_any (great := gr) hkk C1 (by omega) (by omega) (by omega)
  have j1 : ∀ S, d_is_rule_T [encR r] S = .ok (.bl true) S := fun S => by rw [is_rule_any (pln_encR r), ruleB_ok hr]
  have j2 : ∀ S, d__law_same_T [.lst [.bl true, .bl true], .lst [.bl true, .bl true]] S = .ok (.bl true) S := fun S => same_bls [true, true] (by simp)
  have loopA := for_inv (ds := rangeP 0 6) (t := .nm 6) (b := B_law_T_0)
    (fun i env S' => ∃ y6 y7, env = [x0, x1, x2, some (.cell n), some (.str kk), some (encR r), y6, y7, x8, x9, x10, x11, x12, x13] ∧ Cs n (m + 10 + 3 * (i : Int)) S')
    (env := [x0, x1, x2, some (.cell n), some (.str kk), some (encR r), x6, x7, x8, x9, x10, x11, x12, x13]) (S := S2) ⟨x6, x7, rfl, C2.mono (by simp; omega)⟩ fun i d env S hd ⟨y6, y7, henv, C⟩ => by
      subst henv
      have hi : i < 6 := by have := (List.getElem?_eq_some_iff.mp hd).1; rwa [rangeP_len] at this
      refine ⟨_, bind_nm 6, ?_⟩
      obtain ⟨z7, S', hb, C'⟩ := turnA (S := S) (x0 := x0) (x1 := x1) (x2 := x2) (x4 := some (.str kk)) (x6 := some d) (x7 := y7) (x8 := x8) (x9 := x9) (x10 := x10) (x11 := x11) (x12 := x12) (x13 := x13) C (by omega) hr
      exact ⟨_, S', hb, some d, z7, rfl, C'.mono (by push_cast; omega)⟩
  obtain ⟨env', S3, hA, y6, y7, rfl, C3⟩ := loopA
  rw [rangeP_len] at C3
  obtain ⟨rows, S4, e4, hq, C4, F4⟩ := draws_ok (many := 40) (great := 10000000) C3 (by push_cast; omega) (by decide) (by decide) (by decide) (by decide)
  have hrw := hq.rw (by decide)
  have hl40 := hq.len
  obtain ⟨acc, S5, hc, log, rfl, hlm, C5, F5⟩ := comp_inv (ds := rows.map rq) (t := .nm 13) (tst := yesT) (el := X_law_T_0) (env0 := wipeE [x0, x1, x2, some (.cell n), some (.str kk), some (encR r), y6, y7, some (.tup (rows.map rq)), x9, x10, x11, x12, x13] [13]) (S := S4)
    (fun i acc S' => ∃ log : List En, acc = log.map en ∧ log.map rqp = rows.take i ∧ Cs n (m + 10 + 3 * ((6 : Nat) : Int) + 5 + 5 * ((40 : Nat) : Int) + (i : Int)) S' ∧ Fr n S4 S') ⟨[], rfl, by simp, by simpa using C4, .refl⟩ fun i d acc S' hd ⟨log, e1, e2, e3, e4⟩ => by
      subst e1
      rw [List.getElem?_map] at hd
      obtain ⟨q, hq', rfl⟩ := Option.map_eq_some_iff.mp hd
      have hi : i < rows.length := (List.getElem?_eq_some_iff.mp hq').1
      refine ⟨_, by simp only [wipeE]; exact bind_nm 13, true, S', rfl, fun _ => ?_, fun z => nomatch z⟩
      obtain ⟨t, S6, e5, a5, b5, C6, F6⟩ := take_ok e3 (by push_cast; omega) (show (0 : Int) < 2 by decide) (by decide)
      refine ⟨en (q.1, q.2, t == 0), S6, by unfold X_law_T_0; simp [rq, en, e5], log ++ [(q.1, q.2, t == 0)], by simp, ?_, C6.mono (by push_cast; omega), e4.trans F6⟩
      rw [List.map_append, e2, List.take_add_one, hq']
      rfl
  rw [List.length_map] at hlm C5
  rw [List.take_length] at hlm
  have hlog : log.length = rows.length := by rw [← hlm]; simp
  have hRow : Row (log.map rqp) := by rw [hlm]; exact hrw.row
  have p1 := pln_encR r
  have plr : pln (.tup (rows.map rq)) = true := plns_rq rows
  have pll : pln (.tup (log.map en)) = true := plns_en log
  have k1 : ∀ S, d_is_row_T [.tup (rows.map rq)] S = .ok (.bl true) S := fun S => by rw [is_row_any plr, rowB_rq hrw.row]
  have k2 : ∀ S, d_is_log_T [.tup (log.map en)] S = .ok (.bl true) S := fun S => by rw [is_log_any pll, logB_en hRow]
  have hem : log.isEmpty = rows.isEmpty := by
    cases log with
    | nil => cases rows with | nil => rfl | cons => simp at hlog
    | cons => cases rows with | nil => simp at hlog | cons => rfl
  have k3 : ∀ S, d_is_row_T [.tup (log.map en)] S = .ok (.bl rows.isEmpty) S := fun S => by rw [is_row_any pll, rowB_en, hem]
  have k4 : ∀ S, d_is_log_T [.tup (rows.map rq)] S = .ok (.bl rows.isEmpty) S := fun S => by rw [is_log_any plr, logB_rq]
  have k5 : ∀ S, LH.eqV (.tup (rows.map rq)) (.tup []) S = .ok (.bl rows.isEmpty) S := fun S => by
    rw [eq_nil_tup (chks_rq2 rows 58)]
    cases rows <;> rfl
  have k6 : ∀ S, d__law_same_T [.lst [.bl true, .bl true, .bl true, .bl true, .bl rows.isEmpty, .bl rows.isEmpty], .lst [.bl true, .bl true, .bl true, .bl true, .bl rows.isEmpty, .bl rows.isEmpty]] S = .ok (.bl true) S := fun S => same_bls [true, true, true, true, rows.isEmpty, rows.isEmpty] (by simp)
  have k7 : ∀ S, repV (.lst [.bl true]) (.int 4) S = .ok (.lst [.bl true, .bl true, .bl true, .bl true]) S := fun S => repV_of (x := .lst [.bl true]) (a := [.bl true]) (n := 4) rfl (by decide) (by simp)
  have loopB := for_inv (ds := rangeP 0 6) (t := .nm 6) (b := B_law_T_1)
    (fun i env S' => ∃ y6 y7, env = [x0, x1, x2, some (.cell n), some (.str kk), some (encR r), y6, y7, some (.tup (rows.map rq)), some (.tup (log.map en)), some (.lst [.bl true, .bl true, .bl true, .bl true]), some (.bl rows.isEmpty), x12, x13] ∧ Cs n (m + 273 + 6 * (i : Int)) S')
    (env := [x0, x1, x2, some (.cell n), some (.str kk), some (encR r), y6, y7, some (.tup (rows.map rq)), some (.tup (log.map en)), some (.lst [.bl true, .bl true, .bl true, .bl true]), some (.bl rows.isEmpty), x12, x13]) (S := S5) ⟨y6, y7, rfl, C5.mono (by push_cast; omega)⟩ fun i d env S hd ⟨y6, y7, henv, C⟩ => by
      subst henv
      have hi : i < 6 := by have := (List.getElem?_eq_some_iff.mp hd).1; rwa [rangeP_len] at this
      refine ⟨_, bind_nm 6, ?_⟩
      obtain ⟨z7, S', hb, C'⟩ := turnB (S := S) (rows := rows) (log := log) (x0 := x0) (x1 := x1) (x2 := x2) (x4 := some (.str kk)) (x5 := some (encR r)) (x6 := some d) (x7 := y7) (x10 := some (.lst [.bl true, .bl true, .bl true, .bl true])) (x11 := some (.bl rows.isEmpty)) (x12 := x12) (x13 := x13) C (by omega) (by omega) (by omega)
      exact ⟨_, S', hb, some d, z7, rfl, C'.mono (by push_cast; omega)⟩
  obtain ⟨env', S6, hB, w6, w7, rfl, C6⟩ := loopB
  rw [rangeP_len] at C6
  refine ⟨some (encR r), w6, w7, some (.tup (rows.map rq)), some (.tup (log.map en)), some (.lst [.bl true, .bl true, .bl true, .bl true]), some (.bl rows.isEmpty), x12, x13, S6, ?_, C6.mono (by push_cast; omega)⟩
  have hrg : ∀ S, rg1K (.int 6) S = .ok (none, rangeP 0 6) S := fun S => rg1K_nat (n := 6) (by decide)
  have e4' : d__law_draws_T [.cell n, .int 40, .int 10000000] S3 = .ok (.tup (rows.map rq)) S4 := e4
  have tb : ∀ xs S, tupleB [.lst xs] S = .ok (.tup xs) S := fun _ _ => rfl
  have hp0 : permG [0] [] [encR r] = [encR r] := rfl
  have hp1 : permG [0] [] [PV.tup (rows.map rq)] = [PV.tup (rows.map rq)] := rfl
  have hp2 : permG [0] [] [PV.tup (log.map en)] = [PV.tup (log.map en)] := rfl
  generalize encR r = E at *
  generalize rows.map rq = RR at *
  generalize log.map en = LL at *
  generalize rows.isEmpty = bb at *
  unfold B_law_T_2
  refine seqS_of [x0, x1, x2, some (.cell n), some (.str kk), some E, x6, x7, x8, x9, x10, x11, x12, x13] S2 (by simp [e1, egr, e2]) ?_
  refine seqS_of [x0, x1, x2, some (.cell n), some (.str kk), some E, x6, x7, x8, x9, x10, x11, x12, x13] S2 (by simp [j1, hp0, j2]) ?_
  refine seqS_of _ S3 (by simp [hrg]; exact hA) ?_
  refine seqS_of [x0, x1, x2, some (.cell n), some (.str kk), some E, y6, y7, some (.tup RR), x9, x10, x11, x12, x13] S4 (by simp [e4']) ?_
  refine seqS_of [x0, x1, x2, some (.cell n), some (.str kk), some E, y6, y7, some (.tup RR), some (.tup LL), x10, x11, x12, x13] S5 (by simp [hc, tb]) ?_
  refine seqS_of [x0, x1, x2, some (.cell n), some (.str kk), some E, y6, y7, some (.tup RR), some (.tup LL), some (.lst [.bl true, .bl true, .bl true, .bl true]), x11, x12, x13] S5 (by simp [k1, k2, hp1, hp2]) ?_
  refine seqS_of [x0, x1, x2, some (.cell n), some (.str kk), some E, y6, y7, some (.tup RR), some (.tup LL), some (.lst [.bl true, .bl true, .bl true, .bl true]), some (.bl bb), x12, x13] S5 (by simp [k5]) ?_
  refine seqS_of [x0, x1, x2, some (.cell n), some (.str kk), some E, y6, y7, some (.tup RR), some (.tup LL), some (.lst [.bl true, .bl true, .bl true, .bl true]), some (.bl bb), x12, x13] S5 (by
    have a1 : ∀ S, LH.addV (.lst [.bl true, .bl true, .bl true, .bl true]) (.lst [.bl bb, .bl bb]) S = .ok (.lst [.bl true, .bl true, .bl true, .bl true, .bl bb, .bl bb]) S := fun S => addV_lst (by simp)
    simp [k3, k4, k7, a1, k6]) ?_
  simp [hrg]
  exact hB
def WL01 : List PV := [.str "bucket", .str "meter", .str "window", .str "frame", .str "gap"]
theorem law_ok (cO : Str → Addr) (ns : List Int) (hn : ns.length ≤ 63) : ∃ S, d_law_T cO [.ro (ns.map .int)] [] = .ok (.bl true) S := by
  obtain ⟨rr, hr, hr0, hr1⟩ : ∃ r : Int, (∀ S', maxB [.int 1, .int (if (ns.length : Int) < 6 then (ns.length : Int) else 6)] S' = .ok (.int r) S') ∧ 0 ≤ r ∧ r ≤ 10 := by
    refine ⟨_, fun S' => maxB_i _ _, ?_, ?_⟩ <;> (split <;> split <;> omega)
  have loop := for_inv (ds := rangeP 0 rr.toNat) (t := .nm 2) (b := B_law_T_3)
    (fun i env S' => ∃ x2 x3 x4 x5 x6 x7 x8 x9 x10 x11 x12 x13, env = [some (.ro (ns.map .int)), some (.lst WL01), x2, x3, x4, x5, x6, x7, x8, x9, x10, x11, x12, x13])
    (env := [some (.ro (ns.map .int)), some (.lst WL01), none, none, none, none, none, none, none, none, none, none, none, none]) (S := []) ⟨_, _, _, _, _, _, _, _, _, _, _, _, rfl⟩ fun i d env S hd ⟨x2, x3, x4, x5, x6, x7, x8, x9, x10, x11, x12, x13, henv⟩ => by
      subst henv
      obtain ⟨i', hi, rfl⟩ := rangeP_mem (List.mem_of_getElem? hd)
      refine ⟨_, bind_nm 2, ?_⟩
      obtain ⟨a, b, c, ec, ha, hb1, hb2, hc0⟩ := case_ok (ns := ns) (i := i') (S := S) (by omega)
      have C0 : Cs S.length 0 (S ++ [.lst [.int a, .int b, .int c]]) := ⟨a, b, c, by rw [List.getElem?_append_right (Nat.le_refl _), Nat.sub_self]; rfl, ha, hb1, hb2, by omega, by omega⟩
      generalize S ++ [LH.Cell.lst [.int a, .int b, .int c]] = S1 at *
      generalize S.length = n at *
      have wl := for_inv (ds := WL01) (t := .nm 4) (b := B_law_T_2)
        (fun w env S' => ∃ x4 x5 x6 x7 x8 x9 x10 x11 x12 x13, env = [some (.ro (ns.map .int)), some (.lst WL01), some (.int (i' : Int)), some (.cell n), x4, x5, x6, x7, x8, x9, x10, x11, x12, x13] ∧ Cs n (500 * (w : Int)) S')
        (env := [some (.ro (ns.map .int)), some (.lst WL01), some (.int (i' : Int)), some (.cell n), x4, x5, x6, x7, x8, x9, x10, x11, x12, x13]) (S := S1) ⟨_, _, _, _, _, _, _, _, _, _, rfl, by simpa using C0⟩ fun w d env S hd ⟨x4, x5, x6, x7, x8, x9, x10, x11, x12, x13, henv, CW⟩ => by
          subst henv
          have hw : w < 5 := (List.getElem?_eq_some_iff.mp hd).1
          obtain ⟨kk, rfl, hkk⟩ : ∃ kk : Str, d = .str kk ∧ Wrd kk := by
            have : w = 0 ∨ w = 1 ∨ w = 2 ∨ w = 3 ∨ w = 4 := by omega
            rcases this with rfl | rfl | rfl | rfl | rfl
            · cases hd; exact ⟨_, rfl, .inl rfl⟩
            · cases hd; exact ⟨_, rfl, .inr (.inl rfl)⟩
            · cases hd; exact ⟨_, rfl, .inr (.inr (.inl rfl))⟩
            · cases hd; exact ⟨_, rfl, .inr (.inr (.inr (.inl rfl)))⟩
            · cases hd; exact ⟨_, rfl, .inr (.inr (.inr (.inr rfl)))⟩
          refine ⟨_, bind_nm 4, ?_⟩
          obtain ⟨y5, y6, y7, y8, y9, y10, y11, y12, y13, S', hb, CT⟩ := kind_ok (S := S) (x0 := some (.ro (ns.map .int))) (x1 := some (.lst WL01)) (x2 := some (.int (i' : Int))) (x5 := x5) (x6 := x6) (x7 := x7) (x8 := x8) (x9 := x9) (x10 := x10) (x11 := x11) (x12 := x12) (x13 := x13) hkk CW (by omega)
          exact ⟨_, S', hb, _, _, _, _, _, _, _, _, _, _, rfl, CT.mono (by push_cast; omega)⟩
      obtain ⟨env', S', hloop, x4', x5', x6', x7', x8', x9', x10', x11', x12', x13', rfl, CT⟩ := wl
      refine ⟨[some (.ro (ns.map .int)), some (.lst WL01), some (.int (i' : Int)), some (.cell n), x4', x5', x6', x7', x8', x9', x10', x11', x12', x13'], S', ?_, _, _, x4', x5', x6', x7', x8', x9', x10', x11', x12', x13', rfl⟩
      unfold B_law_T_3
      simp [ec, hloop]
  obtain ⟨env', S1, hloop, x2, x3, x4, x5, x6, x7, x8, x9, x10, x11, x12, x13, rfl⟩ := loop
  have hrg : ∀ S', rg1K (.int rr) S' = .ok (none, rangeP 0 rr.toNat) S' := fun S' => rg1K_of ⟨by omega, by omega⟩
  have hrep : List.replicate 13 (none : Option PV) = [none, none, none, none, none, none, none, none, none, none, none, none, none] := rfl
  have hdoor := opq_door (cO := cO) (S := S1)
  have hheard := opq_heard (cO := cO) (S := S1 ++ [.dead])
  have hdoor2 := opq_door (cO := cO) (S := S1 ++ [.dead] ++ [.dead])
  generalize hT1 : S1 ++ [LH.Cell.dead] = T1 at *
  generalize hT2 : T1 ++ [LH.Cell.dead] = T2 at *
  generalize hT3 : T2 ++ [LH.Cell.dead] = T3 at *
  have g1 : ∀ S, d_is_row_T [.opq (.ref (cO "Door"))] S = .ok (.bl false) S := fun S => is_row_any rfl
  have g2 : ∀ S, d_is_log_T [.opq (.ref (cO "Door"))] S = .ok (.bl false) S := fun S => is_log_any rfl
  have g3 : ∀ S, d_is_row_T [.opq (.ref (cO "Heard"))] S = .ok (.bl false) S := fun S => is_row_any rfl
  have g4 : ∀ S, d_is_log_T [.opq (.ref (cO "Heard"))] S = .ok (.bl false) S := fun S => is_log_any rfl
  have pg : pln (.tup [.str "gap", .int 1]) = true := by decide +kernel
  have g5 : ∀ S, d_is_row_T [.tup [.str "gap", .int 1]] S = .ok (.bl false) S := fun S => is_row_any pg
  have g6 : ∀ S, d_is_log_T [.tup [.str "gap", .int 1]] S = .ok (.bl false) S := fun S => is_log_any pg
  have g7 : ∀ S, d_is_rule_T [.opq (.ref (cO "Door"))] S = .ok (.bl false) S := fun S => is_rule_any rfl
  have g8 : ∀ S, d_is_log_T [.tup []] S = .ok (.bl true) S := fun S => is_log_any rfl
  have g9 : ∀ S, d_is_row_T [.tup []] S = .ok (.bl true) S := fun S => is_row_any rfl
  have hc := comp_filter (ds := [.opq (.ref (cO "Door")), .opq (.ref (cO "Heard")), .tup [.str "gap", .int 1]]) (t := .nm 7) (tst := G_law_T_0) (el := X_law_T_1) (env0 := wipeE [some (.ro (ns.map .int)), some (.lst WL01), x2, x3, x4, x5, x6, x7, x8, x9, x10, x11, some (.lst [.opq (.ref (cO "Door")), .opq (.ref (cO "Heard")), .tup [.str "gap", .int 1]]), x13] [7]) (S := T2)
    (fun _ => false) id fun d hd => by
      simp only [List.mem_cons, List.not_mem_nil, or_false] at hd
      rcases hd with rfl | rfl | rfl
      · exact ⟨_, by simp only [wipeE]; exact bind_nm 7, by unfold G_law_T_0; simp [g1, g2], fun z => nomatch z⟩
      · exact ⟨_, by simp only [wipeE]; exact bind_nm 7, by unfold G_law_T_0; simp [g3, g4], fun z => nomatch z⟩
      · exact ⟨_, by simp only [wipeE]; exact bind_nm 7, by unfold G_law_T_0; simp [g5, g6], fun z => nomatch z⟩
  have hne : ∀ S, LH.neV (.lst []) (.lst []) S = .ok (.bl false) S := fun S => ne_nil_lst (xs := []) rfl
  have ib : ∀ a b S, isBV (.bl a) (.bl b) S = .ok (.bl (decide (a = b))) S := fun _ _ _ => rfl
  refine ⟨T3.take 0, ?_⟩
  unfold d_law_T
  rw [exitT_s, fnD1]
  simp only [Nat.reduceSub, hrep]
  refine exT_of T3 ?_ rfl rfl
  refine seqS_of [some (.ro (ns.map .int)), some (.lst WL01), none, none, none, none, none, none, none, none, none, none, none, none] [] (by simp [WL01]) ?_
  refine seqS_of _ S1 (by simp [-maxB_i, hr, hrg]; exact hloop) ?_
  refine seqS_of [some (.ro (ns.map .int)), some (.lst WL01), x2, x3, x4, x5, x6, x7, x8, x9, x10, x11, some (.lst [.opq (.ref (cO "Door")), .opq (.ref (cO "Heard")), .tup [.str "gap", .int 1]]), x13] T2 (by simp [hdoor, hheard]) ?_
  refine seqS_of [some (.ro (ns.map .int)), some (.lst WL01), x2, x3, x4, x5, x6, x7, x8, x9, x10, x11, some (.lst [.opq (.ref (cO "Door")), .opq (.ref (cO "Heard")), .tup [.str "gap", .int 1]]), x13] T2 (by
    have hf : List.map id (List.filter (fun _ : PV => false) [.opq (.ref (cO "Door")), .opq (.ref (cO "Heard")), .tup [.str "gap", .int 1]]) = [] := by simp
    rw [hf] at hc
    simp [hc, hne]) ?_
  simp [hdoor2, g7, g8, g9, ib]
end
end LW

theorem PySem.Challenge.cw_limiterheard_k01_rules_and_logs_judged_holds : PySem.Challenge.rw_limiterheard_k01_rules_and_logs_judged.Holds :=
  LW.holds_of LW.law_ok
