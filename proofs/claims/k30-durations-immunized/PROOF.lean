import PyProof.Rows.All
import Wide.All
import OpenK.AllK
import Wide.FinOn
import HandS.Exc
import HandS.ExcOwn
import HandS.ExcInit
import HandS.ExcField
import HandS.TryMany
import HandS.WordsExc
import KE.KStateDown
import HandS.Head0
import HandS.Head1
import HandS.Head2
import HandS.HeadEnd
import HandS.HeadHook1
import HandS.HeadHook2
import HandS.HeadHook3
import HandS.HeadHook4
import HandS.Head3
import HandS.ForMost
import HandS.Style
import HandS.Star
import HandS.Wide
import HandS.Gcd
import HandS.IsInst
import HandS.Zip
import HandS.TupAny
import HandS.ListItems
import HandS.Flow
import HandS.Conv
import HandS.WordsDict
import HandS.TupMul
import KE.GoesEnum
import HandS.Defaults
import HandS.Walk
import PySem.Challenge.RW_marketbench_k30_whole_durations_and_immu
set_option Elab.async false
set_option linter.all false
set_option maxRecDepth 100000
set_option maxHeartbeats 0
namespace PV
open PySem PySem.Spec PyProof.Rows L2
def oexB (K : PySem.W.Frag) (C : Addr) : Bool := (match K.lookup C with
  | some ⟨.type "type", _, .cls cd, sl⟩ => (match cd.mro, sl.toList with
    | .ref C' :: bm, [_, _, _, _, some (.builtin n), _] => C' == C && n == "ValueError.__new__" && !cd.hasDel && PySem.HandSPX.refsVE bm && cd.hasDict
    | _, _ => false)
  | _ => false) && decide (PySem.W.findIn K (.ref C) "__setattr__" = some (some (.builtin "object.__setattr__"))) && decide (PySem.W.subIn K (.ref C) (.type "BaseException") = some true) && decide (PySem.W.typeIn K (.ref C) = some (.type "type")) && PySem.W.keepIn K (.ref C)
def clsB (K : PySem.W.Frag) (x : Str) (flds : List Str) : Bool := oexB K (He.ga K x) && xfB K (He.ga K x) && flds.all (fun f => decide (PySem.W.findIn K (.ref (He.ga K x)) f = some none)) &&
  decide (PySem.W.findIn K (.ref (He.ga K x)) "__init__" = some (some (.ref (He.ma K (He.ga K x) "__init__")))) && decide (PySem.W.typeIn K (.ref (He.ma K (He.ga K x) "__init__")) = some (.type "function"))
def exmB (K : PySem.W.Frag) (xs : List Str) : Bool := (List.range xs.length).all fun i => (List.range xs.length).all fun j => decide (PySem.W.exmOne K (.ref (He.ga K (xs.getD i ""))) (.ref (He.ga K (xs.getD j ""))) = some (decide (i = j)))
def exbB (K : PySem.W.Frag) (b : Str) (xs : List Str) : Bool := xs.all fun x => decide (PySem.W.exmOne K (.ref (He.ga K x)) (.ref (He.ga K b)) = some true)
end PV

namespace HD
open PySem PySem.Spec PyProof.Rows L2 PV
def top (i : Nat) : Stmt := PySem.Challenge.pw_marketbench_k30_whole_durations_and_immu.main.body.getD i (.Pass ⟨0, 0, 0, 0⟩)
def cbd (i : Nat) : Stmt := match top i with
  | .ClassDef _ _ _ (s :: _) _ _ _ _ _ _ _ => s
  | s => s
def d_is_integer : He.DefD := ⟨("is_integer", none), "is_integer", "is_integer", defArgs (top 8), defBody (top 8), defScope (top 8), [], []⟩
def d_is_between : He.DefD := ⟨("is_between", none), "is_between", "is_between", defArgs (top 9), defBody (top 9), defScope (top 9), [], []⟩
def d_is_tuple_of : He.DefD := ⟨("is_tuple_of", none), "is_tuple_of", "is_tuple_of", defArgs (top 10), defBody (top 10), defScope (top 10), [], []⟩
def d_is_row : He.DefD := ⟨("is_row", none), "is_row", "is_row", defArgs (top 11), defBody (top 11), defScope (top 11), [], []⟩
def d_is_fraction : He.DefD := ⟨("is_fraction", none), "is_fraction", "is_fraction", defArgs (top 15), defBody (top 15), defScope (top 15), [], []⟩
def d_lowest : He.DefD := ⟨("lowest", none), "lowest", "lowest", defArgs (top 16), defBody (top 16), defScope (top 16), [], []⟩
def d_whole : He.DefD := ⟨("whole", none), "whole", "whole", defArgs (top 17), defBody (top 17), defScope (top 17), [], []⟩
def d_add : He.DefD := ⟨("add", none), "add", "add", defArgs (top 18), defBody (top 18), defScope (top 18), [], []⟩
def d_subtract : He.DefD := ⟨("subtract", none), "subtract", "subtract", defArgs (top 19), defBody (top 19), defScope (top 19), [], []⟩
def d_multiply : He.DefD := ⟨("multiply", none), "multiply", "multiply", defArgs (top 20), defBody (top 20), defScope (top 20), [], []⟩
def d_divide : He.DefD := ⟨("divide", none), "divide", "divide", defArgs (top 21), defBody (top 21), defScope (top 21), [], []⟩
def d_compare : He.DefD := ⟨("compare", none), "compare", "compare", defArgs (top 22), defBody (top 22), defScope (top 22), [], []⟩
def d_is_less : He.DefD := ⟨("is_less", none), "is_less", "is_less", defArgs (top 23), defBody (top 23), defScope (top 23), [], []⟩
def d_is_flow : He.DefD := ⟨("is_flow", none), "is_flow", "is_flow", defArgs (top 27), defBody (top 27), defScope (top 27), [], []⟩
def d_check_flow : He.DefD := ⟨("check_flow", none), "check_flow", "check_flow", defArgs (top 28), defBody (top 28), defScope (top 28), [], []⟩
def d_is_rate : He.DefD := ⟨("is_rate", none), "is_rate", "is_rate", defArgs (top 29), defBody (top 29), defScope (top 29), [], []⟩
def d_check_rate : He.DefD := ⟨("check_rate", none), "check_rate", "check_rate", defArgs (top 30), defBody (top 30), defScope (top 30), [], []⟩
def d_factor_of : He.DefD := ⟨("factor_of", none), "factor_of", "factor_of", defArgs (top 31), defBody (top 31), defScope (top 31), [], []⟩
def d_worth_now : He.DefD := ⟨("worth_now", none), "worth_now", "worth_now", defArgs (top 32), defBody (top 32), defScope (top 32), [], []⟩
def d_present : He.DefD := ⟨("present", none), "present", "present", defArgs (top 33), defBody (top 33), defScope (top 33), [], []⟩
def d_check_plain : He.DefD := ⟨("check_plain", none), "check_plain", "check_plain", defArgs (top 37), defBody (top 37), defScope (top 37), [], []⟩
def d_average : He.DefD := ⟨("average", none), "average", "average", defArgs (top 38), defBody (top 38), defScope (top 38), [], []⟩
def d_duration : He.DefD := ⟨("duration", none), "duration", "duration", defArgs (top 39), defBody (top 39), defScope (top 39), [], []⟩
def d_convexity : He.DefD := ⟨("convexity", none), "convexity", "convexity", defArgs (top 40), defBody (top 40), defScope (top 40), [], []⟩
def d_later : He.DefD := ⟨("later", none), "later", "later", defArgs (top 41), defBody (top 41), defScope (top 41), [], []⟩
def d_immunized : He.DefD := ⟨("immunized", none), "immunized", "immunized", defArgs (top 42), defBody (top 42), defScope (top 42), [], []⟩
def d_is_covered : He.DefD := ⟨("is_covered", none), "is_covered", "is_covered", defArgs (top 43), defBody (top 43), defScope (top 43), [], []⟩
def d__law_take : He.DefD := ⟨("_law_take", none), "_law_take", "_law_take", defArgs (top 47), defBody (top 47), defScope (top 47), [], []⟩
def d__law_same : He.DefD := ⟨("_law_same", none), "_law_same", "_law_same", defArgs (top 48), defBody (top 48), defScope (top 48), [], []⟩
def d__law_gcd : He.DefD := ⟨("_law_gcd", none), "_law_gcd", "_law_gcd", defArgs (top 49), defBody (top 49), defScope (top 49), [], []⟩
def d__law_low : He.DefD := ⟨("_law_low", none), "_law_low", "_law_low", defArgs (top 50), defBody (top 50), defScope (top 50), [], []⟩
def d__law_add : He.DefD := ⟨("_law_add", none), "_law_add", "_law_add", defArgs (top 51), defBody (top 51), defScope (top 51), [], []⟩
def d__law_less : He.DefD := ⟨("_law_less", none), "_law_less", "_law_less", defArgs (top 52), defBody (top 52), defScope (top 52), [], []⟩
def d__law_mul : He.DefD := ⟨("_law_mul", none), "_law_mul", "_law_mul", defArgs (top 53), defBody (top 53), defScope (top 53), [], []⟩
def d__law_div : He.DefD := ⟨("_law_div", none), "_law_div", "_law_div", defArgs (top 54), defBody (top 54), defScope (top 54), [], []⟩
def d__law_sum : He.DefD := ⟨("_law_sum", none), "_law_sum", "_law_sum", defArgs (top 55), defBody (top 55), defScope (top 55), [], []⟩
def d__law_below : He.DefD := ⟨("_law_below", none), "_law_below", "_law_below", defArgs (top 56), defBody (top 56), defScope (top 56), [], []⟩
def d__law_dot : He.DefD := ⟨("_law_dot", none), "_law_dot", "_law_dot", defArgs (top 57), defBody (top 57), defScope (top 57), [], []⟩
def d__law_flow : He.DefD := ⟨("_law_flow", none), "_law_flow", "_law_flow", defArgs (top 58), defBody (top 58), defScope (top 58), [], []⟩
def d__law_rate : He.DefD := ⟨("_law_rate", none), "_law_rate", "_law_rate", defArgs (top 59), defBody (top 59), defScope (top 59), [], []⟩
def d__law_present : He.DefD := ⟨("_law_present", none), "_law_present", "_law_present", defArgs (top 60), defBody (top 60), defScope (top 60), [], []⟩
def d__law_no_flow : He.DefD := ⟨("_law_no_flow", none), "_law_no_flow", "_law_no_flow", defArgs (top 61), defBody (top 61), defScope (top 61), [], []⟩
def d__law_no_fraction : He.DefD := ⟨("_law_no_fraction", none), "_law_no_fraction", "_law_no_fraction", defArgs (top 62), defBody (top 62), defScope (top 62), [], []⟩
def d__law_no_rate : He.DefD := ⟨("_law_no_rate", none), "_law_no_rate", "_law_no_rate", defArgs (top 63), defBody (top 63), defScope (top 63), [], []⟩
def d__law_weighted : He.DefD := ⟨("_law_weighted", none), "_law_weighted", "_law_weighted", defArgs (top 64), defBody (top 64), defScope (top 64), [], []⟩
def d__law_plain_flow : He.DefD := ⟨("_law_plain_flow", none), "_law_plain_flow", "_law_plain_flow", defArgs (top 65), defBody (top 65), defScope (top 65), [], []⟩
def d__law_back : He.DefD := ⟨("_law_back", none), "_law_back", "_law_back", defArgs (top 66), defBody (top 66), defScope (top 66), [], []⟩
def d__law_asked : He.DefD := ⟨("_law_asked", none), "_law_asked", "_law_asked", defArgs (top 67), defBody (top 67), defScope (top 67), [], []⟩
def d__law_is_fraction : He.DefD := ⟨("_law_is_fraction", none), "_law_is_fraction", "_law_is_fraction", defArgs (top 68), defBody (top 68), defScope (top 68), [], []⟩
def d__law_immunized_right : He.DefD := ⟨("_law_immunized_right", none), "_law_immunized_right", "_law_immunized_right", defArgs (top 69), defBody (top 69), defScope (top 69), [], []⟩
def d__law_right : He.DefD := ⟨("_law_right", none), "_law_right", "_law_right", defArgs (top 70), defBody (top 70), defScope (top 70), [], []⟩
def d__law_refusals_right : He.DefD := ⟨("_law_refusals_right", none), "_law_refusals_right", "_law_refusals_right", defArgs (top 71), defBody (top 71), defScope (top 71), [], []⟩
def d_law : He.DefD := ⟨("law", none), "law", "law", defArgs (top 72), defBody (top 72), defScope (top 72), [], []⟩
def d__law_cell : He.DefD := ⟨("_law_cell", none), "_law_cell", "_law_cell", defArgs (top 45), defBody (top 45), defScope (top 45), [], []⟩
def d__law_box : He.DefD := ⟨("_law_box", none), "_law_box", "_law_box", defArgs (top 46), defBody (top 46), defScope (top 46), [], []⟩
def d_init_InvalidFlow : He.DefD := ⟨("InvalidFlow", some "__init__"), "__init__", "InvalidFlow.__init__", defArgs (cbd 3), defBody (cbd 3), defScope (cbd 3), [], []⟩
def d_init_InvalidRate : He.DefD := ⟨("InvalidRate", some "__init__"), "__init__", "InvalidRate.__init__", defArgs (cbd 4), defBody (cbd 4), defScope (cbd 4), [], []⟩
def d_init_InvalidRates : He.DefD := ⟨("InvalidRates", some "__init__"), "__init__", "InvalidRates.__init__", defArgs (cbd 5), defBody (cbd 5), defScope (cbd 5), [], []⟩
def d_init_InvalidTimes : He.DefD := ⟨("InvalidTimes", some "__init__"), "__init__", "InvalidTimes.__init__", defArgs (cbd 6), defBody (cbd 6), defScope (cbd 6), [], []⟩
def fnl : List He.DefD := ([d_is_integer, d_is_between, d_is_tuple_of, d_is_row, d_is_fraction, d_lowest, d_whole, d_add, d_subtract, d_multiply, d_divide, d_compare, d_is_less, d_is_flow, d_check_flow, d_is_rate, d_check_rate, d_factor_of, d_worth_now, d_present, d_check_plain, d_average, d_duration, d_convexity, d_later, d_immunized, d_is_covered, d__law_take, d__law_same, d__law_gcd] : List He.DefD) ++ ([d__law_low, d__law_add, d__law_less, d__law_mul, d__law_div, d__law_sum, d__law_below, d__law_dot, d__law_flow, d__law_rate, d__law_present, d__law_no_flow, d__law_no_fraction, d__law_no_rate, d__law_weighted, d__law_plain_flow, d__law_back, d__law_asked, d__law_is_fraction, d__law_immunized_right, d__law_right, d__law_refusals_right, d_law, d__law_cell, d__law_box, d_init_InvalidFlow, d_init_InvalidRate, d_init_InvalidRates, d_init_InvalidTimes] : List He.DefD)
def frees : List Str := ["abs", "all", "any", "bool", "dict", "int", "isinstance", "len", "list", "max", "min", "range", "str", "sum", "tuple", "zip"]
def globs : List Str := ((["is_integer", "is_between", "is_tuple_of", "is_row", "is_fraction", "lowest", "whole", "add", "subtract", "multiply", "divide", "compare", "is_less", "is_flow", "check_flow", "is_rate", "check_rate", "factor_of", "worth_now", "present", "check_plain", "average", "duration", "convexity", "later", "immunized", "is_covered", "_law_take", "_law_same", "_law_gcd"] : List Str) ++ (["_law_low", "_law_add", "_law_less", "_law_mul", "_law_div", "_law_sum", "_law_below", "_law_dot", "_law_flow", "_law_rate", "_law_present", "_law_no_flow", "_law_no_fraction", "_law_no_rate", "_law_weighted", "_law_plain_flow", "_law_back", "_law_asked", "_law_is_fraction", "_law_immunized_right", "_law_right", "_law_refusals_right", "law", "_law_cell", "_law_box", "InvalidFlow", "InvalidRate", "InvalidRates", "InvalidTimes", "MarketError"] : List Str) ++ (["ZERO", "ONE"] : List Str))
def fal : List He.Fa := globs.map He.Fa.glo ++ (frees.map He.Fa.free ++ [.int "MOST_TIMES" 12, .int "MOST_ITEM" 1000000, .int "MOST_TIME" 40, .int "MOST_RATES" 20])
def exnames : List Str := ["InvalidFlow", "InvalidRate", "InvalidRates", "InvalidTimes"]
def exB (K : PySem.W.Frag) : Bool := clsB K "InvalidFlow" ["given"] && clsB K "InvalidRate" ["given"] && clsB K "InvalidRates" ["given"] && clsB K "InvalidTimes" ["given"] && exmB K exnames && exbB K "MarketError" exnames && He.tupB K "ZERO" [.int (0), .int (1)] && He.tupB K "ONE" [.int (1), .int (1)] && decide (PySem.W.nsIn K mainGlobals "gcd" = some (some (.builtin "math.gcd")))
abbrev R : PySem.W.OpenRow := PySem.W.OpenLaw.row PySem.Challenge.rw_marketbench_k30_whole_durations_and_immu
abbrev hk : PySem.W.Hook := He.hookX 6 fal fnl [] [] exB
def ob (s : PySem.W.SharedT) : He.AlX := He.obsX 6 fal fnl [] [] exB (HandSHeadRun.getT s)
theorem ob_eq (s : PySem.W.SharedT) : ob s = hk.obs s.abs := He.obsX_eq (HandSHeadRun.getT_eq s)
def loose : List PySem.Str := (["MarketError", "InvalidFlow", "InvalidRate", "InvalidRates", "InvalidTimes", "is_integer", "is_between", "is_tuple_of", "is_row", "ZERO", "ONE", "is_fraction", "lowest", "whole", "add", "subtract", "multiply", "divide", "compare", "is_less", "MOST_TIMES", "MOST_ITEM", "is_flow", "check_flow", "is_rate", "check_rate", "factor_of", "worth_now", "present", "MOST_TIME"] : List PySem.Str) ++ (["MOST_RATES", "check_plain", "average", "duration", "convexity", "later", "immunized", "is_covered", "_law_cell", "_law_box", "_law_take", "_law_same", "_law_gcd", "_law_low", "_law_add", "_law_less", "_law_mul", "_law_div", "_law_sum", "_law_below", "_law_dot", "_law_flow", "_law_rate", "_law_present", "_law_no_flow", "_law_no_fraction", "_law_no_rate", "_law_weighted", "_law_plain_flow", "_law_back"] : List PySem.Str) ++ (["_law_asked", "_law_is_fraction", "_law_immunized_right", "_law_right", "_law_refusals_right"] : List PySem.Str)
theorem run (w : World) : HandSHeadRun.RunEqI R (PySem.W.view R.prog [0, 72]) hk ob 3000 loose w := by
  unfold HandSHeadRun.RunEqI
  kernel_rfl
end HD

namespace PV
open PySem PySem.Spec PyProof.Rows L2
abbrev Sg := L2.St

/-! ### plain data -/
inductive D where
  | non | bl (b : Bool) | int (i : Int) | str (x : Str)
  | tup (xs : List D) | lst (xs : List D)
  | dct (kvs : List (Str × D))
  | box
  | fn (i : Nat)

/-- the context of a def's run: the written part, the box's address, what must not be held by data (the callers' lists that change), the heap at the entry -/
structure Cb where
  K : PySem.W.Frag
  bx : Addr
  fa : Nat → Addr
structure Cn extends Cb where
  W0 : Addr → Prop
  H0 : Hp

/-- what the written part alone tells of a tuple, a list -/
def KT (K : PySem.W.Frag) (a : Addr) (xs : List V) : Prop := ∃ (o : Obj) (its : Array Value) (n : Nat), K.lookup a = some o ∧ o.cls = .type "tuple" ∧ o.data = .seq its n ∧ its.size ≤ sizeLine ∧ Vals xs its.toList
/-- a tuple, a list that data may hold: never one of W -/
def StT (c : Cb) (W : Addr → Prop) (H : Hp) (a : Addr) (xs : List V) : Prop := (H a = some (.tup xs) ∧ ¬ W a) ∨ KT c.K a xs
theorem StT.sq {c : Cb} {W : Addr → Prop} {H : Hp} {a : Addr} {xs : List V} (h : StT c W H a xs) : SqT c.K H a xs := h.elim (fun q => .inl (.inl q.1)) .inr

inductive Rp (c : Cb) (W : Addr → Prop) (H : Hp) : V → D → Prop
  | non : Rp c W H .non .non
  | bl (b : Bool) : Rp c W H (.bl b) (.bl b)
  | int (i : Int) : Rp c W H (.int i) (.int i)
  | str (x : Str) : Rp c W H (.str x) (.str x)
  | tup {a : Addr} {vs : List V} {ds : List D} (h : StT c W H a vs) (hl : vs.length = ds.length)
      (ha : ∀ (i : Nat) (v : V) (d : D), vs[i]? = some v → ds[i]? = some d → Rp c W H v d) : Rp c W H (.ref a) (.tup ds)
  | lst {a : Addr} {vs : List V} {ds : List D} (h : H a = some (.lst vs)) (hw : ¬ W a) (hl : vs.length = ds.length)
      (ha : ∀ (i : Nat) (v : V) (d : D), vs[i]? = some v → ds[i]? = some d → Rp c W H v d) : Rp c W H (.ref a) (.lst ds)
  | dct {a : Addr} {vs : List (Key × V)} {ds : List (Str × D)} (h : H a = some (.dK vs)) (hw : ¬ W a) (hl : vs.length = ds.length)
      (hk : ∀ (i : Nat) (p : Key × V) (q : Str × D), vs[i]? = some p → ds[i]? = some q → p.1 = Sum.inr q.1)
      (ha : ∀ (i : Nat) (p : Key × V) (q : Str × D), vs[i]? = some p → ds[i]? = some q → Rp c W H p.2 q.2) : Rp c W H (.ref a) (.dct ds)
  | box : Rp c W H (.ref c.bx) .box
  | fn (i : Nat) : Rp c W H (.ref (c.fa i)) (.fn i)
/-- lists of data, place by place -/
def Rps (c : Cb) (W : Addr → Prop) (H : Hp) (vs : List V) (ds : List D) : Prop :=
  vs.length = ds.length ∧ ∀ (i : Nat) (v : V) (d : D), vs[i]? = some v → ds[i]? = some d → Rp c W H v d
/-- as data, but at the top it may be a list that changes -/
def RpT (c : Cb) (W : Addr → Prop) (H : Hp) (v : V) (d : D) : Prop := Rp c W H v d ∨ ∃ a vs ds, v = .ref a ∧ d = .lst ds ∧ a ≠ c.bx ∧ H a = some (.lst vs) ∧ Rps c W H vs ds

/-- what a step of an expression leaves: every object that was there but the box -/
def Gr (b : Addr) (H H' : Hp) : Prop := ∀ a o, H a = some o → a ≠ b → H' a = some o
theorem Gr.refl {b : Addr} {H : Hp} : Gr b H H := fun _ _ h _ => h
theorem Gr.trans {b : Addr} {H H1 H2 : Hp} (p : Gr b H H1) (q : Gr b H1 H2) : Gr b H H2 := fun a o h n => q a o (p a o h n) n
theorem Gr.upd {b : Addr} {H : Hp} {p : Addr} {o : HO} (h : H p = none) : Gr b H (L2.upd H p o) := fun a x e _ => by
  rw [upd_ne (ne_of_none e h)]; exact e

/-- what is there and not held back stays so -/
def Kp (W W' : Addr → Prop) (H H' : Hp) : Prop := ∀ a o, H a = some o → ¬ W a → H' a = some o ∧ ¬ W' a
theorem StT.to {c : Cb} {W W' : Addr → Prop} {H H' : Hp} {a : Addr} {xs : List V} (k : Kp W W' H H') (h : StT c W H a xs) : StT c W' H' a xs := by
  rcases h with ⟨h, n⟩ | h
  · exact .inl (k a _ h n)
  · exact .inr h
/-- data stays data -/
theorem Rp.to {c : Cb} {W W' : Addr → Prop} {H H' : Hp} (k : Kp W W' H H') {v : V} {d : D} (h : Rp c W H v d) : Rp c W' H' v d := by
  induction h with
  | non => exact .non
  | bl b => exact .bl b
  | int i => exact .int i
  | str x => exact .str x
  | tup h hl _ ih => exact .tup (h.to k) hl ih
  | lst h hw hl _ ih => exact .lst (k _ _ h hw).1 (k _ _ h hw).2 hl ih
  | dct h hw hl hk _ ih => exact .dct (k _ _ h hw).1 (k _ _ h hw).2 hl hk ih
  | box => exact .box
  | fn i => exact .fn i
theorem Rps.to {c : Cb} {W W' : Addr → Prop} {H H' : Hp} (k : Kp W W' H H') {vs : List V} {ds : List D} (h : Rps c W H vs ds) : Rps c W' H' vs ds := ⟨h.1, fun i v d e1 e2 => (h.2 i v d e1 e2).to k⟩
theorem Rps.nil {c : Cb} {W : Addr → Prop} {H : Hp} : Rps c W H [] [] := ⟨rfl, fun i v d e _ => by simp at e⟩
theorem Rps.cons {c : Cb} {W : Addr → Prop} {H : Hp} {v : V} {d : D} {vs : List V} {ds : List D} (h : Rp c W H v d) (t : Rps c W H vs ds) : Rps c W H (v :: vs) (d :: ds) :=
  ⟨by simp [t.1], fun i v' d' e1 e2 => by
    cases i with
    | zero => simp at e1 e2; rw [← e1, ← e2]; exact h
    | succ i => simp at e1 e2; exact t.2 i v' d' e1 e2⟩
theorem Rps.head {c : Cb} {W : Addr → Prop} {H : Hp} {v : V} {d : D} {vs : List V} {ds : List D} (h : Rps c W H (v :: vs) (d :: ds)) : Rp c W H v d := h.2 0 v d rfl rfl
theorem Rps.tail {c : Cb} {W : Addr → Prop} {H : Hp} {v : V} {d : D} {vs : List V} {ds : List D} (h : Rps c W H (v :: vs) (d :: ds)) : Rps c W H vs ds :=
  ⟨by simpa using h.1, fun i v' d' e1 e2 => h.2 (i + 1) v' d' (by simpa using e1) (by simpa using e2)⟩
theorem Rps.inv_cons {c : Cb} {W : Addr → Prop} {H : Hp} {vs : List V} {d : D} {ds : List D} (h : Rps c W H vs (d :: ds)) : ∃ v vs', vs = v :: vs' ∧ Rp c W H v d ∧ Rps c W H vs' ds := by
  cases vs with
  | nil => exact absurd h.1 (by simp)
  | cons v vs' => exact ⟨v, vs', rfl, h.head, h.tail⟩
theorem Rps.inv_nil {c : Cb} {W : Addr → Prop} {H : Hp} {vs : List V} (h : Rps c W H vs []) : vs = [] := List.eq_nil_of_length_eq_zero h.1
theorem Rps.get {c : Cb} {W : Addr → Prop} {H : Hp} {vs : List V} {ds : List D} (h : Rps c W H vs ds) {i : Nat} {d : D} (e : ds[i]? = some d) : ∃ v, vs[i]? = some v ∧ Rp c W H v d := by
  have hi : i < ds.length := (List.getElem?_eq_some_iff.mp e).1
  have hv : i < vs.length := by rw [h.1]; exact hi
  exact ⟨vs[i], List.getElem?_eq_getElem hv, h.2 i _ _ (List.getElem?_eq_getElem hv) e⟩
theorem Rps.append {c : Cb} {W : Addr → Prop} {H : Hp} {vs ws : List V} {ds es : List D} (h : Rps c W H vs ds) (t : Rps c W H ws es) : Rps c W H (vs ++ ws) (ds ++ es) :=
  ⟨by simp [h.1, t.1], fun i v d e1 e2 => by
    by_cases hi : i < vs.length
    · rw [List.getElem?_append_left hi] at e1
      rw [List.getElem?_append_left (by rw [← h.1]; exact hi)] at e2
      exact h.2 i v d e1 e2
    · rw [List.getElem?_append_right (by omega)] at e1
      rw [List.getElem?_append_right (by rw [← h.1]; omega)] at e2
      rw [← h.1] at e2
      exact t.2 _ v d e1 e2⟩
theorem Rps.take {c : Cb} {W : Addr → Prop} {H : Hp} {vs : List V} {ds : List D} (n : Nat) (h : Rps c W H vs ds) : Rps c W H (vs.take n) (ds.take n) :=
  ⟨by simp [h.1], fun i v d e1 e2 => by
    rw [List.getElem?_take] at e1 e2
    split at e1
    · rename_i hi; rw [if_pos hi] at e2; exact h.2 i v d e1 e2
    · cases e1⟩
theorem Rps.drop {c : Cb} {W : Addr → Prop} {H : Hp} {vs : List V} {ds : List D} (n : Nat) (h : Rps c W H vs ds) : Rps c W H (vs.drop n) (ds.drop n) :=
  ⟨by simp [h.1], fun i v d e1 e2 => by
    rw [List.getElem?_drop] at e1 e2
    exact h.2 _ v d e1 e2⟩
theorem Rps.set {c : Cb} {W : Addr → Prop} {H : Hp} {vs : List V} {ds : List D} {v : V} {d : D} (n : Nat) (h : Rps c W H vs ds) (r : Rp c W H v d) : Rps c W H (vs.set n v) (ds.set n d) :=
  ⟨by simp [h.1], fun i v' d' e1 e2 => by
    rw [List.getElem?_set] at e1 e2
    split at e1
    · rename_i hi
      rw [if_pos hi] at e2
      subst hi
      split at e1
      · split at e2
        · cases e1; cases e2; exact r
        · cases e2
      · cases e1
    · rename_i hi
      rw [if_neg hi] at e2
      exact h.2 i v' d' e1 e2⟩

/-! ### the state -/
/-- the box: what is left of a great cell, whether it is one, the rest, how many draws -/
structure Bx where
  n : Int
  g : Bool
  r : Int
  c : Int
/-- a slot: nothing, data, a list of the run's own that may change -/
inductive Sl where
  | no | v (d : D) | own (xs : List D)
structure S where
  env : List Sl
  bx : Bx
/-- what is not to be held by data: the callers' own lists, and one's own -/
def Wn (c : Cn) (σ : Sg) (env : List Sl) (a : Addr) : Prop := c.W0 a ∨ ∃ (i : Nat) (xs : List D), env[i]? = some (.own xs) ∧ σ[i]? = some (some (V.ref a))
def boxHO (b : Bx) : HO := .lst [.int b.n, .bl b.g, .int b.r, .int b.c]
def SlOk (c : Cn) (W : Addr → Prop) (H : Hp) (v : Option (Option V)) : Sl → Prop
  | .no => True
  | .v d => ∃ u, v = some (some u) ∧ Rp c.toCb W H u d
  | .own xs => ∃ a vs, v = some (some (V.ref a)) ∧ c.H0 a = none ∧ a ≠ c.bx ∧ ¬ c.W0 a ∧ H a = some (.lst vs) ∧ Rps c.toCb W H vs xs
structure SR (c : Cn) (σ : Sg) (H : Hp) (s : S) : Prop where
  ext : Gr c.bx c.H0 H
  len : σ.length = s.env.length
  env : ∀ (i : Nat) (x : Sl), s.env[i]? = some x → SlOk c (Wn c σ s.env) H σ[i]? x
  apart : ∀ (i j : Nat) (xs ys : List D) (a : Addr), s.env[i]? = some (.own xs) → s.env[j]? = some (.own ys) → σ[i]? = some (some (V.ref a)) → σ[j]? = some (some (V.ref a)) → i = j
  box : H c.bx = some (boxHO s.bx)
  there : ∀ a, c.W0 a → ∃ o, H a = some o
  wbx : c.W0 c.bx
/-- from one state of an expression to a later one: the slots' values are the same -/
structure Rch (c : Cn) (σ : Sg) (H : Hp) (s : S) (H' : Hp) (s' : S) : Prop where
  gr : Gr c.bx H H'
  sh : ∀ a, Wn c σ s'.env a → Wn c σ s.env a
theorem Rch.refl {c : Cn} {σ : Sg} {H : Hp} {s : S} : Rch c σ H s H s := ⟨.refl, fun _ h => h⟩
theorem Rch.trans {c : Cn} {σ : Sg} {H H1 H2 : Hp} {s s1 s2 : S} (a : Rch c σ H s H1 s1) (b : Rch c σ H1 s1 H2 s2) : Rch c σ H s H2 s2 := ⟨a.gr.trans b.gr, fun x h => a.sh x (b.sh x h)⟩
theorem Rch.kp {c : Cn} {σ : Sg} {H H' : Hp} {s s' : S} (r : Rch c σ H s H' s') (w : c.W0 c.bx) : Kp (Wn c σ s.env) (Wn c σ s'.env) H H' := fun a o e n => by
  refine ⟨r.gr a o e fun z => n (.inl (by rw [z]; exact w)), fun z => n (r.sh a z)⟩

/-! ### what a step gives -/
inductive R (α : Type) where
  | ok (a : α) (s : S)
  | exc (e : Nat) (fs : List D) (s : S)
  | bad
def bindR {α β : Type} (m : S → R α) (k : α → S → R β) : S → R β := fun s => match m s with
  | .ok a s' => k a s'
  | .exc e fs s' => .exc e fs s'
  | .bad => .bad
def retR {α : Type} (a : α) : S → R α := fun s => .ok a s
def badR {α : Type} : S → R α := fun _ => .bad
def R.map {α β : Type} (f : α → β) : R α → R β
  | .ok a s => .ok (f a) s
  | .exc e fs s => .exc e fs s
  | .bad => .bad
/-- the classes of exceptions: the class's address, its fields' names -/
structure Ex where
  cls : Nat → Addr
  fld : Nat → List Str
def ExAt (x : Ex) (c : Cb) (W : Addr → Prop) (H : Hp) (dx : Addr) (e : Nat) (fs : List D) : Prop := ∃ vs : List V, vs.length = (x.fld e).length ∧ H dx = some (.xd ((x.fld e).zip vs)) ∧ Rps c W H vs fs
abbrev Rel (α β : Type) := (Addr → Prop) → Hp → β → α → Prop
section
variable {α β γ δ : Type}
def Post (rel : Rel α β) (x : Ex) (c : Cn) (W : WX) (σ : Sg) (H : Hp) (s : S) (r : R α) (Q : β → Hp → Prop) : Prop := match r with
  | .ok d s' => ∀ v H', SR c σ H' s' → Rch c σ H s H' s' → rel (Wn c σ s'.env) H' v d → Q v H'
  | .exc e fs s' => ∀ dx H', SR c σ H' s' → Rch c σ H s H' s' → ExAt x c.toCb (Wn c σ s'.env) H' dx e fs → W (.ref (x.cls e)) (some dx) σ H'
  | .bad => False
def Tc (rel : Rel α β) (x : Ex) (c : Cn) (W : WX) (f : S → R α) (σ : Sg) (H : Hp) (s : S) (Q : β → Hp → Prop) : Prop := SR c σ H s ∧ Post rel x c W σ H s (f s) Q
def Tv (rel : Rel α β) (x : Ex) (c : Cn) (W : WX) (f : S → R α) : Sg → Hp → (β → Hp → Prop) → Prop := fun σ H Q => ∃ s, Tc rel x c W f σ H s Q
variable {rel : Rel α β} {rel2 : Rel γ δ} {x : Ex} {c : Cn} {W : WX} {σ : Sg} {H H1 : Hp} {s s1 : S}
theorem Post.mono {r : R α} {Q Q' : β → Hp → Prop} (h : Post rel x c W σ H s r Q) (k : ∀ v H', Q v H' → Q' v H') : Post rel x c W σ H s r Q' := by
  cases r with
  | ok d s' => exact fun v H' a b d => k v H' (h v H' a b d)
  | exc e fs s' => exact h
  | bad => exact h
theorem Post.lift {r : R α} {Q : β → Hp → Prop} (a : Rch c σ H s H1 s1) (h : Post rel x c W σ H s r Q) : Post rel x c W σ H1 s1 r Q := by
  cases r with
  | ok d s' => exact fun v H' b q d => h v H' b (a.trans q) d
  | exc e fs s' => exact fun dx H' b q d => h dx H' b (a.trans q) d
  | bad => exact h
theorem Tc.mono {f : S → R α} {Q Q' : β → Hp → Prop} (h : Tc rel x c W f σ H s Q) (k : ∀ v H', Q v H' → Q' v H') : Tc rel x c W f σ H s Q' := ⟨h.1, h.2.mono k⟩
/-- one step, then another -/
theorem Tc.bind {f : S → R α} {g : α → S → R γ} {Q : δ → Hp → Prop} (h : Tc rel2 x c W (bindR f g) σ H s Q) :
    Tc rel x c W f σ H s fun v H1 => ∃ d s1, SR c σ H1 s1 ∧ Rch c σ H s H1 s1 ∧ rel (Wn c σ s1.env) H1 v d ∧ Post rel2 x c W σ H1 s1 (g d s1) Q := by
  refine ⟨h.1, ?_⟩
  have q : Post rel2 x c W σ H s (bindR f g s) Q := h.2
  unfold bindR at q
  cases e : f s with
  | ok d s' =>
    rw [e] at q
    exact fun v H' a b r => ⟨d, s', a, b, r, Post.lift b q⟩
  | exc en fs s' =>
    rw [e] at q
    exact q
  | bad =>
    rw [e] at q
    exact q
theorem Tv.bind {f : S → R α} {g : α → S → R γ} {Q : δ → Hp → Prop} {Q' : β → Hp → Prop} (h : Tv rel2 x c W (bindR f g) σ H Q)
    (k : ∀ v H1 d s1, SR c σ H1 s1 → rel (Wn c σ s1.env) H1 v d → Post rel2 x c W σ H1 s1 (g d s1) Q → Q' v H1) : Tv rel x c W f σ H Q' := by
  obtain ⟨s, h⟩ := h
  exact ⟨s, h.bind.mono fun v H' ⟨d, s1, a, _, r, q⟩ => k v H' d s1 a r q⟩
/-- .. where the first's slots, heap are asked for besides -/
theorem Tv.bind2 {f : S → R α} {g : α → S → R γ} {Q : δ → Hp → Prop} {Q' : β → Hp → Prop} (h : Tv rel2 x c W (bindR f g) σ H Q)
    (k : ∀ v H1 d s s1, SR c σ H s → SR c σ H1 s1 → Rch c σ H s H1 s1 → rel (Wn c σ s1.env) H1 v d → Post rel2 x c W σ H1 s1 (g d s1) Q → Q' v H1) : Tv rel x c W f σ H Q' := by
  obtain ⟨s, h⟩ := h
  exact ⟨s, h.bind.mono fun v H' ⟨d, s1, a, b, r, q⟩ => k v H' d s s1 h.1 a b r q⟩
theorem Tv.of {f : S → R α} {Q : β → Hp → Prop} (a : SR c σ H s) (h : Post rel x c W σ H s (f s) Q) : Tv rel x c W f σ H Q := ⟨s, a, h⟩
/-- the last step, done -/
theorem Post.ret {d : α} {Q : β → Hp → Prop} {v : β} (h : Post rel x c W σ H s (.ok d s) Q) (a : SR c σ H s) (r : rel (Wn c σ s.env) H v d) : Q v H := h v H a .refl r
end
end PV

namespace PV
open PySem PySem.Spec PyProof.Rows L2

/-! ### own terms -/
inductive Ty where | int | bool | str | tuple | list | dict
  deriving DecidableEq
inductive Op2 where | add | sub | mul | fdiv | mod | pow
  deriving DecidableEq
inductive Cp where | lt | le | gt | ge | eq | ne | is | isNot
  deriving DecidableEq
inductive Bt where | len | tuple | list | all | any | abs | int | max2 | min2 | sum | gcd
  deriving DecidableEq
inductive PTg where
  | name (i : Nat)
  | tup (l : List Nat)
mutual
inductive PX where
  | slot (i : Nat) | glob (g : Nat) | hole
  | int (i : Int) | bl (b : Bool) | non | str (x : Str)
  | tup (es : PXs) | lst (es : PXs) | dct0
  | bin (o : Op2) (a b : PX) | neg (a : PX) | not (a : PX)
  | cmp (o : Cp) (a b : PX) | chain (o p : Cp) (a b c : PX)
  | bop (isAnd : Bool) (es : PXs)
  | ite (t : PTt) (a b : PX)
  | ix (a i : PX)
  | rngL (e : PX) | dctN (g : PTg) (i : Nat) | slRev (a : PX) | sl (a : PX) | slLo (a lo : PX) | slHi (a hi : PX) | slLH (a lo hi : PX)
  | call (f : Nat) (args : PXs)
  | callK (f : Nat) (kws : PXs) (ks : List Str) (perm : List Nat)
  | blt (b : Bt) (args : PXs)
  | isi (a : PX) (t : Ty) | isiT (a : PX) (ts : List Ty)
  | items (a : PX)
  | comp (elt : PX) (g : PTg) (it : PIt) | compIf (elt : PX) (g : PTg) (it : PIt) (cond : PTt)
inductive PXs where
  | nil | cons (e : PX) (es : PXs) | star (e : PX) (es : PXs)
inductive PTt where
  | val (e : PX) | not (t : PTt) | bop (isAnd : Bool) (ts : PTts)
inductive PTts where
  | nil | cons (t : PTt) (ts : PTts)
inductive PIt where
  | seq (e : PX) | range1 (e : PX) | range2 (a b : PX) | zip (a b : PX) | enum (e : PX)
end
/-- in an except suite: a text, the field at a place, None -/
inductive PQ where | str (x : Str) | fld (j : Nat) | non | bl (b : Bool) | int (i : Int)
/-- an except suite: a list, a tuple, a constant is handed back -/
inductive PH where | lst (l : List PQ) | tup (l : List PQ) | one (q : PQ)
mutual
inductive PSt where
  | asg (t : PTg) (e : PX)
  | own (i : Nat) (e : PX)
  | par (l : List (Nat × Bool)) (es : PXs)
  | set (i : Nat) (x e : PX)
  | append (i : Nat) (e : PX)
  | iff (t : PTt) (a b : PSts)
  | for (t : PTg) (it : PIt) (b : PSts)
  | whil (t : PTt) (b : PSts)
  | ret (e : PX) | retN
  | raise (c n : Nat) (args : PXs)
  | tryy (n : Nat) (b : PSts) (hs : List (Option Nat × Option Nat × PH))
  | expr (e : PX)
  | pass | brk | cont | hole
inductive PSts where
  | nil | cons (s : PSt) (r : PSts)
end

/-! ### data -/
mutual
def toPy : D → Option PyData
  | .non => some .none
  | .bl b => some (.bool b)
  | .int i => some (.int i)
  | .str x => some (.str x)
  | .tup xs => (toPys xs).map .tuple
  | .lst xs => (toPys xs).map .list
  | .dct _ => none
  | .box => none
  | .fn _ => none
def toPys : List D → Option (List PyData)
  | [] => some []
  | x :: xs => match toPy x, toPys xs with
    | some a, some b => some (a :: b)
    | _, _ => none
end
def big : Nat := 16000000
def truD : D → Option Bool
  | .non => some false
  | .bl b => some b
  | .int i => some (i != 0)
  | .str x => if x.length ≤ big then some ((x.length : Int) != 0) else none
  | .tup xs => some (!xs.isEmpty)
  | .lst xs => some (!xs.isEmpty)
  | .dct xs => some (!xs.isEmpty)
  | .box => some true
  | .fn _ => none
def mulOk (i j : Int) : Bool := decide (i.natAbs.log2 + j.natAbs.log2 < 1000000)
def divOk (j : Int) : Bool := decide (j ≠ 0) && decide (j.natAbs.log2 < 9000)
def powOk (i j : Int) : Bool := decide (0 ≤ j) && decide (j ≤ 1000000) && decide (i.natAbs < 2 ^ 64)
def binD : Op2 → D → D → Option D
  | .add, .int i, .int j => some (.int (i + j))
  | .add, .lst xs, .lst ys => if xs.length + ys.length ≤ big then some (.lst (xs ++ ys)) else none
  | .add, .tup xs, .tup ys => if xs.length + ys.length ≤ big then some (.tup (xs ++ ys)) else none
  | .sub, .int i, .int j => some (.int (i - j))
  | .mul, .int i, .int j => if mulOk i j then some (.int (i * j)) else none
  | .mul, .lst xs, .int k => if 0 ≤ k ∧ k ≤ 1000000 ∧ xs.length * k.toNat ≤ big then some (.lst (List.replicate k.toNat xs).flatten) else none
  | .mul, .tup xs, .int k => if xs ≠ [] ∧ 1 ≤ k ∧ k ≤ 1000 ∧ xs.length ≤ 1000 then some (.tup (List.replicate k.toNat xs).flatten) else none
  | .fdiv, .int i, .int j => if divOk j then some (.int (i.fdiv j)) else none
  | .mod, .int i, .int j => if j = 0 then none else some (.int (i.fmod j))
  | .pow, .int i, .int j => if powOk i j then some (.int (i ^ j.toNat)) else none
  | _, _, _ => none
def eqD (a b : D) : Option Bool := match a, b with
  | .int i, .int j => some (decide (i = j))
  | a, b => match toPy a, toPy b with
    | some x, some y => if SeqAt.shaped x && SeqAt.shaped y then some (PyData.eqv x y) else none
    | _, _ => none
def isNonD : D → Bool
  | .non => true
  | _ => false
def cpD : Cp → D → D → Option Bool
  | .lt, .int i, .int j => some (decide (i < j))
  | .le, .int i, .int j => some (decide (i ≤ j))
  | .gt, .int i, .int j => some (decide (j < i))
  | .ge, .int i, .int j => some (decide (j ≤ i))
  | .eq, a, b => eqD a b
  | .ne, a, b => (eqD a b).map (!·)
  | .is, a, .non => some (isNonD a)
  | .isNot, a, .non => some (!isNonD a)
  | .is, .bl a, .bl b => some (decide (a = b))
  | .isNot, .bl a, .bl b => some (!decide (a = b))
  | _, _, _ => none
def isiD : D → Ty → Option Bool
  | .fn _, _ => none
  | .non, _ => some false
  | .bl _, t => some (decide (t = .bool) || decide (t = .int))
  | .int _, t => some (decide (t = .int))
  | .str _, t => some (decide (t = .str))
  | .tup _, t => some (decide (t = .tuple))
  | .lst _, t => some (decide (t = .list))
  | .box, t => some (decide (t = .list))
  | .dct _, t => some (decide (t = .dict))
def isiTD (d : D) : List Ty → Option Bool
  | [] => some false
  | t :: ts => match isiD d t with
    | some true => some true
    | some false => isiTD d ts
    | none => none
def bls? : List D → Option (List Bool)
  | [] => some []
  | .bl b :: r => (bls? r).map (b :: ·)
  | _ :: _ => none
def ints? : List D → Option (List Int)
  | [] => some []
  | .int b :: r => (ints? r).map (b :: ·)
  | _ :: _ => none
def minI (x : Int) : List Int → Int
  | [] => x
  | y :: ys => minI (if y < x then y else x) ys
def maxI (x : Int) : List Int → Int
  | [] => x
  | y :: ys => maxI (if y > x then y else x) ys
def lstI (f : Int → List Int → Int) : Option (List Int) → Option D
  | some (i :: l) => some (.int (f i l))
  | _ => none
def bltD : Bt → List D → Option D
  | .len, [.lst xs] => some (.int xs.length)
  | .len, [.tup xs] => some (.int xs.length)
  | .len, [.dct xs] => some (.int xs.length)
  | .len, [.str x] => if x.length ≤ big then some (.int x.length) else none
  | .tuple, [.lst xs] => some (.tup xs)
  | .tuple, [.tup xs] => some (.tup xs)
  | .list, [.lst xs] => some (.lst xs)
  | .list, [.tup xs] => some (.lst xs)
  | .all, [.lst xs] => (bls? xs).map fun l => .bl (l.all id)
  | .any, [.lst xs] => (bls? xs).map fun l => .bl (l.any id)
  | .abs, [.int i] => some (.int (if i < 0 then -i else i))
  | .int, [.int i] => some (.int i)
  | .int, [.bl b] => some (.int (if b then 1 else 0))
  | .max2, [.int i, .int j] => some (.int (if j > i then j else i))
  | .min2, [.int i, .int j] => some (.int (if j < i then j else i))
  | .max2, [.lst xs] => lstI maxI (ints? xs)
  | .min2, [.lst xs] => lstI minI (ints? xs)
  | .max2, [.tup xs] => lstI maxI (ints? xs)
  | .min2, [.tup xs] => lstI minI (ints? xs)
  | .sum, [.lst xs] => (ints? xs).map fun l => .int l.sum
  | .gcd, [.int i, .int j] => some (.int ((Nat.gcd i.natAbs j.natAbs : Nat) : Int))
  | _, _ => none
def ixD (a i : D) : Option D := match a, i with
  | .lst xs, .int i => atI xs i
  | .tup xs, .int i => atI xs i
  | .str x, .int i => if x.length ≤ big then (atI x.cps.toList i).map fun u => .str ⟨#[u]⟩ else none
  | _, _ => none
def boxAt (b : Bx) : Int → Option D
  | 0 => some (.int b.n)
  | 1 => some (.bl b.g)
  | 2 => some (.int b.r)
  | 3 => some (.int b.c)
  | _ => none
def cutD (xs : List D) (lo hi : Option Int) : List D := (xs.drop (HT.sIx xs.length 0 lo)).take (HT.sIx xs.length xs.length hi - HT.sIx xs.length 0 lo)
def slD (a : D) (lo hi : Option Int) : Option D := match a with
  | .lst xs => some (.lst (cutD xs lo hi))
  | .tup xs => some (.tup (cutD xs lo hi))
  | .str x => if x.length ≤ big then some (.str (cutS x lo hi)) else none
  | _ => none

/-- a comprehension over the keys of an empty dict -/
def dctE (i : Nat) : S → R D := fun s => match s.env[i]? with
  | some (.v (.dct [])) => .ok (.lst []) s
  | _ => .bad
def revD : D → Option D
  | .lst xs => some (.lst xs.reverse)
  | .tup xs => some (.tup xs.reverse)
  | _ => none
/-! ### the evaluator -/
inductive RF where
  | ok (d : D) (b : Bx)
  | exc (e : Nat) (fs : List D) (b : Bx)
  | bad
abbrev FT := Nat → List D → Bx → RF
def callR (F : FT) (i : Nat) (ds : List D) : S → R D := fun s => match F i ds s.bx with
  | .ok d b => .ok d { s with bx := b }
  | .exc e fs b => .exc e fs { s with bx := b }
  | .bad => .bad
def optR {α : Type} (o : Option α) : S → R α := fun s => match o with
  | some a => .ok a s
  | none => .bad
/-- no exception may leave -/
def noX {α : Type} (m : S → R α) : S → R α := fun s => match m s with
  | .ok a s' => .ok a s'
  | _ => .bad
def slotE (i : Nat) : S → R D := fun s => match s.env[i]? with
  | some (.v d) => .ok d s
  | some (.own xs) => .ok (.lst xs) { s with env := s.env.set i (.v (.lst xs)) }
  | _ => .bad
def slotP (i : Nat) : S → R D := fun s => match s.env[i]? with
  | some (.v d) => .ok d s
  | some (.own xs) => .ok (.lst xs) s
  | _ => .bad
def truR (d : D) : S → R Bool := optR (truD d)
def intR (d : D) : S → R Int := fun s => match d with
  | .int i => .ok i s
  | _ => .bad
def PTg.slots : PTg → List Nat
  | .name i => [i]
  | .tup l => l
def setAll : List Nat → List D → List Sl → Option (List Sl)
  | [], [], e => some e
  | i :: is, d :: ds, e => if i < e.length then setAll is ds (e.set i (.v d)) else none
  | _, _, _ => none
def asgT (t : PTg) (d : D) (s : S) : Option S := match t with
  | .name i => if i < s.env.length then some { s with env := s.env.set i (.v d) } else none
  | .tup l => match d with
    | .tup xs => (setAll l xs s.env).map fun e => { s with env := e }
    | _ => none
def wipeE : List Nat → List Sl → List Sl
  | [], e => e
  | i :: is, e => (wipeE is e).set i .no
/-- the slots of a comprehension's own names hold no list that changes -/
def plainAt : List Nat → List Sl → Bool
  | [], _ => true
  | i :: is, e => (match e[i]? with | some (.own _) => false | none => false | _ => true) && plainAt is e
def backE (old : List Sl) : List Nat → List Sl → List Sl
  | [], e => e
  | i :: is, e => (backE old is e).set i (old[i]?.getD .no)
def compL (t : PTg) (cond : S → R Bool) (elt : S → R D) : List D → S → R (List D)
  | [], s => .ok [] s
  | x :: xs, s => match asgT t x { s with env := wipeE t.slots s.env } with
    | none => .bad
    | some s1 => bindR (noX cond) (fun b => if b then bindR (noX elt) fun d => bindR (compL t cond elt xs) fun ds => retR (d :: ds) else compL t cond elt xs) s1
/-- a comprehension over items -/
def compR (t : PTg) (cond : S → R Bool) (elt : S → R D) (xs : List D) : S → R D := fun s =>
  if plainAt t.slots s.env && decide (xs.length ≤ big) then
    match compL t cond elt xs s with
    | .ok ds s' => .ok (.lst ds) { s' with env := backE s.env t.slots s'.env }
    | _ => .bad
  else .bad
def zipD : List D → List D → List D
  | a :: as, b :: bs => .tup [a, b] :: zipD as bs
  | _, _ => []
def rangeD (lo hi : Int) : List D := (List.range (hi - lo).toNat).map fun (j : Nat) => .int (lo + (j : Int))
def enumD : Nat → List D → List D
  | _, [] => []
  | n, x :: xs => .tup [.int (n : Int), x] :: enumD (n + 1) xs
def rngOk (i : Int) : Bool := decide (-(2 ^ 62) ≤ i) && decide (i < 2 ^ 62)
def seqD : D → Option (List D)
  | .lst xs => some xs
  | .tup xs => some xs
  | _ => none
def permD (ds : List D) (perm : List Nat) : List D := perm.map fun j => ds.getD j .non
def pk : PX → (S → R D) → S → R D
  | .slot i, _ => slotP i
  | _, m => m
section
variable (F : FT) (con : Nat → D)
mutual
def evalE : PX → S → R D
  | .slot i => slotE i
  | .glob g => retR (con g)
  | .hole => badR
  | .int i => retR (.int i)
  | .bl b => retR (.bl b)
  | .non => retR .non
  | .str x => retR (.str x)
  | .tup es => bindR (evalEs es) fun ds => if ds.length ≤ big then retR (.tup ds) else badR
  | .lst es => bindR (evalEs es) fun ds => if ds.length ≤ big then retR (.lst ds) else badR
  | .dct0 => retR (.dct [])
  | .bin o a b => bindR (pk a (evalE a)) fun x => bindR (pk b (evalE b)) fun y => optR (binD o x y)
  | .neg a => bindR (evalE a) fun x => bindR (intR x) fun i => retR (.int (-i))
  | .not a => bindR (pk a (evalE a)) fun x => bindR (truR x) fun b => retR (.bl (!b))
  | .cmp o a b => bindR (pk a (evalE a)) fun x => bindR (pk b (evalE b)) fun y => bindR (optR (cpD o x y)) fun c => retR (.bl c)
  | .chain o p a b c => bindR (evalE a) fun x => bindR (evalE b) fun y => bindR (optR (cpD o x y)) fun k =>
      if k then bindR (evalE c) fun z => bindR (optR (cpD p y z)) fun k2 => retR (.bl k2) else retR (.bl false)
  | .bop k es => evalB k es
  | .ite t a b => bindR (evalT t) fun k => if k then evalE a else evalE b
  | .ix a i => bindR (pk a (evalE a)) fun x => bindR (evalE i) fun j => fun s => match x with
      | .box => (match j with | .int n => optR (boxAt s.bx n) s | _ => .bad)
      | x => optR (ixD x j) s
  | .sl a => bindR (pk a (evalE a)) fun x => optR (slD x none none)
  | .dctN _ i => bindR (dctE i) fun x => bindR (bindR (retR ([] : List D)) fun ds => if ds.length ≤ big then retR (.lst ds) else badR) fun y => bindR (optR (cpD .eq x y)) fun c => retR (.bl c)
  | .rngL e => bindR (evalE e) fun d => bindR (intR d) fun i => if decide (-1000000 ≤ i) && decide (i ≤ 1000000) then retR (.lst (rangeD 0 i)) else badR
  | .slRev a => bindR (pk a (evalE a)) fun x => optR (revD x)
  | .slLo a lo => bindR (pk a (evalE a)) fun x => bindR (evalE lo) fun l => bindR (intR l) fun i => optR (slD x (some i) none)
  | .slHi a hi => bindR (pk a (evalE a)) fun x => bindR (evalE hi) fun l => bindR (intR l) fun i => optR (slD x none (some i))
  | .slLH a lo hi => bindR (pk a (evalE a)) fun x => bindR (evalE lo) fun l => bindR (intR l) fun i => bindR (evalE hi) fun h => bindR (intR h) fun j => optR (slD x (some i) (some j))
  | .call f args => bindR (evalEs args) fun ds => callR F f ds
  | .callK f kws ks perm => bindR (evalEs kws) fun ds => if ds.length = ks.length then callR F f (permD ds perm) else badR
  | .blt b args => bindR (evalPs args) fun ds => optR (bltD b ds)
  | .isi a t => bindR (pk a (evalE a)) fun x => bindR (optR (isiD x t)) fun b => retR (.bl b)
  | .isiT a ts => bindR (pk a (evalE a)) fun x => bindR (optR (isiTD x ts)) fun b => retR (.bl b)
  | .items a => bindR (evalE a) fun x => fun s => match x with
      | .dct kvs => .ok (.lst (kvs.map fun q => .tup [.str q.1, q.2])) s
      | _ => .bad
  | .comp elt g it => bindR (evalI it) fun xs => compR g (retR true) (evalE elt) xs
  | .compIf elt g it cond => bindR (evalI it) fun xs => compR g (evalT cond) (evalE elt) xs
def evalT : PTt → S → R Bool
  | .val e => bindR (pk e (evalE e)) fun x => truR x
  | .not a => bindR (evalT a) fun b => retR (!b)
  | .bop k es => evalTB k es
def evalB (isAnd : Bool) : PXs → S → R D
  | .cons e .nil => evalE e
  | .cons e r => bindR (evalE e) fun x => bindR (truR x) fun k => if k == isAnd then evalB isAnd r else retR x
  | _ => badR
def evalTB (isAnd : Bool) : PTts → S → R Bool
  | .cons e .nil => evalT e
  | .cons e r => bindR (evalT e) fun k => if k == isAnd then evalTB isAnd r else retR k
  | _ => badR
def evalEs : PXs → S → R (List D)
  | .nil => retR []
  | .cons e r => bindR (evalE e) fun d => bindR (evalEs r) fun ds => retR (d :: ds)
  | .star e r => bindR (pk e (evalE e)) fun d => bindR (optR (seqD d)) fun xs => bindR (evalEs r) fun ds => retR (xs ++ ds)
def evalPs : PXs → S → R (List D)
  | .nil => retR []
  | .cons e r => bindR (pk e (evalE e)) fun d => bindR (evalPs r) fun ds => retR (d :: ds)
  | .star _ _ => badR
def evalI : PIt → S → R (List D)
  | .seq e => bindR (evalE e) fun d => optR (seqD d)
  | .range1 e => bindR (evalE e) fun d => bindR (intR d) fun i => if rngOk i then retR (rangeD 0 i) else badR
  | .range2 a b => bindR (evalE a) fun d => bindR (intR d) fun i => bindR (evalE b) fun d2 => bindR (intR d2) fun j => if rngOk i && rngOk j then retR (rangeD i j) else badR
  | .zip a b => bindR (evalE a) fun x => bindR (evalE b) fun y => fun s => match x, y with
      | .lst xs, .lst ys => .ok (zipD xs ys) s
      | .tup xs, .tup ys => .ok (zipD xs ys) s
      | .lst xs, .tup ys => .ok (zipD xs ys) s
      | .tup xs, .lst ys => .ok (zipD xs ys) s
      | _, _ => .bad
  | .enum a => bindR (evalE a) fun x => fun s => match x with
      | .lst xs => .ok (enumD 0 xs) s
      | _ => .bad
end
end
/-! ### statements -/
inductive RS where
  | next (s : S) | ret (d : D) (b : Bx) | brk (s : S) | cont (s : S)
  | exc (e : Nat) (fs : List D) (s : S)
  | bad
def R.toS (k : D → S → RS) : R D → RS
  | .ok d s => k d s
  | .exc e fs s => .exc e fs s
  | .bad => .bad
def bindS {α : Type} (m : S → R α) (k : α → S → RS) : S → RS := fun s => match m s with
  | .ok a s' => k a s'
  | .exc e fs s' => .exc e fs s'
  | .bad => .bad
def loopF (t : PTg) (b : S → RS) : List D → S → RS
  | [], s => .next s
  | x :: xs, s => match asgT t x s with
    | none => .bad
    | some s1 => match b s1 with
      | .next s2 => loopF t b xs s2
      | .cont s2 => loopF t b xs s2
      | .brk s2 => .next s2
      | r => r
def loopW (t : S → R Bool) (b : S → RS) : Nat → S → RS
  | 0, _ => .bad
  | n + 1, s => bindS t (fun k s1 => if k then (match b s1 with
      | .next s2 => loopW t b n s2
      | .cont s2 => loopW t b n s2
      | .brk s2 => .next s2
      | r => r) else .next s1) s
def setSl (i : Nat) (j : Int) (d : D) (s : S) : RS := match s.env[i]? with
  | some (.own xs) => (match ixN xs.length j with
    | some k => .next { s with env := s.env.set i (.own (xs.set k d)) }
    | none => .bad)
  | some (.v .box) => (match j, d with
    | 0, .int n => .next { s with bx := { s.bx with n := n } }
    | 3, .int n => .next { s with bx := { s.bx with c := n } }
    | _, _ => .bad)
  | _ => .bad
def appSl (i : Nat) (d : D) (s : S) : RS := match s.env[i]? with
  | some (.own xs) => if xs.length < big then .next { s with env := s.env.set i (.own (xs ++ [d])) } else .bad
  | _ => .bad
def ownSl (i : Nat) (d : D) (s : S) : RS := match d with
  | .lst xs => if i < s.env.length then .next { s with env := s.env.set i (.own xs) } else .bad
  | _ => .bad
/-- names in one line, stored from the right; true: a new list of one's own -/
def storeL : List (Nat × Bool) → List D → List Sl → Option (List Sl)
  | [], [], e => some e
  | (i, o) :: l, d :: ds, e => match storeL l ds e with
    | some e' => if i < e'.length then (match o, d with
      | false, d => some (e'.set i (.v d))
      | true, .lst xs => some (e'.set i (.own xs))
      | _, _ => none) else none
    | none => none
  | _, _, _ => none
/-- what a handled exception's suite hands back -/
def pqD (fs : List D) : PQ → Option D
  | .str x => some (.str x)
  | .fld j => fs[j]?
  | .non => some .non
  | .bl b => some (.bl b)
  | .int i => some (.int i)
def pqsD (fs : List D) : List PQ → Option (List D)
  | [] => some []
  | q :: r => match pqD fs q, pqsD fs r with
    | some d, some ds => some (d :: ds)
    | _, _ => none
def phD (fs : List D) : PH → Option D
  | .lst l => if l.length ≤ big then (pqsD fs l).map .lst else none
  | .tup l => if l.length ≤ big then (pqsD fs l).map .tup else none
  | .one q => pqD fs q
def catches (e : Nat) : Option Nat → Bool
  | none => true
  | some c => decide (e = c)
def fldsOf (c : Option Nat) (fs : List D) : List D := match c with
  | none => []
  | some _ => fs
def slotIn (s : S) : Option Nat → Bool
  | none => true
  | some j => decide (j < s.env.length)
def handle (n e : Nat) (fs : List D) (s : S) : List (Option Nat × Option Nat × PH) → RS
  | [] => .exc e fs s
  | (c, i, h) :: r => if decide (e < n) && slotIn s i then (if catches e c then (match phD (fldsOf c fs) h with | some d => .ret d s.bx | none => .bad) else handle n e fs s r) else .bad
section
variable (F : FT) (con : Nat → D) (fw : Nat)
mutual
def evalS : PSt → S → RS
  | .asg t e => bindS (evalE F con e) fun d s => match asgT t d s with | some s' => .next s' | none => .bad
  | .own i e => bindS (evalE F con e) fun d s => ownSl i d s
  | .par l es => bindS (evalEs F con es) fun ds s => (match storeL l ds s.env with | some e => .next { s with env := e } | none => .bad)
  | .set i x e => bindS (evalE F con e) fun d => bindS (slotP i) fun _ => bindS (evalE F con x) fun j s => (match j with | .int j => setSl i j d s | _ => .bad)
  | .append i e => fun s => match s.env[i]? with
    | some (.own _) => bindS (evalE F con e) (fun d s => appSl i d s) s
    | _ => .bad
  | .iff t a b => bindS (evalT F con t) fun k => if k then evalSs a else evalSs b
  | .for t it b => bindS (evalI F con it) fun xs => loopF t (evalSs b) xs
  | .whil t b => loopW (evalT F con t) (evalSs b) fw
  | .ret e => bindS (evalE F con e) fun d s => .ret d s.bx
  | .retN => fun s => .ret .non s.bx
  | .raise c n args => bindS (evalEs F con args) fun ds s => if ds.length = n then .exc c ds.reverse s else .bad
  | .tryy n b hs => fun s => match evalSs b s with
      | .exc e fs s' => handle n e fs s' hs
      | r => r
  | .expr e => bindS (evalE F con e) fun _ s => .next s
  | .pass => fun s => .next s
  | .brk => fun s => .brk s
  | .cont => fun s => .cont s
  | .hole => fun _ => .bad
def evalSs : PSts → S → RS
  | .nil => fun s => .next s
  | .cons a r => fun s => match evalS a s with
      | .next s' => evalSs r s'
      | q => q
end
end
/-- a def: its parameters, how many slots, its body -/
structure Df where
  par : Nat
  slots : Nat
  body : PSts
def runF (F : FT) (con : Nat → D) (fw : Nat) (d : Df) (ds : List D) (b : Bx) : RF :=
  if ds.length = d.par then
    match evalSs F con fw d.body ⟨ds.map Sl.v ++ List.replicate (d.slots - d.par) .no, b⟩ with
    | .next s => .ok .non s.bx
    | .ret v b' => .ok v b'
    | .exc e fs s => .exc e fs s.bx
    | _ => .bad
  else .bad
/-- the defs at a depth of calls -/
def evF (defs : List Df) (con : Nat → D) (fw : Nat) : Nat → FT
  | 0 => fun _ _ _ => .bad
  | k + 1 => fun i ds b => if k < 2 then .bad else match defs[i]? with
    | some d => runF (evF defs con fw k) con fw d ds b
    | none => .bad
end PV

/-! t[::-1] of a tuple -/
namespace HT
open PySem PySem.Spec PyProof.Rows PySem.W
section
variable {prog : Program} {w : World} {A : Around} {E : Value → Shared → Prop} {s : Shared}
theorem adjust_rev (n : Nat) : Builtin.Slice.sliceAdjust none none (-1) (n : Int) = ((n : Int) - 1, -1) := by
  unfold Builtin.Slice.sliceAdjust
  simp
theorem places_rev (n : Nat) : Builtin.Slice.slicePlaces ((n : Int) - 1) (-1) (-1) = n := by
  unfold Builtin.Slice.slicePlaces
  simp
  omega
theorem sliceApplied_rev {sl : Addr} {vl vu vs : Value} {n : Nat} {Q : Int × Int × Nat → Shared → Prop} (hs : s.heap.IsSliceOf sl vl vu vs) (pl : IsPart vl none) (pu : IsPart vu none) (ps : IsPart vs (some (-1)))
    (h : Q ((n : Int) - 1, -1, n) s) : wpAny (model prog w) A (Builtin.Slice.sliceApplied (.ref sl) (pure (n : Int))) Q E s := by
  obtain ⟨os, hos, hcs, hds⟩ := id hs
  unfold Builtin.Slice.sliceApplied Builtin.Slice.sliceFields
  refine wpAny_bind (wpAny_bind (wpAny_field hos hds (x := vl) rfl (wpAny_bind (wpAny_field hos hds (x := vu) rfl (wpAny_bind (wpAny_field hos hds (x := vs) rfl (wpAny_pure ?_)))))))
  refine wpAny_bind (slicePart_ ps ?_)
  show wpAny _ _ (if ((-1 : Int) == 0) = true then _ else _) _ _ s
  rw [if_neg (by decide)]
  refine wpAny_bind (slicePart_ pl (wpAny_bind (slicePart_ pu (wpAny_bind (wpAny_pure ?_)))))
  show wpAny _ _ (match Builtin.Slice.sliceAdjust none none (-1) (n : Int) with | (lo, hi) => pure (lo, (-1 : Int), Builtin.Slice.slicePlaces lo hi (-1))) _ _ s
  rw [adjust_rev n]
  show wpAny _ _ (pure ((n : Int) - 1, (-1 : Int), Builtin.Slice.slicePlaces ((n : Int) - 1) (-1) (-1))) _ _ s
  rw [places_rev]
  exact wpAny_pure h
theorem pick_rev (xs : Array Value) : ((List.range xs.size).filterMap fun (m : Nat) => xs[(((xs.size : Int) - 1) + (m : Int) * (-1)).toNat]?).toArray = xs.toList.reverse.toArray := by
  have e : (fun (m : Nat) => xs[(((xs.size : Int) - 1) + (m : Int) * (-1)).toNat]?) = fun m => xs[xs.size - 1 - m]? := by
    funext m
    have : (((xs.size : Int) - 1) + (m : Int) * (-1)).toNat = xs.size - 1 - m := by omega
    rw [this]
  rw [e]
  have e2 : (fun m => xs[xs.size - 1 - m]?) = (xs[·]?) ∘ fun m => xs.size - 1 - m := rfl
  rw [e2, ← List.filterMap_map, krv_range, List.filterMap_reverse, krv_all]
theorem getItem_tuple_rev {t sl : Addr} {items : Array Value} {vl vu vs : Value} {Q : Value → Shared → Prop} (ht : IsTup s.heap t items) (hs : s.heap.IsSliceOf sl vl vu vs) (pl : IsPart vl none) (pu : IsPart vu none) (ps : IsPart vs (some (-1)))
    (h : Q (.ref s.heap.objs.size) { s with heap := s.heap.push { cls := .type "tuple", data := .seq items.toList.reverse.toArray } })
    (hsz : items.size ≤ sizeLine) : wpAny (model prog w) A (getItem (.ref t) (.ref sl)) Q E s := by
  have htake : sizeOk (.seq items.toList.reverse.toArray) := by
    show items.toList.reverse.toArray.size ≤ sizeLine
    rw [List.size_toArray, List.length_reverse, Array.length_toList]
    omega
  obtain ⟨os, hos, hcs, hds⟩ := id hs
  have hTs : s.TypeIs (.ref sl) "slice" := ⟨os, hos, hcs⟩
  unfold getItem
  try with_reducible refine wpAny_holding ?_
  first | refine wpAny_bind (wpAny_pure ?_) | skip
  refine wpAny_bind (wpAny_sequenceKey ht.typeIs (by decide) ?_)
  refine wpAny_bind (wpAny_callSpecial?_slot (name := Str.ofString "__getitem__") ht.typeIs PyProof.Rows.slot_tuple_getitem
    (wpAny_call_entry PyProof.Rows.slot_tuple_getitem ht.typeIs entry_tuple_getitem ?_ (args_tuple_getitem _ _)))
  show wpAny _ _ (Builtin.Tuple.tupleItemsOf (.ref t) >>= _) _ _ s
  refine wpAny_bind (tupleItemsOf_ ht ?_)
  refine wpAny_bind (wpAny_typeOf hTs ?_)
  rw [if_pos (by decide)]
  refine wpAny_bind (sliceApplied_rev hs pl pu ps ?_)
  have hno : ¬ ((((items.size : Int) - 1) == 0 && (-1 : Int) == 1 && items.size == items.size) = true) := by
    intro q
    rw [Bool.and_eq_true, Bool.and_eq_true] at q
    exact absurd q.1.2 (by decide)
  show wpAny _ _ (if (((items.size : Int) - 1) == 0 && (-1 : Int) == 1 && items.size == items.size) = true then _ else _) _ _ s
  rw [if_neg hno, pick_rev]
  first
    | exact wpAny_bind (m := Builtin.Tuple.tupleExact _) (wpAny_newObj_type (wpAny_pure ⟨_, rfl, wpAny_pure h⟩) htake)
    | exact wpAny_bind (m := Builtin.Tuple.tupleExact _) (wpAny_newObj_type (wpAny_bind (wpAny_pure (wpAny_pure ⟨_, rfl, wpAny_pure h⟩))) htake)
    | exact wpAny_bind (wpAny_bind (m := Builtin.Tuple.tupleExact _) (wpAny_newObj_type (wpAny_pure (wpAny_pure ⟨_, rfl, wpAny_pure h⟩)) htake))
    | exact wpAny_bind (wpAny_bind (m := Builtin.Tuple.tupleExact _) (wpAny_newObj_type (wpAny_pure ⟨_, rfl, wpAny_pure h⟩) htake))
end
end HT
namespace L2
open PySem PySem.Spec PyProof.Rows
section
variable {X : Cx}
/-- t[::-1] -/
def tRevT (K : PySem.W.Frag) (te : TE) : TE := fun σ H Q => te σ H fun x H1 => ∃ a xs, x = .ref a ∧ SqT K H1 a xs ∧ ∀ p, H1 p = none → Q (.ref p) (upd H1 p (.tup xs.reverse))
def tRevA (K : PySem.W.Frag) (te : TE) : TE := fun σ H Q => te σ H fun x H1 => (∃ a xs, x = .ref a ∧ SqL K H1 a xs ∧ ∀ p, H1 p = none → Q (.ref p) (upd H1 p (.lst xs.reverse))) ∨ ∃ a xs, x = .ref a ∧ SqT K H1 a xs ∧ ∀ p, H1 p = none → Q (.ref p) (upd H1 p (.tup xs.reverse))
theorem pe_revA {e : Expr} {te : TE} {k : Nat} {p1 p2 p3 pos : Pos} (he : PE X e te) : PE X (.Subscript e (.Slice none none (some (.UnaryOp .USub (.Constant (.int 1) k p1) p2)) p3) pos) (tRevA X.K te) := by
  refine ⟨fun pins s σ H Q I h => ?_⟩
  refine Subscript_ (thn (he.run pins s σ H _ I h) fun v s1 ⟨x, H1, I1, r1, q1⟩ => ?_)
  have hst : PO X (some (.UnaryOp .USub (.Constant (.int 1) k p1) p2)) (tPart (tUn (rU fun i => .int (-i)) (tC (.int 1)))) := po_some (pe_un un_neg pe_int)
  rcases q1 with q1 | q1
  · obtain ⟨a, xs, ex, hx, q⟩ := q1
    subst ex
    cases r1
    refine wpAny_Slice (thn (po_none.run pins s1 σ H1 (fun o H2 => o = none ∧ H2 = H1) I1 ⟨rfl, rfl⟩) fun vl s2 ⟨l, H2, I2, pl, el, e2⟩ => ?_)
    subst el e2
    refine thn (po_none.run pins s2 σ H2 (fun o H3 => o = none ∧ H3 = H2) I2 ⟨rfl, rfl⟩) fun vu s3 ⟨u, H3, I3, pu, eu, e3⟩ => ?_
    subst eu e3
    refine thn (hst.run pins s3 σ H3 (fun o H4 => o = some (-1) ∧ H4 = H3) I3 ⟨1, rfl, -1, rfl, rfl, rfl⟩) fun vs s4 ⟨o, H4, I4, ps, eo, e4⟩ => ?_
    subst eo e4
    have I5 : Inv X pins σ H4 { s4 with heap := s4.heap.push { cls := .type "slice", data := .fields #[vl, vu, vs] } } := I4.kept (t' := s4.toks) fun b ob q => Heap.get?_push_of_some _ q
    obtain ⟨its, r, ht, hz⟩ := I5.list hx
    have hlen := r.length
    show wpAny (model X.prog X.w) X.A (subscriptTail e (.Slice none none (some (.UnaryOp .USub (.Constant (.int 1) k p1) p2)) p3) (.ref a) (.ref s4.heap.objs.size)) (EP X pins σ Q) X.xe { s4 with heap := s4.heap.push { cls := .type "slice", data := .fields #[vl, vu, vs] } }
    refine tail_any (ops := [.ref a, .ref s4.heap.objs.size]) ht.isList.typeIs (PySem.slot_list_getitem.lookup) ?_ (by with_unfolding_all rfl)
    refine wpAny_getItem_list_slice ht.isList (Heap.IsSliceOf.new _ vl vu vs) pl pu ps (by decide) ?_ (by rw [List.size_toArray]; omega)
    rw [PySem.W.krv_pick]
    refine ⟨.ref _, _, I5.laid (t' := s4.toks) (o := .lst xs.reverse) (fun b ob q => Heap.get?_push_of_some _ q) (Nat.le_refl _) ?_, rfl, q _ (I5.hok.fresh (Nat.le_refl _))⟩
    exact ⟨by rw [List.length_reverse]; exact hz, _, 0, r.reverse, Heap.get?_push_size _ rfl⟩
  · obtain ⟨a, xs, ex, hx, q⟩ := q1
    subst ex
    cases r1
    refine wpAny_Slice (thn (po_none.run pins s1 σ H1 (fun o H2 => o = none ∧ H2 = H1) I1 ⟨rfl, rfl⟩) fun vl s2 ⟨l, H2, I2, pl, el, e2⟩ => ?_)
    subst el e2
    refine thn (po_none.run pins s2 σ H2 (fun o H3 => o = none ∧ H3 = H2) I2 ⟨rfl, rfl⟩) fun vu s3 ⟨u, H3, I3, pu, eu, e3⟩ => ?_
    subst eu e3
    refine thn (hst.run pins s3 σ H3 (fun o H4 => o = some (-1) ∧ H4 = H3) I3 ⟨1, rfl, -1, rfl, rfl, rfl⟩) fun vs s4 ⟨o, H4, I4, ps, eo, e4⟩ => ?_
    subst eo e4
    have I5 : Inv X pins σ H4 { s4 with heap := s4.heap.push { cls := .type "slice", data := .fields #[vl, vu, vs] } } := I4.kept (t' := s4.toks) fun b ob q => Heap.get?_push_of_some _ q
    obtain ⟨its, r, ht, hz⟩ := I5.tuple hx
    have hlen := r.length
    show wpAny (model X.prog X.w) X.A (subscriptTail e (.Slice none none (some (.UnaryOp .USub (.Constant (.int 1) k p1) p2)) p3) (.ref a) (.ref s4.heap.objs.size)) (EP X pins σ Q) X.xe { s4 with heap := s4.heap.push { cls := .type "slice", data := .fields #[vl, vu, vs] } }
    refine tail_any (ops := [.ref a, .ref s4.heap.objs.size]) ht.typeIs PyProof.Rows.slot_tuple_getitem.lookup ?_ (by with_unfolding_all rfl)
    refine HT.getItem_tuple_rev ht (Heap.IsSliceOf.new _ vl vu vs) pl pu ps ?_ (by rw [List.size_toArray]; omega)
    refine ⟨.ref _, _, I5.laid (t' := s4.toks) (o := .tup xs.reverse) (fun b ob q => Heap.get?_push_of_some _ q) (Nat.le_refl _) ?_, rfl, q _ (I5.hok.fresh (Nat.le_refl _))⟩
    exact ⟨by rw [List.length_reverse]; exact hz, _, r.reverse, IsTup.new _ _⟩
end
end L2

/-! max and min of a tuple of ints -/
namespace PV
open PySem PySem.Spec PyProof.Rows L2
section
variable {prog : Program} {w : World} {A : Around} {E : Value → Shared → Prop} {s : Shared} {l : Addr} {xs : Array (Int × Tok)}
theorem old_keptT {h' : Heap} (hk : ∀ b o, b ∉ [s.heap.objs.size] → (s.heap.push { cls := .type "tuple_iterator", data := .fields #[.ref l, .int 0 0] }).get? b = some o → h'.get? b = some o) :
    ∀ b o, s.heap.get? b = some o → h'.get? b = some o := fun b o e => by
  refine hk b o (fun hm => ?_) (Heap.get?_push_of_some _ e)
  rcases List.mem_cons.mp hm with e1 | hm
  · exact absurd (e1 ▸ Heap.lt_size e) (Nat.lt_irrefl _)
  · cases hm
theorem max_intTup {Q : Value → Shared → Prop} (hh : A.handled = none) (hl : s.heap.IsTuple l (intItems xs)) (hne : 0 < xs.size)
    (h : ∀ v h' tk, (intItems xs)[argBest (fun i j => decide (numAt xs i > numAt xs j)) (xs.size - 1)]? = some v → (∀ b o, s.heap.get? b = some o → h'.get? b = some o) → Q v { s with heap := h', toks := tk }) :
    wpAny (model prog w) A (call (.builtin "max") [.ref l]) Q E s := by
  have hlt : l < s.heap.objs.size := by obtain ⟨_, e, _⟩ := hl; exact Heap.lt_size e
  refine call_max_walk (wpAny_pyIter_tuple hl ?_)
  refine ⟨_, _, _, _, _, _, _, rfl, Walks.tuple (A := A.in1) hh _ l (Nat.ne_of_lt hlt) (intItems xs), ⟨⟨_, Heap.get?_push_size _ rfl, rfl, rfl⟩, hl.push _⟩, fun b hb => ?_, by simpa [intItems] using hne, CmpOf.ints_gt (numAt xs) (fun _ _ => intItems_at), fun v h' tk hP hk => ?_⟩
  · show b < (s.heap.push _).objs.size
    rw [Heap.size_push]
    rcases List.mem_cons.mp hb with rfl | hb
    · exact Nat.lt_succ_self _
    · rcases List.mem_cons.mp hb with rfl | hb
      · exact Nat.lt_succ_of_lt hlt
      · cases hb
  · exact h v h' tk (by simpa [intItems] using hP) (old_keptT hk)
theorem min_intTup {Q : Value → Shared → Prop} (hh : A.handled = none) (hl : s.heap.IsTuple l (intItems xs)) (hne : 0 < xs.size)
    (h : ∀ v h' tk, (intItems xs)[argBest (fun i j => decide (numAt xs i < numAt xs j)) (xs.size - 1)]? = some v → (∀ b o, s.heap.get? b = some o → h'.get? b = some o) → Q v { s with heap := h', toks := tk }) :
    wpAny (model prog w) A (call (.builtin "min") [.ref l]) Q E s := by
  have hlt : l < s.heap.objs.size := by obtain ⟨_, e, _⟩ := hl; exact Heap.lt_size e
  refine call_min_walk (wpAny_pyIter_tuple hl ?_)
  refine ⟨_, _, _, _, _, _, _, rfl, Walks.tuple (A := A.in1) hh _ l (Nat.ne_of_lt hlt) (intItems xs), ⟨⟨_, Heap.get?_push_size _ rfl, rfl, rfl⟩, hl.push _⟩, fun b hb => ?_, by simpa [intItems] using hne, CmpOf.ints_lt (numAt xs) (fun _ _ => intItems_at), fun v h' tk hP hk => ?_⟩
  · show b < (s.heap.push _).objs.size
    rw [Heap.size_push]
    rcases List.mem_cons.mp hb with rfl | hb
    · exact Nat.lt_succ_self _
    · rcases List.mem_cons.mp hb with rfl | hb
      · exact Nat.lt_succ_of_lt hlt
      · cases hb
  · exact h v h' tk (by simpa [intItems] using hP) (old_keptT hk)
end
section
variable {prog : Program} {w : World} {A : Around} {E : Value → Shared → Prop} {s : Shared} {l : Addr} {its : List Value} {ns : List Int} {Q : Value → Shared → Prop}
theorem max_rawT (hh : A.handled = none) (hl : s.heap.IsTuple l its.toArray) (hi : IntsAre its ns) (hne : 0 < ns.length)
    (h : ∀ h' tk M t', (∀ b o, s.heap.get? b = some o → h'.get? b = some o) → M ∈ ns → (∀ a, a ∈ ns → a ≤ M) → Q (.int M t') { s with heap := h', toks := tk }) : wpAny (model prog w) A (call (.builtin "max") [.ref l]) Q E s := by
  obtain ⟨xs, e⟩ := hi.allInts.items
  have hn : numsOf (intItems xs).toList = ns := by rw [← e]; exact hi.numsOf
  rw [nums_intItems] at hn
  subst hn
  rw [e] at hl
  have hsz : 0 < xs.size := by simpa using hne
  refine max_intTup hh hl hsz fun v h' tk hv hk => ?_
  obtain ⟨t, rfl⟩ := intItems_at hv
  obtain ⟨h1, h2⟩ := argBest_gt (numAt xs) (xs.size - 1)
  refine h h' tk _ t hk ?_ fun a ha => ?_
  · rw [numAt_eq]; exact PySem.getD_mem (by rw [List.length_map, Array.length_toList]; omega)
  · obtain ⟨j, hj, rfl⟩ := mem_getD ha
    rw [List.length_map, Array.length_toList] at hj
    rw [← numAt_eq]; exact h2 j (by omega)
theorem min_rawT (hh : A.handled = none) (hl : s.heap.IsTuple l its.toArray) (hi : IntsAre its ns) (hne : 0 < ns.length)
    (h : ∀ h' tk M t', (∀ b o, s.heap.get? b = some o → h'.get? b = some o) → M ∈ ns → (∀ a, a ∈ ns → M ≤ a) → Q (.int M t') { s with heap := h', toks := tk }) : wpAny (model prog w) A (call (.builtin "min") [.ref l]) Q E s := by
  obtain ⟨xs, e⟩ := hi.allInts.items
  have hn : numsOf (intItems xs).toList = ns := by rw [← e]; exact hi.numsOf
  rw [nums_intItems] at hn
  subst hn
  rw [e] at hl
  have hsz : 0 < xs.size := by simpa using hne
  refine min_intTup hh hl hsz fun v h' tk hv hk => ?_
  obtain ⟨t, rfl⟩ := intItems_at hv
  obtain ⟨h1, h2⟩ := argBest_lt (numAt xs) (xs.size - 1)
  refine h h' tk _ t hk ?_ fun a ha => ?_
  · rw [numAt_eq]; exact PySem.getD_mem (by rw [List.length_map, Array.length_toList]; omega)
  · obtain ⟨j, hj, rfl⟩ := mem_getD ha
    rw [List.length_map, Array.length_toList] at hj
    rw [← numAt_eq]; exact h2 j (by omega)
end
section
variable {X : Cx}
theorem cr_maxT (hc : X.calm = true) : CallR X (.builtin "max") (fun vs H Q => ∃ (a : Addr) (ns : List Int), vs = [V.ref a] ∧ SqT X.K H a (ns.map V.int) ∧ 0 < ns.length ∧ ∀ m, m ∈ ns → (∀ y, y ∈ ns → y ≤ m) → Q (.int m) H) := by
  intro pins s σ H vs us Q I r h
  obtain ⟨a, ns, rfl, hs, hne, q⟩ := h
  obtain ⟨its, rv, hl, _⟩ := I.tuple hs
  rw [Vals.ref1 r]
  exact max_rawT (I.ok.hd hc) (show s.heap.IsTuple a its.toArray from hl) rv.ints hne fun h' tk m t' hk h1 h2 => ⟨.int _, H, I.kept hk, ⟨_, rfl⟩, q m h1 h2⟩
theorem cr_minT (hc : X.calm = true) : CallR X (.builtin "min") (fun vs H Q => ∃ (a : Addr) (ns : List Int), vs = [V.ref a] ∧ SqT X.K H a (ns.map V.int) ∧ 0 < ns.length ∧ ∀ m, m ∈ ns → (∀ y, y ∈ ns → m ≤ y) → Q (.int m) H) := by
  intro pins s σ H vs us Q I r h
  obtain ⟨a, ns, rfl, hs, hne, q⟩ := h
  obtain ⟨its, rv, hl, _⟩ := I.tuple hs
  rw [Vals.ref1 r]
  exact min_rawT (I.ok.hd hc) (show s.heap.IsTuple a its.toArray from hl) rv.ints hne fun h' tk m t' hk h1 h2 => ⟨.int _, H, I.kept hk, ⟨_, rfl⟩, q m h1 h2⟩
end
end PV

/-! a tuple times one is the tuple -/
namespace PV
open PySem PySem.Spec PyProof.Rows L2
theorem tuple_mul1 (l : Addr) (items : Array Value) (n : Nat) (dd : Option Addr) (sl : Array (Option Value)) (u : Tok) :
    Meets (Builtin.«tuple.__mul__» ⟨[.ref l, .int 1 u], []⟩) (fun _ R s => s.heap.get? l = some { cls := .type "tuple", dict := dd, data := .seq items n, slots := sl } ∧
      R (.ok (.ret (Value.ref l))) s) :=
  .of_wp fun prog w A R s h => by
    obtain ⟨hp, g, d, tk, os⟩ := s
    obtain ⟨hl, h⟩ := h
    have f1 := AutoSeq1.idx_int
    have c0 : (decide ((1 : Int) < -(2 ^ 63)) || decide ((1 : Int) ≥ 2 ^ 63)) = false := by decide
    have c1 : (items.isEmpty || (1 : Int) == 1) = true := by rw [Bool.or_eq_true]; exact .inr rfl
    wp_walk using wpAny_loadPart' hl
    repeat (first
      | (refine wpAny_ite_false (decide_eq_false (by rw [c0]; exact Bool.false_ne_true)) ?_; wp_walk using wpAny_loadPart' hl)
      | (refine wpAny_ite_true (decide_eq_true (by rw [c1])) ?_; wp_walk using wpAny_loadPart' hl))
    all_goals first | exact ⟨_, rfl, h⟩ | skip
section
variable {X : Cx}
theorem op_repT1 : OpR X (binaryOp .Mult) (fun x y H Q => ∃ l xs, x = .ref l ∧ y = .int 1 ∧ SqT X.K H l xs ∧ Q (.ref l) H) := by
  intro pins s σ H x y v u Q I rx ry h
  obtain ⟨l, xs, rfl, rfl, hT, q⟩ := h
  cases rx
  obtain ⟨t, rfl⟩ := ry
  obtain ⟨its, r, ⟨⟨cls, dd, data, sl⟩, ho, hc, n, hd⟩, hs⟩ := I.tuple hT
  simp only at hc hd
  subst hc hd
  exact wpAny_binaryOp_repeat_ref (T := "tuple") (U := "int") (by decide) ⟨_, ho, rfl⟩ (fun s' => typeIs_int s' 1 t) noFill_tuple_mul F.fills_int_mul F.slot_int_rmul repeat_tuple F.slot_int_index.lookup
    (call_meets F.slot_int_rmul (typeIs_int s 1 t) F.entry_int_rmul (F.args_int_rmul_2 _ _) (int_rmul_tuple 1 t l its.toArray n dd sl)
      ⟨ho, rfl, ⟨_, ho, rfl⟩, call_meets F.slot_tuple_mul ⟨_, ho, rfl⟩ F.entry_tuple_mul (F.args_tuple_mul_2 _ _) (tuple_mul1 l its.toArray n dd sl t) ⟨ho, .ref l, H, I, rfl, q⟩⟩)
end
end PV

namespace PV
open PySem PySem.Spec PyProof.Rows L2
section
variable {c : Cb} {W : Addr → Prop} {H : Hp} {v : V} {ds : List D}
theorem RpT.non (h : RpT c W H v .non) : v = .non := by
  rcases h with h | ⟨_, _, _, _, e, _, _⟩
  · cases h; rfl
  · cases e
theorem RpT.bl {b : Bool} (h : RpT c W H v (.bl b)) : v = .bl b := by
  rcases h with h | ⟨_, _, _, _, e, _, _⟩
  · cases h; rfl
  · cases e
theorem RpT.int {i : Int} (h : RpT c W H v (.int i)) : v = .int i := by
  rcases h with h | ⟨_, _, _, _, e, _, _⟩
  · cases h; rfl
  · cases e
theorem RpT.str {x : Str} (h : RpT c W H v (.str x)) : v = .str x := by
  rcases h with h | ⟨_, _, _, _, e, _, _⟩
  · cases h; rfl
  · cases e
theorem RpT.lst (h : RpT c W H v (.lst ds)) : ∃ a vs, v = .ref a ∧ H a = some (.lst vs) ∧ Rps c W H vs ds := by
  rcases h with h | ⟨a, vs, _, e1, e2, _, e3, e4⟩
  · cases h with
    | lst h hw hl ha => exact ⟨_, _, rfl, h, hl, ha⟩
  · cases e2; exact ⟨a, vs, e1, e3, e4⟩
theorem RpT.tup (h : RpT c W H v (.tup ds)) : ∃ a vs, v = .ref a ∧ StT c W H a vs ∧ Rps c W H vs ds := by
  rcases h with h | ⟨_, _, _, _, e, _, _⟩
  · cases h with
    | tup h hl ha => exact ⟨_, _, rfl, h, hl, ha⟩
  · cases e
theorem RpT.dct {ds : List (Str × D)} (h : RpT c W H v (.dct ds)) : ∃ a vs, v = .ref a ∧ H a = some (.dK vs) ∧ vs.length = ds.length := by
  rcases h with h | ⟨_, _, _, _, e, _, _⟩
  · cases h with
    | dct h hw hl hk ha => exact ⟨_, _, rfl, h, hl⟩
  · cases e
theorem RpT.box (h : RpT c W H v .box) : v = .ref c.bx := by
  rcases h with h | ⟨_, _, _, _, e, _, _⟩
  · cases h; rfl
  · cases e
theorem Rp.t {d : D} (h : Rp c W H v d) : RpT c W H v d := .inl h
/-- what is held back stands in the heap -/
def Hold (W : Addr → Prop) (H : Hp) : Prop := ∀ a, W a → ∃ o, H a = some o
theorem Hold.no {p : Addr} (h : Hold W H) (n : H p = none) : ¬ W p := fun z => by
  obtain ⟨o, e⟩ := h p z
  rw [n] at e; cases e
theorem Hold.to {H' : Hp} (h : Hold W H) (k : Same H H') : Hold W H' := fun a z => by
  obtain ⟨o, e⟩ := h a z
  exact ⟨o, k a o e⟩
theorem kp_same {H' : Hp} (k : Same H H') : Kp W W H H' := fun a o e n => ⟨k a o e, n⟩
theorem same_new {p : Addr} {o : HO} (n : H p = none) : Same H (L2.upd H p o) := fun a x e => by
  rw [upd_ne (ne_of_none e n)]; exact e
theorem Rp.newL {p : Addr} {vs : List V} (hW : Hold W H) (n : H p = none) (r : Rps c W H vs ds) : Rp c W (L2.upd H p (.lst vs)) (.ref p) (.lst ds) :=
  .lst upd_same (hW.no n) r.1 (r.to (kp_same (same_new n))).2
theorem Rp.newT {p : Addr} {vs : List V} (hW : Hold W H) (n : H p = none) (r : Rps c W H vs ds) : Rp c W (L2.upd H p (.tup vs)) (.ref p) (.tup ds) :=
  .tup (.inl ⟨upd_same, hW.no n⟩) r.1 (r.to (kp_same (same_new n))).2
end
theorem big_line {n : Nat} (h : n ≤ big) : n ≤ sizeLine := by
  rw [sizeLine_eq]; unfold big at h; omega

/-- an operation on data: what its rule asks -/
def rD2 (c : Cb) (f : D → D → Option D) : R2 := fun x y H Q => ∃ (W : Addr → Prop) (a b d : D), Hold W H ∧ RpT c W H x a ∧ RpT c W H y b ∧ f a b = some d ∧ ∀ v H', Same H H' → Rp c W H' v d → Q v H'
def rB2 (c : Cb) (f : D → D → Option Bool) : R2 := fun x y H Q => ∃ (W : Addr → Prop) (a b : D) (d : Bool), RpT c W H x a ∧ RpT c W H y b ∧ f a b = some d ∧ Q (.bl d) H
section
variable {X : Cx}
theorem op_fdivG : OpR X (binaryOp .FloorDiv) (rI (fun _ j => divOk j = true) fun i j => .int (i.fdiv j)) := opI fun i j _ _ _ _ _ hc q => by
  unfold divOk at hc
  simp only [Bool.and_eq_true, decide_eq_true_eq] at hc
  exact floordiv_int hc.1 q (.inl (PyProof.noPylong_of_log2 hc.2))
theorem mulOk_of {i j : Int} (h : mulOk i j = true) : CMulW i j := by
  unfold mulOk at h
  have h2 := of_decide_eq_true h
  exact h2
def opOf : Op2 → Operator
  | .add => .Add | .sub => .Sub | .mul => .Mult | .fdiv => .FloorDiv | .mod => .Mod | .pow => .Pow
theorem op_bin (o : Op2) (b : Cb) (hK : b.K = X.K) : OpR X (binaryOp (opOf o)) (rD2 b (binD o)) := by
  intro pins s σ H x y v u Q I rx ry h
  obtain ⟨W, da, db, d, hW, ha, hb, e, q⟩ := h
  cases o with
  | add =>
    cases da <;> cases db <;> simp only [binD] at e <;> try (cases e; done)
    · cases e
      exact op_add pins s σ H x y v u Q I rx ry ⟨_, _, ha.int, hb.int, q _ H (fun _ _ z => z) (.int _)⟩
    · rename_i xs ys
      split at e
      · rename_i hle
        cases e
        obtain ⟨a, vs, e1, h1, r1⟩ := ha.tup
        obtain ⟨a2, vs2, e2, h2, r2⟩ := hb.tup
        refine op_catA pins s σ H x y v u Q I rx ry ⟨a, a2, vs, vs2, e1, e2, hK ▸ h1.sq, hK ▸ h2.sq, by rw [r1.1, r2.1]; exact big_line hle, fun z => ?_, fun z z2 => ?_, fun z z2 p np => ?_⟩
        · subst z
          obtain rfl : xs = [] := List.eq_nil_of_length_eq_zero r1.1.symm
          exact q _ H (fun _ _ z => z) (.tup h2 r2.1 r2.2)
        · subst z2
          obtain rfl : ys = [] := List.eq_nil_of_length_eq_zero r2.1.symm
          rw [List.append_nil] at q
          exact q _ H (fun _ _ z => z) (.tup h1 r1.1 r1.2)
        · exact q _ _ (same_new np) (.newT hW np (r1.append r2))
      · cases e
    · rename_i xs ys
      split at e
      · rename_i hle
        cases e
        obtain ⟨a, vs, e1, h1, r1⟩ := ha.lst
        obtain ⟨a2, vs2, e2, h2, r2⟩ := hb.lst
        exact op_cat pins s σ H x y v u Q I rx ry ⟨a, a2, vs, vs2, e1, e2, h1, h2, by rw [r1.1, r2.1]; exact big_line hle, fun p np => q _ _ (same_new np) (.newL hW np (r1.append r2))⟩
      · cases e
  | sub =>
    cases da <;> cases db <;> simp only [binD] at e <;> try (cases e; done)
    cases e
    exact op_sub pins s σ H x y v u Q I rx ry ⟨_, _, ha.int, hb.int, q _ H (fun _ _ z => z) (.int _)⟩
  | mul =>
    cases da <;> cases db <;> simp only [binD] at e <;> try (cases e; done)
    · split at e
      · rename_i hc
        cases e
        exact op_mulW pins s σ H x y v u Q I rx ry ⟨_, _, ha.int, hb.int, mulOk_of hc, q _ H (fun _ _ z => z) (.int _)⟩
      · cases e
    · rename_i xs k
      split at e
      · rename_i hc
        cases e
        obtain ⟨a, vs, e1, h1, r1⟩ := ha.tup
        by_cases k1 : k = 1
        · subst k1
          refine op_repT1 pins s σ H x y v u Q I rx ry ⟨a, vs, e1, hb.int, hK ▸ h1.sq, ?_⟩
          have q2 := q x H (fun _ _ z => z)
          rw [e1] at q2
          refine q2 ?_
          show Rp b W H (.ref a) (.tup (xs ++ []))
          rw [List.append_nil]
          exact .tup h1 r1.1 r1.2
        refine op_repT pins s σ H x y v u Q I rx ry ⟨a, k, vs, e1, hb.int, hK ▸ h1.sq, fun z => ?_, by omega, hc.2.2.1, by rw [r1.1]; exact hc.2.2.2, fun p np => q _ _ (same_new np) (.newT hW np ?_)⟩
        · subst z
          exact hc.1 (List.eq_nil_of_length_eq_zero r1.1.symm)
        · have : ∀ n : Nat, Rps b W H (List.replicate n vs).flatten (List.replicate n xs).flatten := fun n => by
            induction n with
            | zero => exact .nil
            | succ n ih => rw [List.replicate_succ, List.replicate_succ, List.flatten_cons, List.flatten_cons]; exact r1.append ih
          exact this _
      · cases e
    · rename_i xs k
      split at e
      · rename_i hc
        cases e
        obtain ⟨a, vs, e1, h1, r1⟩ := ha.lst
        refine op_rep pins s σ H x y v u Q I rx ry ⟨a, k, vs, e1, hb.int, h1, by omega, by omega, by rw [r1.1]; exact big_line hc.2.2, fun p np => q _ _ (same_new np) (.newL hW np ?_)⟩
        have : ∀ n : Nat, Rps b W H (List.replicate n vs).flatten (List.replicate n xs).flatten := fun n => by
          induction n with
          | zero => exact .nil
          | succ n ih => rw [List.replicate_succ, List.replicate_succ, List.flatten_cons, List.flatten_cons]; exact r1.append ih
        exact this _
      · cases e
  | fdiv =>
    cases da <;> cases db <;> simp only [binD] at e <;> try (cases e; done)
    split at e
    · rename_i hc
      cases e
      exact op_fdivG pins s σ H x y v u Q I rx ry ⟨_, _, ha.int, hb.int, hc, q _ H (fun _ _ z => z) (.int _)⟩
    · cases e
  | mod =>
    cases da <;> cases db <;> simp only [binD] at e <;> try (cases e; done)
    split at e
    · cases e
    · rename_i hc
      cases e
      exact op_modN pins s σ H x y v u Q I rx ry ⟨_, _, ha.int, hb.int, hc, q _ H (fun _ _ z => z) (.int _)⟩
  | pow =>
    cases da <;> cases db <;> simp only [binD] at e <;> try (cases e; done)
    split at e
    · rename_i hc
      unfold powOk at hc
      simp only [Bool.and_eq_true, decide_eq_true_eq] at hc
      cases e
      exact op_pow pins s σ H x y v u Q I rx ry ⟨_, _, ha.int, hb.int, ⟨hc.1.1, hc.1.2, hc.2⟩, q _ H (fun _ _ z => z) (.int _)⟩
    · cases e

/-! ### comparisons -/
theorem toPys_cons {d : D} {ds : List D} {ps : List PyData} (e : toPys (d :: ds) = some ps) : ∃ a b, ps = a :: b ∧ toPy d = some a ∧ toPys ds = some b := by
  unfold toPys at e
  cases h1 : toPy d with
  | none => rw [h1] at e; cases e
  | some a =>
    cases h2 : toPys ds with
    | none => rw [h1, h2] at e; cases e
    | some b => rw [h1, h2] at e; cases e; exact ⟨a, b, rfl, rfl, rfl⟩
theorem dpAll_of {K : PySem.W.Frag} {H : Hp} : ∀ {ds : List D} {vs : List V} {ps : List PyData}, toPys ds = some ps → vs.length = ds.length →
    (∀ (i : Nat) (v : V) (d : D), vs[i]? = some v → ds[i]? = some d → ∀ p, toPy d = some p → Dp K H v p) → DpAll K H vs ps
  | [], vs, ps, e, hl, _ => by
    unfold toPys at e
    cases e
    obtain rfl : vs = [] := List.eq_nil_of_length_eq_zero hl
    exact .nil
  | d :: ds, [], ps, e, hl, _ => by cases hl
  | d :: ds, v :: vs, ps, e, hl, h => by
    obtain ⟨a, b, rfl, h1, h2⟩ := toPys_cons e
    exact .cons (h 0 v d rfl rfl a h1) (dpAll_of h2 (by simpa using hl) fun i v' d' e1 e2 => h (i + 1) v' d' (by simpa using e1) (by simpa using e2))
theorem Rp.dp {c : Cb} {W : Addr → Prop} {H : Hp} {v : V} {d : D} (h : Rp c W H v d) : ∀ p, toPy d = some p → Dp c.K H v p := by
  induction h with
  | non => intro p e; unfold toPy at e; cases e; exact .non
  | bl b => intro p e; unfold toPy at e; cases e; exact .bl b
  | int i => intro p e; unfold toPy at e; cases e; exact .int i
  | str x => intro p e; unfold toPy at e; cases e; exact .str x
  | @tup a vs ds h hl _ ih =>
    intro p e
    unfold toPy at e
    cases h2 : toPys ds with
    | none => rw [h2] at e; cases e
    | some ps => rw [h2] at e; cases e; exact .tup h.sq (dpAll_of h2 hl ih)
  | @lst a vs ds h hw hl _ ih =>
    intro p e
    unfold toPy at e
    cases h2 : toPys ds with
    | none => rw [h2] at e; cases e
    | some ps => rw [h2] at e; cases e; exact .lst (.of h) (dpAll_of h2 hl ih)
  | dct h hw hl hk _ ih => intro p e; unfold toPy at e; cases e
  | box => intro p e; unfold toPy at e; cases e
  | fn i => intro p e; unfold toPy at e; cases e
theorem RpT.dp {c : Cb} {W : Addr → Prop} {H : Hp} {v : V} {d : D} (h : RpT c W H v d) {p : PyData} (e : toPy d = some p) : Dp c.K H v p := by
  rcases h with h | ⟨a, vs, ds, rfl, rfl, _, h1, h2⟩
  · exact h.dp p e
  · unfold toPy at e
    cases h3 : toPys ds with
    | none => rw [h3] at e; cases e
    | some ps => rw [h3] at e; cases e; exact .lst (.of h1) (dpAll_of h3 h2.1 fun i v d e1 e2 => (h2.2 i v d e1 e2).dp)
def cpOf : Cp → CmpOp
  | .lt => .Lt | .le => .LtE | .gt => .Gt | .ge => .GtE | .eq => .Eq | .ne => .NotEq | .is => .Is | .isNot => .IsNot
theorem eqD_cases {a b : D} {k : Bool} (e : eqD a b = some k) : (∃ i j, a = .int i ∧ b = .int j ∧ k = decide (i = j)) ∨ ∃ x y, toPy a = some x ∧ toPy b = some y ∧ SeqAt.shaped x = true ∧ SeqAt.shaped y = true ∧ k = PyData.eqv x y := by
  unfold eqD at e
  split at e
  · cases e; exact .inl ⟨_, _, rfl, rfl, rfl⟩
  · split at e
    · rename_i x y h1 h2
      split at e
      · rename_i h3
        cases e
        have h4 := Bool.and_eq_true_iff.mp h3
        exact .inr ⟨x, y, h1, h2, h4.1, h4.2, rfl⟩
      · cases e
    · cases e
theorem RpT.isNon {c : Cb} {W : Addr → Prop} {H : Hp} {v : V} {d : D} (h : RpT c W H v d) : decide (v = .non) = isNonD d := by
  rcases h with h | ⟨a, vs, ds, rfl, rfl, _⟩
  · cases h <;> rfl
  · rfl
theorem op_cp (o : Cp) (b : Cb) (hK : b.K = X.K) (hu : X.A.units + 64 < cLine) : OpR X (compareOp (cpOf o)) (rB2 b (cpD o)) := by
  intro pins s σ H x y v u Q I rx ry h
  obtain ⟨W, da, db, d, ha, hb, e, q⟩ := h
  have ev : ∀ {k : Bool}, eqD da db = some k → ∃ p1 p2, Dp X.K H x p1 ∧ Dp X.K H y p2 ∧ SeqAt.shaped p1 = true ∧ SeqAt.shaped p2 = true ∧ k = PyData.eqv p1 p2 := fun {k} e => by
    rcases eqD_cases e with ⟨i, j, rfl, rfl, rfl⟩ | ⟨p1, p2, h1, h2, s1, s2, rfl⟩
    · rw [ha.int, hb.int]
      refine ⟨.int i, .int j, .int i, .int j, rfl, rfl, ?_⟩
      show decide (i = j) = (i == j)
      rw [Bool.beq_eq_decide_eq]
    · exact ⟨p1, p2, hK ▸ ha.dp h1, hK ▸ hb.dp h2, s1, s2, rfl⟩
  cases o with
  | eq =>
    obtain ⟨p1, p2, h1, h2, s1, s2, rfl⟩ := ev e
    exact op_eqD hu pins s σ H x y v u Q I rx ry ⟨p1, p2, h1, h2, s1, s2, q⟩
  | ne =>
    have e : (eqD da db).map (!·) = some d := e
    cases h : eqD da db with
    | none => rw [h] at e; cases e
    | some k =>
      rw [h] at e
      cases e
      obtain ⟨p1, p2, h1, h2, s1, s2, rfl⟩ := ev h
      exact op_neD hu pins s σ H x y v u Q I rx ry ⟨p1, p2, h1, h2, s1, s2, q⟩
  | lt =>
    cases da <;> cases db <;> simp only [cpD] at e <;> try (cases e; done)
    cases e
    exact op_lt pins s σ H x y v u Q I rx ry ⟨_, _, ha.int, hb.int, q⟩
  | le =>
    cases da <;> cases db <;> simp only [cpD] at e <;> try (cases e; done)
    cases e
    exact op_le pins s σ H x y v u Q I rx ry ⟨_, _, ha.int, hb.int, q⟩
  | gt =>
    cases da <;> cases db <;> simp only [cpD] at e <;> try (cases e; done)
    cases e
    exact op_gt pins s σ H x y v u Q I rx ry ⟨_, _, ha.int, hb.int, q⟩
  | ge =>
    cases da <;> cases db <;> simp only [cpD] at e <;> try (cases e; done)
    cases e
    exact op_ge pins s σ H x y v u Q I rx ry ⟨_, _, ha.int, hb.int, q⟩
  | «is» =>
    have isN : db = .non → Q (.bl (isNonD da)) H → wpAny (model X.prog X.w) X.A (compareOp .Is v u) (EP X pins σ Q) X.xe s := fun z q => by
      subst z
      exact op_isN pins s σ H x y v u Q I rx ry ⟨hb.non, by rw [ha.isNon]; exact q⟩
    cases da <;> cases db <;> simp only [cpD] at e <;> first
      | (cases e; done)
      | (cases e; exact isN rfl q)
      | (cases e; exact op_isBl pins s σ H x y v u Q I rx ry ⟨_, _, ha.bl, hb.bl, q⟩)
  | isNot =>
    have isN : db = .non → Q (.bl (!isNonD da)) H → wpAny (model X.prog X.w) X.A (compareOp .IsNot v u) (EP X pins σ Q) X.xe s := fun z q => by
      subst z
      exact op_notN pins s σ H x y v u Q I rx ry ⟨hb.non, by rw [ha.isNon]; exact q⟩
    cases da <;> cases db <;> simp only [cpD] at e <;> first
      | (cases e; done)
      | (cases e; exact isN rfl q)
      | (cases e; exact op_notBl pins s σ H x y v u Q I rx ry ⟨_, _, ha.bl, hb.bl, q⟩)

/-! ### built-in functions and types -/
def RpTs (c : Cb) (W : Addr → Prop) (H : Hp) (vs : List V) (ds : List D) : Prop :=
  vs.length = ds.length ∧ ∀ (i : Nat) (v : V) (d : D), vs[i]? = some v → ds[i]? = some d → RpT c W H v d
theorem RpTs.one {c : Cb} {W : Addr → Prop} {H : Hp} {vs : List V} {d : D} (h : RpTs c W H vs [d]) : ∃ v, vs = [v] ∧ RpT c W H v d := by
  match vs, h with
  | [v], h => exact ⟨v, rfl, h.2 0 v d rfl rfl⟩
  | [], h => exact absurd h.1 (by simp)
  | _ :: _ :: _, h => exact absurd h.1 (by simp)
theorem RpTs.two {c : Cb} {W : Addr → Prop} {H : Hp} {vs : List V} {d e : D} (h : RpTs c W H vs [d, e]) : ∃ v w, vs = [v, w] ∧ RpT c W H v d ∧ RpT c W H w e := by
  match vs, h with
  | [v, w], h => exact ⟨v, w, rfl, h.2 0 v d rfl rfl, h.2 1 w e rfl rfl⟩
  | [], h => exact absurd h.1 (by simp)
  | [_], h => exact absurd h.1 (by simp)
  | _ :: _ :: _ :: _, h => exact absurd h.1 (by simp)
def rDs (c : Cb) (f : List D → Option D) : List V → Hp → VK → Prop := fun vs H Q => ∃ (W : Addr → Prop) (ds : List D) (d : D), Hold W H ∧ RpTs c W H vs ds ∧ f ds = some d ∧ ∀ v H', Same H H' → Rp c W H' v d → Q v H'
def bltV : Bt → Value
  | .len => .builtin "len" | .tuple => .type "tuple" | .list => .type "list" | .all => .builtin "all" | .any => .builtin "any" | .abs => .builtin "abs" | .int => .type "int"
  | .max2 => .builtin "max" | .min2 => .builtin "min" | .sum => .builtin "sum" | .gcd => .builtin "math.gcd"
theorem bls_of : ∀ {ds : List D} {l : List Bool} {c : Cb} {W : Addr → Prop} {H : Hp} {vs : List V}, bls? ds = some l → Rps c W H vs ds → vs = l.map V.bl
  | [], l, c, W, H, vs, e, h => by unfold bls? at e; cases e; exact h.inv_nil
  | d :: ds, l, c, W, H, vs, e, h => by
    obtain ⟨v, vs', rfl, h1, h2⟩ := h.inv_cons
    cases d with
    | bl b =>
      unfold bls? at e
      cases z : bls? ds with
      | none => rw [z] at e; cases e
      | some l' =>
        rw [z] at e
        cases e
        rw [bls_of z h2, h1.t.bl]
        rfl
    | _ => unfold bls? at e; cases e
theorem minI_spec : ∀ {ys : List Int} {x : Int}, minI x ys ∈ x :: ys ∧ ∀ z ∈ x :: ys, minI x ys ≤ z
  | [], x => ⟨List.mem_cons_self, fun z hz => by rw [List.mem_singleton.mp hz]; exact Int.le_refl _⟩
  | y :: ys, x => by
    unfold minI
    have h := minI_spec (ys := ys) (x := if y < x then y else x)
    refine ⟨?_, fun z hz => ?_⟩
    · rcases List.mem_cons.mp h.1 with e | e
      · rw [e]; split <;> simp
      · exact List.mem_cons_of_mem _ (List.mem_cons_of_mem _ e)
    · have h0 := h.2 _ List.mem_cons_self
      rcases List.mem_cons.mp hz with rfl | hz
      · split at h0 <;> rename_i c <;> simp only [c, if_true, if_false] <;> omega
      · rcases List.mem_cons.mp hz with rfl | hz
        · split at h0 <;> rename_i c <;> simp only [c, if_true, if_false] <;> omega
        · exact h.2 z (List.mem_cons_of_mem _ hz)
theorem maxI_spec : ∀ {ys : List Int} {x : Int}, maxI x ys ∈ x :: ys ∧ ∀ z ∈ x :: ys, z ≤ maxI x ys
  | [], x => ⟨List.mem_cons_self, fun z hz => by rw [List.mem_singleton.mp hz]; exact Int.le_refl _⟩
  | y :: ys, x => by
    unfold maxI
    have h := maxI_spec (ys := ys) (x := if y > x then y else x)
    refine ⟨?_, fun z hz => ?_⟩
    · rcases List.mem_cons.mp h.1 with e | e
      · rw [e]; split <;> simp
      · exact List.mem_cons_of_mem _ (List.mem_cons_of_mem _ e)
    · have h0 := h.2 _ List.mem_cons_self
      rcases List.mem_cons.mp hz with rfl | hz
      · split at h0 <;> rename_i c <;> simp only [c, if_true, if_false] <;> omega
      · rcases List.mem_cons.mp hz with rfl | hz
        · split at h0 <;> rename_i c <;> simp only [c, if_true, if_false] <;> omega
        · exact h.2 z (List.mem_cons_of_mem _ hz)
theorem minI_eq {x m : Int} {ys : List Int} (h1 : m ∈ x :: ys) (h2 : ∀ z, z ∈ x :: ys → m ≤ z) : m = minI x ys := Int.le_antisymm (h2 _ minI_spec.1) (minI_spec.2 _ h1)
theorem maxI_eq {x m : Int} {ys : List Int} (h1 : m ∈ x :: ys) (h2 : ∀ z, z ∈ x :: ys → z ≤ m) : m = maxI x ys := Int.le_antisymm (maxI_spec.2 _ h1) (h2 _ maxI_spec.1)
theorem ints_of : ∀ {ds : List D} {l : List Int} {c : Cb} {W : Addr → Prop} {H : Hp} {vs : List V}, ints? ds = some l → Rps c W H vs ds → vs = l.map V.int
  | [], l, c, W, H, vs, e, h => by unfold ints? at e; cases e; exact h.inv_nil
  | d :: ds, l, c, W, H, vs, e, h => by
    obtain ⟨v, vs', rfl, h1, h2⟩ := h.inv_cons
    cases d with
    | int b =>
      unfold ints? at e
      cases z : ints? ds with
      | none => rw [z] at e; cases e
      | some l' =>
        rw [z] at e
        cases e
        rw [ints_of z h2, h1.t.int]
        rfl
    | _ => unfold ints? at e; cases e
theorem call_blt (o : Bt) (b : Cb) (hK : b.K = X.K) (hc : X.calm = true) : CallR X (bltV o) (rDs b (bltD o)) := by
  intro pins s σ H xs us Q I r h
  obtain ⟨W, ds, d, hW, hd, e, q⟩ := h
  have sm : Same H H := fun _ _ z => z
  cases o with
  | len =>
    unfold bltD at e
    split at e <;> try (cases e; done)
    all_goals (rename_i h1; try (cases h1; done))
    · cases e
      obtain ⟨v, rfl, hv⟩ := hd.one
      obtain ⟨a, vs, rfl, h1, r1⟩ := hv.lst
      exact call_len_seq pins s σ H _ us Q I r ⟨a, vs, rfl, .inl (.of h1), by rw [r1.1]; exact q _ H sm (.int _)⟩
    · cases e
      obtain ⟨v, rfl, hv⟩ := hd.one
      obtain ⟨a, vs, rfl, h1, r1⟩ := hv.tup
      exact call_len_seq pins s σ H _ us Q I r ⟨a, vs, rfl, .inr (hK ▸ h1.sq), by rw [r1.1]; exact q _ H sm (.int _)⟩
    · cases e
      obtain ⟨v, rfl, hv⟩ := hd.one
      obtain ⟨a, vs, rfl, h1, h2⟩ := hv.dct
      exact call_lenD pins s σ H _ us Q I r ⟨a, vs, rfl, h1, by rw [h2]; exact q _ H sm (.int _)⟩
    · split at e
      · rename_i hle
        cases e
        obtain ⟨v, rfl, hv⟩ := hd.one
        rw [hv.str] at r
        exact call_len_str pins s σ H _ us Q I r ⟨_, rfl, big_line hle, q _ H sm (.int _)⟩
      · cases e
  | tuple =>
    unfold bltD at e
    split at e <;> try (cases e; done)
    all_goals (rename_i h1; try (cases h1; done))
    · cases e
      obtain ⟨v, rfl, hv⟩ := hd.one
      obtain ⟨a, vs, rfl, h1, r1⟩ := hv.lst
      exact call_tuple_of pins s σ H _ us Q I r ⟨a, vs, rfl, .inl ⟨.of h1, fun p np => q _ _ (same_new np) (.newT hW np r1)⟩⟩
    · cases e
      obtain ⟨v, rfl, hv⟩ := hd.one
      obtain ⟨a, vs, rfl, h1, r1⟩ := hv.tup
      exact call_tuple_of pins s σ H _ us Q I r ⟨a, vs, rfl, .inr ⟨hK ▸ h1.sq, q _ H sm (.tup h1 r1.1 r1.2)⟩⟩
  | list =>
    unfold bltD at e
    split at e <;> try (cases e; done)
    all_goals (rename_i h1; try (cases h1; done))
    · cases e
      obtain ⟨v, rfl, hv⟩ := hd.one
      obtain ⟨a, vs, rfl, h1, r1⟩ := hv.lst
      exact call_list_of pins s σ H _ us Q I r ⟨a, vs, rfl, .inl (.of h1), fun p np => q _ _ (same_new np) (.newL hW np r1)⟩
    · cases e
      obtain ⟨v, rfl, hv⟩ := hd.one
      obtain ⟨a, vs, rfl, h1, r1⟩ := hv.tup
      exact call_list_of pins s σ H _ us Q I r ⟨a, vs, rfl, .inr (hK ▸ h1.sq), fun p np => q _ _ (same_new np) (.newL hW np r1)⟩
  | all =>
    unfold bltD at e
    split at e <;> try (cases e; done)
    all_goals (rename_i h1; try (cases h1; done))
    rename_i xs' 
    cases z : bls? xs' with
    | none => rw [z] at e; cases e
    | some l =>
      rw [z] at e
      cases e
      obtain ⟨v, rfl, hv⟩ := hd.one
      obtain ⟨a, vs, rfl, h1, r1⟩ := hv.lst
      exact cr_all hc pins s σ H _ us Q I r ⟨a, l, rfl, by rw [← bls_of z r1]; exact .of h1, q _ H sm (.bl _)⟩
  | any =>
    unfold bltD at e
    split at e <;> try (cases e; done)
    all_goals (rename_i h1; try (cases h1; done))
    rename_i xs' 
    cases z : bls? xs' with
    | none => rw [z] at e; cases e
    | some l =>
      rw [z] at e
      cases e
      obtain ⟨v, rfl, hv⟩ := hd.one
      obtain ⟨a, vs, rfl, h1, r1⟩ := hv.lst
      exact cr_any hc pins s σ H _ us Q I r ⟨a, l, rfl, by rw [← bls_of z r1]; exact .of h1, q _ H sm (.bl _)⟩
  | sum =>
    unfold bltD at e
    split at e <;> try (cases e; done)
    all_goals (rename_i h1; try (cases h1; done))
    rename_i xs' 
    cases z : ints? xs' with
    | none => rw [z] at e; cases e
    | some l =>
      rw [z] at e
      cases e
      obtain ⟨v, rfl, hv⟩ := hd.one
      obtain ⟨a, vs, rfl, h1, r1⟩ := hv.lst
      exact cr_sum hc pins s σ H _ us Q I r ⟨a, l, rfl, by rw [← ints_of z r1]; exact .of h1, q _ H sm (.int _)⟩
  | abs =>
    unfold bltD at e
    split at e <;> try (cases e; done)
    all_goals (rename_i h1; try (cases h1; done))
    cases e
    obtain ⟨v, rfl, hv⟩ := hd.one
    exact call_abs pins s σ H _ us Q I r ⟨_, by rw [hv.int], q _ H sm (.int _)⟩
  | int =>
    unfold bltD at e
    split at e <;> try (cases e; done)
    all_goals (rename_i h1; try (cases h1; done))
    · cases e
      obtain ⟨v, rfl, hv⟩ := hd.one
      exact call_int1 pins s σ H _ us Q I r (.inl ⟨_, by rw [hv.int], q _ H sm (.int _)⟩)
    · cases e
      obtain ⟨v, rfl, hv⟩ := hd.one
      exact call_int1 pins s σ H _ us Q I r (.inr ⟨_, by rw [hv.bl], q _ H sm (.int _)⟩)
  | max2 =>
    unfold bltD at e
    split at e <;> try (cases e; done)
    all_goals (rename_i h1; try (cases h1; done))
    · cases e
      obtain ⟨v, w, rfl, hv, hw⟩ := hd.two
      exact call_max2 hc pins s σ H _ us Q I r ⟨_, _, by rw [hv.int, hw.int], q _ H sm (.int _)⟩
    · rename_i xs'
      cases z : ints? xs' with
      | none => rw [z] at e; cases e
      | some l =>
        cases l with
        | nil => rw [z] at e; cases e
        | cons i l =>
          rw [z] at e
          cases e
          obtain ⟨v, rfl, hv⟩ := hd.one
          obtain ⟨a, vs, rfl, h1, r1⟩ := hv.lst
          exact cr_max hc pins s σ H _ us Q I r ⟨a, i :: l, rfl, by rw [← ints_of z r1]; exact .of h1, by simp, fun m hm hy => by rw [maxI_eq hm hy]; exact q _ H sm (.int _)⟩
    · rename_i xs'
      cases z : ints? xs' with
      | none => rw [z] at e; cases e
      | some l =>
        cases l with
        | nil => rw [z] at e; cases e
        | cons i l =>
          rw [z] at e
          cases e
          obtain ⟨v, rfl, hv⟩ := hd.one
          obtain ⟨a, vs, rfl, h1, r1⟩ := hv.tup
          exact cr_maxT hc pins s σ H _ us Q I r ⟨a, i :: l, rfl, by rw [← ints_of z r1]; exact hK ▸ h1.sq, by simp, fun m hm hy => by rw [maxI_eq hm hy]; exact q _ H sm (.int _)⟩
  | min2 =>
    unfold bltD at e
    split at e <;> try (cases e; done)
    all_goals (rename_i h1; try (cases h1; done))
    · cases e
      obtain ⟨v, w, rfl, hv, hw⟩ := hd.two
      exact call_min2 hc pins s σ H _ us Q I r ⟨_, _, by rw [hv.int, hw.int], q _ H sm (.int _)⟩
    · rename_i xs'
      cases z : ints? xs' with
      | none => rw [z] at e; cases e
      | some l =>
        cases l with
        | nil => rw [z] at e; cases e
        | cons i l =>
          rw [z] at e
          cases e
          obtain ⟨v, rfl, hv⟩ := hd.one
          obtain ⟨a, vs, rfl, h1, r1⟩ := hv.lst
          exact cr_min hc pins s σ H _ us Q I r ⟨a, i :: l, rfl, by rw [← ints_of z r1]; exact .of h1, by simp, fun m hm hy => by rw [minI_eq hm hy]; exact q _ H sm (.int _)⟩
    · rename_i xs'
      cases z : ints? xs' with
      | none => rw [z] at e; cases e
      | some l =>
        cases l with
        | nil => rw [z] at e; cases e
        | cons i l =>
          rw [z] at e
          cases e
          obtain ⟨v, rfl, hv⟩ := hd.one
          obtain ⟨a, vs, rfl, h1, r1⟩ := hv.tup
          exact cr_minT hc pins s σ H _ us Q I r ⟨a, i :: l, rfl, by rw [← ints_of z r1]; exact hK ▸ h1.sq, by simp, fun m hm hy => by rw [minI_eq hm hy]; exact q _ H sm (.int _)⟩
  | gcd =>
    unfold bltD at e
    split at e <;> try (cases e; done)
    all_goals (rename_i h1; try (cases h1; done))
    cases e
    obtain ⟨v, w, rfl, hv, hw⟩ := hd.two
    exact cr_gcd pins s σ H _ us Q I r ⟨_, _, by rw [hv.int, hw.int], q _ H sm (.int _)⟩

/-! ### isinstance -/
def tyN : Ty → String
  | .int => "int" | .bool => "bool" | .str => "str" | .tuple => "tuple" | .list => "list" | .dict => "dict"
/-- the type of a value -/
def tyD : D → Option String
  | .non => some "NoneType" | .bl _ => some "bool" | .int _ => some "int" | .str _ => some "str" | .tup _ => some "tuple" | .lst _ => some "list" | .dct _ => some "dict" | .box => some "list" | .fn _ => none
theorem tyX_of {c : Cb} {W : Addr → Prop} {H : Hp} {v : V} {d : D} {t : String} (hb : ∃ xs, H c.bx = some (.lst xs)) (h : RpT c W H v d) (e : tyD d = some t) : TyX c.K H v (.type t) := by
  cases d with
  | non => cases e; rw [h.non]; exact .base .non
  | bl b => cases e; rw [h.bl]; exact .base (.bl b)
  | int i => cases e; rw [h.int]; exact .base (.int i)
  | str x => cases e; rw [h.str]; exact .base (.str x)
  | tup xs =>
    cases e
    obtain ⟨a, vs, rfl, h1, _⟩ := h.tup
    rcases h1 with ⟨h1, _⟩ | ⟨o, _, _, h1, h2, _⟩
    · exact .base (.tup h1)
    · exact .kTuple h1 h2
  | lst xs =>
    cases e
    obtain ⟨a, vs, rfl, h1, _⟩ := h.lst
    exact .base (.lst h1)
  | dct xs =>
    cases e
    obtain ⟨a, vs, rfl, h1, _⟩ := h.dct
    exact .base (.dK h1)
  | box =>
    cases e
    obtain ⟨xs, e⟩ := hb
    rw [h.box]
    exact .base (.lst e)
  | fn i => cases e
theorem isi_kit {K : PySem.W.Frag} {d : D} {ty : Ty} {k : Bool} (e : isiD d ty = some k) : ∃ t, tyD d = some t ∧ PySem.W.kitOne K (.type t) (.type (tyN ty)) = some k := by
  cases d <;> cases ty <;> simp only [isiD, decide_true, decide_false, reduceCtorEq, Bool.or_self, Bool.or_true, Bool.true_or, Bool.or_false, Bool.false_or] at e <;> first
    | (cases e; exact ⟨_, rfl, kit_ty (by decide +kernel)⟩)
    | (cases e; done)
def rIsiD (c : Cb) (ty : Ty) : List V → Hp → VK → Prop := fun vs H Q => ∃ (W : Addr → Prop) (v : V) (d : D) (k : Bool), vs = [v, .ty (tyN ty)] ∧ (∃ xs, H c.bx = some (.lst xs)) ∧ RpT c W H v d ∧ isiD d ty = some k ∧ Q (.bl k) H
theorem call_isiD (b : Cb) (hK : b.K = X.K) (ty : Ty) : CallR X (.builtin "isinstance") (rIsiD b ty) := by
  intro pins s σ H xs us Q I r h
  obtain ⟨W, v, d, k, rfl, hb, hv, e, q⟩ := h
  obtain ⟨t, e1, e2⟩ := isi_kit (K := X.K) e
  exact call_isi pins s σ H _ us Q I r ⟨v, .ty (tyN ty), .type t, .type (tyN ty), k, rfl, .ty _, hK ▸ tyX_of hb hv e1, e2, q⟩
end
end PV

namespace PV
open PySem PySem.Spec PyProof.Rows L2
section
variable {c : Cn} {σ : Sg} {H H' : Hp} {s s' : S}
theorem SR.hold (a : SR c σ H s) : Hold (Wn c σ s.env) H := fun p h => by
  rcases h with h | ⟨i, xs, e1, e2⟩
  · exact a.there p h
  · obtain ⟨q, vs, e3, _, _, _, e4, _⟩ := a.env i _ e1
    rw [e2] at e3
    cases e3
    exact ⟨_, e4⟩
theorem gr_same {b : Addr} (k : Same H H') : Gr b H H' := fun a o e _ => k a o e
theorem SlOk.to {W W' : Addr → Prop} {v : Option (Option V)} {x : Sl} (k : Kp W W' H H') (g : Gr c.bx H H') (h : SlOk c W H v x) : SlOk c W' H' v x := by
  cases x with
  | no => trivial
  | v d =>
    obtain ⟨u, e, r⟩ := h
    exact ⟨u, e, r.to k⟩
  | own xs =>
    obtain ⟨a, vs, e, n0, nb, nw, e2, r⟩ := h
    exact ⟨a, vs, e, n0, nb, nw, g _ _ e2 nb, r.to k⟩
/-- the heap grows but for the box -/
theorem SR.gr (a : SR c σ H s) {b' : Bx} (g : Gr c.bx H H') (hb : H' c.bx = some (boxHO b')) : SR c σ H' { s with bx := b' } where
  ext := a.ext.trans g
  len := a.len
  env := fun i x e => (a.env i x e).to (fun p o e n => ⟨g p o e fun z => n (.inl (by rw [z]; exact a.wbx)), n⟩) g
  apart := a.apart
  box := hb
  there := fun p h => by
    by_cases z : p = c.bx
    · rw [z]; exact ⟨_, hb⟩
    · obtain ⟨o, e⟩ := a.there p h
      exact ⟨o, g p o e z⟩
  wbx := a.wbx
theorem SR.same (a : SR c σ H s) (k : Same H H') : SR c σ H' s := a.gr (b' := s.bx) (gr_same k) (k _ _ a.box)
theorem rch_same (k : Same H H') : Rch c σ H s H' s := ⟨gr_same k, fun _ h => h⟩
theorem Rch.rp (r : Rch c σ H s H' s') (a : SR c σ H s) {v : V} {d : D} (h : Rp c.toCb (Wn c σ s.env) H v d) : Rp c.toCb (Wn c σ s'.env) H' v d := h.to (r.kp a.wbx)
theorem Rch.rps (r : Rch c σ H s H' s') (a : SR c σ H s) {v : List V} {d : List D} (h : Rps c.toCb (Wn c σ s.env) H v d) : Rps c.toCb (Wn c σ s'.env) H' v d := h.to (r.kp a.wbx)
theorem Rch.rpT (r : Rch c σ H s H' s') (a : SR c σ H s) {v : V} {d : D} (h : RpT c.toCb (Wn c σ s.env) H v d) : RpT c.toCb (Wn c σ s'.env) H' v d := by
  rcases h with h | ⟨p, vs, ds, e1, e2, n, e3, e4⟩
  · exact .inl (r.rp a h)
  · exact .inr ⟨p, vs, ds, e1, e2, n, r.gr _ _ e3 n, r.rps a e4⟩
theorem Rch.rpTs (r : Rch c σ H s H' s') (a : SR c σ H s) {v : List V} {d : List D} (h : RpTs c.toCb (Wn c σ s.env) H v d) : RpTs c.toCb (Wn c σ s'.env) H' v d :=
  ⟨h.1, fun i u d e1 e2 => r.rpT a (h.2 i u d e1 e2)⟩
/-- from a later state one step back of the same data -/
theorem Post.done {α β : Type} {rel : Rel α β} {x : Ex} {W : WX} {o : Option α} {Q : β → Hp → Prop} (h : Post rel x c W σ H s (optR o s) Q) (a : SR c σ H s) :
    ∃ d, o = some d ∧ ∀ v H', Same H H' → rel (Wn c σ s.env) H' v d → Q v H' := by
  unfold optR at h
  cases o with
  | none => exact h.elim
  | some d => exact ⟨d, rfl, fun v H' k r => h v H' (a.same k) (rch_same k) r⟩
theorem Post.keep {α β : Type} {rel : Rel α β} {x : Ex} {W : WX} {d : α} {Q : β → Hp → Prop} (h : Post rel x c W σ H s (.ok d s) Q) (a : SR c σ H s) {v : β} (k : Same H H') (r : rel (Wn c σ s.env) H' v d) : Q v H' :=
  h v H' (a.same k) (rch_same k) r

/-! ### slots -/
/-- a list of one's own is data from now on -/
theorem SR.freeze (a : SR c σ H s) {i : Nat} {xs : List D} (e : s.env[i]? = some (.own xs)) :
    SR c σ H { s with env := s.env.set i (.v (.lst xs)) } ∧ Rch c σ H s H { s with env := s.env.set i (.v (.lst xs)) } ∧ ∃ p, σ[i]? = some (some (.ref p)) ∧ Rp c.toCb (Wn c σ (s.env.set i (.v (.lst xs)))) H (.ref p) (.lst xs) := by
  obtain ⟨p, vs, e1, n0, nb, nw, e2, r⟩ := a.env i _ e
  have sh : ∀ q, Wn c σ (s.env.set i (.v (.lst xs))) q → Wn c σ s.env q ∧ q ≠ p := fun q h => by
    rcases h with h | ⟨j, ys, e3, e4⟩
    · exact ⟨.inl h, fun z => nw (z ▸ h)⟩
    · by_cases hj : i = j
      · subst hj
        rw [List.getElem?_set_self (List.getElem?_eq_some_iff.mp e).1] at e3
        cases e3
      · rw [List.getElem?_set_ne hj] at e3
        refine ⟨.inr ⟨j, ys, e3, e4⟩, fun z => ?_⟩
        subst z
        exact hj (a.apart i j xs ys _ e e3 e1 e4)
  have kp : Kp (Wn c σ s.env) (Wn c σ (s.env.set i (.v (.lst xs)))) H H := fun q o e n => ⟨e, fun z => n (sh q z).1⟩
  have np : ¬ Wn c σ (s.env.set i (.v (.lst xs))) p := fun z => (sh p z).2 rfl
  have rp : Rp c.toCb (Wn c σ (s.env.set i (.v (.lst xs)))) H (.ref p) (.lst xs) := .lst e2 np r.1 (r.to kp).2
  refine ⟨⟨a.ext, by simpa using a.len, fun j x ej => ?_, fun j k ys zs q ej ek => ?_, a.box, a.there, a.wbx⟩, ⟨.refl, fun q h => (sh q h).1⟩, p, e1, rp⟩
  · by_cases hj : i = j
    · subst hj
      have ej : (s.env.set i (.v (.lst xs)))[i]? = some x := ej
      rw [List.getElem?_set_self (List.getElem?_eq_some_iff.mp e).1] at ej
      cases ej
      exact ⟨_, e1, rp⟩
    · have ej : (s.env.set i (.v (.lst xs)))[j]? = some x := ej
      rw [List.getElem?_set_ne hj] at ej
      exact (a.env j x ej).to kp .refl
  · have back : ∀ {j : Nat} {ys : List D}, (s.env.set i (.v (.lst xs)))[j]? = some (.own ys) → s.env[j]? = some (.own ys) := fun {j ys} ej => by
      by_cases hj : i = j
      · subst hj
        rw [List.getElem?_set_self (List.getElem?_eq_some_iff.mp e).1] at ej
        cases ej
      · rw [List.getElem?_set_ne hj] at ej
        exact ej
    exact a.apart j k ys zs q (back ej) (back ek)
/-- the words of a change of slots: what is held back shrinks or is new -/
structure Mv (c : Cn) (σ : Sg) (H : Hp) (s : S) (σ' : Sg) (H' : Hp) (s' : S) : Prop where
  kp : ∀ a o, H a = some o → ¬ Wn c σ s.env a → H' a = some o
  sh : ∀ a, Wn c σ' s'.env a → Wn c σ s.env a ∨ H a = none
theorem Mv.refl : Mv c σ H s σ H s := ⟨fun _ _ e _ => e, fun _ h => .inl h⟩
theorem Mv.Kp {σ' : Sg} (m : Mv c σ H s σ' H' s') : Kp (Wn c σ s.env) (Wn c σ' s'.env) H H' := fun a o e n => ⟨m.kp a o e n, fun z => (m.sh a z).elim n fun q => by rw [q] at e; cases e⟩
theorem Mv.trans {σ1 σ2 : Sg} {H1 H2 : Hp} {s1 s2 : S} (p : Mv c σ H s σ1 H1 s1) (q : Mv c σ1 H1 s1 σ2 H2 s2) : Mv c σ H s σ2 H2 s2 where
  kp := fun a o e n => q.kp a o (p.Kp a o e n).1 (p.Kp a o e n).2
  sh := fun a h => by
    rcases q.sh a h with h | h
    · exact p.sh a h
    · cases e : H a with
      | none => exact .inr rfl
      | some o =>
        by_cases n : Wn c σ s.env a
        · exact .inl n
        · rw [(p.Kp a o e n).1] at h; cases h
theorem Rch.mv (r : Rch c σ H s H' s') (a : SR c σ H s) : Mv c σ H s σ H' s' := ⟨fun p o e n => ((r.kp a.wbx) p o e n).1, fun p h => .inl (r.sh p h)⟩
/-- data is put in a slot -/
theorem SR.put (a : SR c σ H s) {i : Nat} {v : V} {d : D} (hi : i < s.env.length) (r : Rp c.toCb (Wn c σ s.env) H v d) :
    SR c (σ.set i (some v)) H { s with env := s.env.set i (.v d) } ∧ Mv c σ H s (σ.set i (some v)) H { s with env := s.env.set i (.v d) } := by
  have hσ : i < σ.length := by rw [a.len]; exact hi
  have back : ∀ {j : Nat} {ys : List D}, (s.env.set i (.v d))[j]? = some (.own ys) → i ≠ j ∧ s.env[j]? = some (.own ys) ∧ (σ.set i (some v))[j]? = σ[j]? := fun {j ys} ej => by
    by_cases hj : i = j
    · subst hj
      rw [List.getElem?_set_self hi] at ej
      cases ej
    · rw [List.getElem?_set_ne hj] at ej
      exact ⟨hj, ej, List.getElem?_set_ne hj⟩
  have sh : ∀ q, Wn c (σ.set i (some v)) (s.env.set i (.v d)) q → Wn c σ s.env q := fun q h => by
    rcases h with h | ⟨j, ys, e3, e4⟩
    · exact .inl h
    · obtain ⟨hj, e5, e6⟩ := back e3
      rw [e6] at e4
      exact .inr ⟨j, ys, e5, e4⟩
  have kp : Kp (Wn c σ s.env) (Wn c (σ.set i (some v)) (s.env.set i (.v d))) H H := fun q o e n => ⟨e, fun z => n (sh q z)⟩
  refine ⟨⟨a.ext, by simpa using a.len, fun j x ej => ?_, fun j k ys zs q ej ek e3 e4 => ?_, a.box, a.there, a.wbx⟩, fun _ _ e _ => e, fun q h => .inl (sh q h)⟩
  · have ej : (s.env.set i (.v d))[j]? = some x := ej
    by_cases hj : i = j
    · subst hj
      rw [List.getElem?_set_self hi] at ej
      cases ej
      exact ⟨v, List.getElem?_set_self hσ, r.to kp⟩
    · rw [List.getElem?_set_ne hj] at ej ⊢
      exact (a.env j x ej).to kp .refl
  · obtain ⟨n1, e5, e6⟩ := back ej
    obtain ⟨n2, e7, e8⟩ := back ek
    rw [e6] at e3
    rw [e8] at e4
    exact a.apart j k ys zs q e5 e7 e3 e4
/-- a new list of one's own is put in a slot -/
theorem SR.putOwn (a : SR c σ H s) {i : Nat} {p : Addr} {vs : List V} {ds : List D} (hi : i < s.env.length) (e : H p = some (.lst vs)) (n0 : c.H0 p = none) (nb : p ≠ c.bx) (nw : ¬ Wn c σ s.env p)
    (r : Rps c.toCb (fun q => Wn c σ s.env q ∨ q = p) H vs ds) (free : ∀ j x, j ≠ i → s.env[j]? = some x → SlOk c (fun q => Wn c σ s.env q ∨ q = p) H σ[j]? x) :
    SR c (σ.set i (some (.ref p))) H { s with env := s.env.set i (.own ds) } ∧ ∀ q, Wn c (σ.set i (some (.ref p))) (s.env.set i (.own ds)) q → Wn c σ s.env q ∨ q = p := by
  have hσ : i < σ.length := by rw [a.len]; exact hi
  have look : ∀ {j : Nat} {ys : List D}, (s.env.set i (.own ds))[j]? = some (.own ys) → (i = j ∧ ys = ds) ∨ (i ≠ j ∧ s.env[j]? = some (.own ys) ∧ (σ.set i (some (V.ref p)))[j]? = σ[j]?) := fun {j ys} ej => by
    by_cases hj : i = j
    · subst hj
      rw [List.getElem?_set_self hi] at ej
      cases ej
      exact .inl ⟨rfl, rfl⟩
    · rw [List.getElem?_set_ne hj] at ej
      exact .inr ⟨hj, ej, List.getElem?_set_ne hj⟩
  have sh : ∀ q, Wn c (σ.set i (some (.ref p))) (s.env.set i (.own ds)) q → Wn c σ s.env q ∨ q = p := fun q h => by
    rcases h with h | ⟨j, ys, e3, e4⟩
    · exact .inl (.inl h)
    · rcases look e3 with ⟨rfl, _⟩ | ⟨hj, e5, e6⟩
      · rw [List.getElem?_set_self hσ] at e4
        cases e4
        exact .inr rfl
      · rw [e6] at e4
        exact .inl (.inr ⟨j, ys, e5, e4⟩)
  have kp : Kp (fun q => Wn c σ s.env q ∨ q = p) (Wn c (σ.set i (some (.ref p))) (s.env.set i (.own ds))) H H := fun q o e n => ⟨e, fun z => n (sh q z)⟩
  refine ⟨⟨a.ext, by simpa using a.len, fun j x ej => ?_, fun j k ys zs q ej ek e3 e4 => ?_, a.box, a.there, a.wbx⟩, sh⟩
  · have ej : (s.env.set i (.own ds))[j]? = some x := ej
    by_cases hj : i = j
    · subst hj
      rw [List.getElem?_set_self hi] at ej
      cases ej
      exact ⟨p, vs, List.getElem?_set_self hσ, n0, nb, fun z => nw (.inl z), e, r.to kp⟩
    · rw [List.getElem?_set_ne hj] at ej ⊢
      exact (free j x (Ne.symm hj) ej).to kp .refl
  · rcases look ej with ⟨h1, _⟩ | ⟨n1, e5, e6⟩
    · rcases look ek with ⟨h2, _⟩ | ⟨n2, e7, e8⟩
      · exact h1.symm.trans h2
      · subst h1
        rw [List.getElem?_set_self hσ] at e3
        cases e3
        rw [e8] at e4
        exact (nw (.inr ⟨k, zs, e7, e4⟩)).elim
    · rcases look ek with ⟨h2, _⟩ | ⟨n2, e7, e8⟩
      · subst h2
        rw [List.getElem?_set_self hσ] at e4
        cases e4
        rw [e6] at e3
        exact (nw (.inr ⟨j, ys, e5, e3⟩)).elim
      · rw [e6] at e3
        rw [e8] at e4
        exact a.apart j k ys zs q e5 e7 e3 e4
/-- one's own list is changed in place -/
theorem SR.chg (a : SR c σ H s) {i : Nat} {p : Addr} {xs : List D} {vs' : List V} {ds' : List D} (e : s.env[i]? = some (.own xs)) (ep : σ[i]? = some (some (.ref p))) (r : Rps c.toCb (Wn c σ s.env) H vs' ds') :
    SR c σ (L2.upd H p (.lst vs')) { s with env := s.env.set i (.own ds') } ∧ Mv c σ H s σ (L2.upd H p (.lst vs')) { s with env := s.env.set i (.own ds') } := by
  obtain ⟨p', vs, e1, n0, nb, nw, e2, _⟩ := a.env i _ e
  rw [ep] at e1
  cases e1
  have wp : Wn c σ s.env p := .inr ⟨i, xs, e, ep⟩
  have hi := (List.getElem?_eq_some_iff.mp e).1
  have look : ∀ {j : Nat} {ys : List D}, (s.env.set i (.own ds'))[j]? = some (.own ys) → ∃ zs, s.env[j]? = some (.own zs) := fun {j ys} ej => by
    by_cases hj : i = j
    · subst hj; exact ⟨_, e⟩
    · rw [List.getElem?_set_ne hj] at ej; exact ⟨_, ej⟩
  have sh : ∀ q, Wn c σ (s.env.set i (.own ds')) q → Wn c σ s.env q := fun q h => by
    rcases h with h | ⟨j, ys, e3, e4⟩
    · exact .inl h
    · obtain ⟨zs, e5⟩ := look e3
      exact .inr ⟨j, zs, e5, e4⟩
  have kp : Kp (Wn c σ s.env) (Wn c σ (s.env.set i (.own ds'))) H (L2.upd H p (.lst vs')) := fun q o eq n => ⟨by rw [upd_ne (fun z => n (by rw [z]; exact wp))]; exact eq, fun z => n (sh q z)⟩
  refine ⟨⟨fun q o eq n => ?_, by simpa using a.len, fun j x ej => ?_, fun j k ys zs q ej ek e3 e4 => ?_, by rw [upd_ne (Ne.symm nb)]; exact a.box, fun q h => ?_, a.wbx⟩, fun q o eq n => (kp q o eq n).1, fun q h => .inl (sh q h)⟩
  · rw [upd_ne (fun z => by rw [z, n0] at eq; cases eq)]
    exact a.ext q o eq n
  · have ej : (s.env.set i (.own ds'))[j]? = some x := ej
    by_cases hj : i = j
    · subst hj
      rw [List.getElem?_set_self hi] at ej
      cases ej
      exact ⟨p, vs', ep, n0, nb, nw, upd_same, r.to kp⟩
    · rw [List.getElem?_set_ne hj] at ej
      have q := a.env j x ej
      cases x with
      | no => trivial
      | v d =>
        obtain ⟨u, e3, r3⟩ := q
        exact ⟨u, e3, r3.to kp⟩
      | own ys =>
        obtain ⟨p2, vs2, e3, m0, mb, mw, e4, r4⟩ := q
        have ne : p2 ≠ p := fun z => hj (a.apart i j xs ys p e ej ep (by rw [e3, z]))
        exact ⟨p2, vs2, e3, m0, mb, mw, by rw [upd_ne ne]; exact e4, r4.to kp⟩
  · obtain ⟨y2, e5⟩ := look ej
    obtain ⟨z2, e6⟩ := look ek
    exact a.apart j k y2 z2 q e5 e6 e3 e4
  · by_cases hq : q = p
    · rw [hq]; exact ⟨_, upd_same⟩
    · rw [upd_ne hq]; exact a.there q h
end
end PV

namespace PV
open PySem PySem.Spec PyProof.Rows L2
/-- what of the module the matching leans on -/
structure Gd where
  fns : List Str
  ps : Nat → List Str
  kws : List (Nat × List Str × List Nat)
  free : List Str
  cons : List Str
  gcds : List Str
  exs : List Str
  flds : Nat → List Str
  bases : List Str
def dbg (x : Str) : Bool := !(x == ("__debug__" : Str)) && !(x == ("__classdict__" : Str)) && decide (x ≠ "__name__")
def glB (sc : Scope) (x : Str) : Bool := decide (sc.names.lookup x = some .globalImplicit) && dbg x
def visB (sc : Scope) (x : Str) : Bool := (decide (sc.names.lookup x = some .local) || (decide (sc.names.lookup x = some .cell) || decide (sc.names.lookup x = some .free))) && dbg x
def locB (sc : Scope) (x : Str) : Bool := decide (sc.names.lookup x = some .local) || decide (sc.names.lookup x = some .cell)
def starred : Expr → Bool
  | .Starred .. => true
  | _ => false
def isSlice : Expr → Bool
  | .Slice .. => true
  | _ => false
def isSet : Expr → Bool
  | .Set .. => true
  | _ => false
def plainTest : Expr → Bool
  | .BoolOp .. => false | .UnaryOp .. => false | .IfExp .. => false | .Compare .. => false
  | _ => true
def isCall : Expr → Bool
  | .Call .. => true
  | _ => false
def bltNm : Bt → Str
  | .len => "len" | .tuple => "tuple" | .list => "list" | .all => "all" | .any => "any" | .abs => "abs" | .int => "int" | .max2 => "max" | .min2 => "min" | .sum => "sum" | .gcd => "gcd"
def isGcd : Bt → Bool
  | .gcd => true
  | _ => false
def tyS (t : Ty) : Str := Str.ofString (tyN t)
section
variable (G : Gd) (N : List Str)
def freeB (sc : Scope) (x : Str) : Bool := glB sc x && decide (x ∈ G.free)
def slotB (i : Nat) (x : Str) : Bool := decide (N[i]? = some x)
def mTys (sc : Scope) : List Ty → List Expr → Bool
  | [], [] => true
  | t :: ts, .Name x _ :: es => decide (x = tyS t) && freeB G sc x && mTys sc ts es
  | _, _ => false
def nms : List Nat → List Expr → Bool
  | [], [] => true
  | i :: is, .Name x _ :: es => slotB N i x && nms is es
  | _, _ => false
def nmOf : Expr → Str
  | .Name x _ => x
  | _ => ""
def nmsOf : List Expr → List Str
  | [] => []
  | e :: es => nmOf e :: nmsOf es
/-- a target of a def's own -/
def mG (sc : Scope) : PTg → Expr → Bool
  | .name i, .Name x _ => slotB N i x && locB sc x
  | .tup l, .Tuple es _ _ => nms N l es && es.all (fun e => locB sc (nmOf e))
  | _, _ => false
/-- a target of a comprehension with the scope `scope` -/
def mGc (scope : Scope) : PTg → Expr → Bool
  | .name i, .Name x _ => slotB N i x && locB scope x
  | .tup l, .Tuple es _ _ => nms N l es && es.all (fun e => locB scope (nmOf e))
  | _, _ => false
def ownOf : PTg → Expr → List (Str × Nat)
  | .name i, e => [(nmOf e, i)]
  | .tup l, .Tuple es _ _ => (nmsOf es).zip l
  | _, _ => []
mutual
def mE (sc : Scope) : PX → Expr → Bool
  | .slot i, .Name x _ => slotB N i x && visB sc x
  | .glob g, .Name x _ => decide (G.cons[g]? = some x) && glB sc x
  | .hole, .SetComp .. => false
  | .hole, .ListComp .. => false
  | .hole, .DictComp .. => false
  | .hole, _ => true
  | .int i, .Constant (.int j) _ _ => decide (i = j)
  | .bl b, .Constant (.bool j) _ _ => b == j
  | .non, .Constant .none _ _ => true
  | .str x, .Constant (.str y) _ _ => decide (x = y)
  | .tup es, .Tuple l _ _ => mEs sc es l
  | .lst es, .List l _ => mEs sc es l
  | .dct0, .Dict [] [] _ => true
  | .bin o a b, .BinOp l op r _ => decide (op = opOf o) && mE sc a l && mE sc b r
  | .neg a, .UnaryOp .USub e _ => mE sc a e
  | .not a, .UnaryOp .Not e _ => mE sc a e
  | .cmp o a b, .Compare l [op] [r] _ => decide (op = cpOf o) && mE sc a l && mE sc b r
  | .chain o p a b c, .Compare l [op, op2] [m, r] _ => decide (op = cpOf o) && decide (op2 = cpOf p) && mE sc a l && mE sc b m && mE sc c r
  | .bop k es, .BoolOp op l _ => decide (op = if k then BoolOp.And else .Or) && mBs sc es l
  | .ite t a b, .IfExp c l r _ => mT sc t c && mE sc a l && mE sc b r
  | .ix a i, .Subscript l r _ => !isSlice r && mE sc a l && mE sc i r
  | .sl a, .Subscript l (.Slice none none none _) _ => mE sc a l
  | .dctN g i, .Compare (.ListComp _ [⟨t, .Name x _, _, an⟩] scope _) [op] [.List [] _] _ => decide (op = .Eq) && decide (an = 0) && blkC N sc scope (ownOf g t) && slotB N i x && visB sc x
  | .rngL p, .Call (.Name x _) [.Call (.Name y _) [e] [] _] [] _ => decide (x = "list") && freeB G sc x && decide (y = "range") && freeB G sc y && !starred e && mE sc p e
  | .slRev a, .Subscript l (.Slice none none (some (.UnaryOp .USub (.Constant (.int j) _ _) _)) _) _ => decide (j = 1) && mE sc a l
  | .slLo a lo, .Subscript l (.Slice (some x) none none _) _ => mE sc a l && mE sc lo x
  | .slHi a hi, .Subscript l (.Slice none (some y) none _) _ => mE sc a l && mE sc hi y
  | .slLH a lo hi, .Subscript l (.Slice (some x) (some y) none _) _ => mE sc a l && mE sc lo x && mE sc hi y
  | .call f args, .Call (.Name x _) l [] _ => decide (G.fns[f]? = some x) && glB sc x && l.all (fun e => !starred e) && mEs sc args l
  | .callK f kws ks perm, .Call (.Name x _) [] l _ => decide (G.fns[f]? = some x) && glB sc x && decide ((f, ks, perm) ∈ G.kws) && mKs sc kws ks l
  | .blt b args, .Call (.Name x _) l [] _ => (if isGcd b then glB sc x && decide (x ∈ G.gcds) else decide (x = bltNm b) && freeB G sc x) && l.all (fun e => !starred e) && mPs sc args l
  | .isi a t, .Call (.Name x _) [l, .Name ty _] [] _ => decide (x = "isinstance") && freeB G sc x && !starred l && mE sc a l && decide (ty = tyS t) && freeB G sc ty
  | .isiT a ts, .Call (.Name x _) [l, .Tuple es _ _] [] _ => decide (x = "isinstance") && freeB G sc x && !starred l && mE sc a l && mTys G sc ts es && decide (1 ≤ ts.length ∧ ts.length ≤ 100)
  | .items a, .Call (.Name x _) [.Call (.Attribute e n apos) [] [] cpos] [] _ => decide (x = "list") && freeB G sc x && decide (n = "items") && (apos.endLine == cpos.line) && !isCall e && mE sc a e
  | .comp elt g it, .ListComp e [⟨t, i, [], an⟩] scope _ => decide (an = 0) && blkC N sc scope (ownOf g t) && decide ((ownOf g t).map (·.2) = g.slots) && mGc N scope g t && mI sc it t i && mE (relS scope sc) elt e
  | .compIf elt g it cond, .ListComp e [⟨t, i, [f], an⟩] scope _ => decide (an = 0) && blkC N sc scope (ownOf g t) && decide ((ownOf g t).map (·.2) = g.slots) && mGc N scope g t && mI sc it t i && mE (relS scope sc) elt e && mT (relS scope sc) cond f
  | _, _ => false
def mT (sc : Scope) : PTt → Expr → Bool
  | .val p, .Compare l ops r pos => mE sc p (.Compare l ops r pos)
  | .val p, e => plainTest e && mE sc p e
  | .not a, .UnaryOp .Not e _ => mT sc a e
  | .bop k ts, .BoolOp op l _ => decide (op = if k then BoolOp.And else .Or) && mTs sc ts l
  | _, _ => false
def mTs (sc : Scope) : PTts → List Expr → Bool
  | .cons t .nil, [e] => mT sc t e
  | .cons t r, e :: e2 :: es => mT sc t e && mTs sc r (e2 :: es)
  | _, _ => false
def mBs (sc : Scope) : PXs → List Expr → Bool
  | .cons t .nil, [e] => mE sc t e
  | .cons t r, e :: e2 :: es => mE sc t e && mBs sc r (e2 :: es)
  | _, _ => false
def mEs (sc : Scope) : PXs → List Expr → Bool
  | .nil, [] => true
  | .cons p r, e :: es => !starred e && mE sc p e && mEs sc r es
  | .star p r, .Starred e _ :: es => mE sc p e && mEs sc r es
  | _, _ => false
def mPs (sc : Scope) : PXs → List Expr → Bool
  | .nil, [] => true
  | .cons p r, e :: es => !starred e && mE sc p e && mPs sc r es
  | _, _ => false
def mKs (sc : Scope) : PXs → List Str → List Keyword → Bool
  | .nil, [], [] => true
  | .cons p r, k :: ks, ⟨n, e, _⟩ :: es => decide (n = some k) && mE sc p e && mKs sc r ks es
  | _, _, _ => false
def mI (sc : Scope) : PIt → Expr → Expr → Bool
  | .seq p, _, e => mE sc p e && !isSet e
  | .range1 p, _, .Call (.Name x _) [e] [] _ => decide (x = "range") && freeB G sc x && !starred e && mE sc p e
  | .range2 p q, _, .Call (.Name x _) [e, f] [] _ => decide (x = "range") && freeB G sc x && !starred e && !starred f && mE sc p e && mE sc q f
  | .zip p q, .Tuple _ _ _, .Call (.Name x _) [e, f] [] _ => decide (x = "zip") && freeB G sc x && !starred e && !starred f && mE sc p e && mE sc q f
  | .enum p, .Tuple _ _ _, .Call (.Name x _) [e] [] _ => decide (x = "enumerate") && freeB G sc x && !starred e && mE sc p e
  | _, _, _ => false
end
end
end PV

namespace PV
open PySem PySem.Spec PyProof.Rows L2
abbrev TvE (x : Ex) (c : Cn) (W : WX) (f : S → R D) : TE := Tv (fun W' H v d => Rp c.toCb W' H v d) x c W f
abbrev TvP (x : Ex) (c : Cn) (W : WX) (f : S → R D) : TE := Tv (fun W' H v d => RpT c.toCb W' H v d) x c W f
abbrev TvB (x : Ex) (c : Cn) (W : WX) (f : S → R Bool) : TT := Tv (fun _ _ (v : Bool) (d : Bool) => v = d) x c W f
abbrev TvL (x : Ex) (c : Cn) (W : WX) (f : S → R (List D)) : TA := Tv (fun W' H v d => Rps c.toCb W' H v d) x c W f
abbrev TvQ (x : Ex) (c : Cn) (W : WX) (f : S → R (List D)) : TA := Tv (fun W' H v d => RpTs c.toCb W' H v d) x c W f
abbrev RE (c : Cn) : Rel D V := fun W' H v d => Rp c.toCb W' H v d
abbrev RP (c : Cn) : Rel D V := fun W' H v d => RpT c.toCb W' H v d
abbrev RB : Rel Bool Bool := fun _ _ v d => v = d
abbrev RL (c : Cn) : Rel (List D) (List V) := fun W' H v d => Rps c.toCb W' H v d
abbrev RQ (c : Cn) : Rel (List D) (List V) := fun W' H v d => RpTs c.toCb W' H v d
section
variable {X : Cx} {e : Expr} {es : List Expr}
theorem PEi {t t' : TE} (h : PE X e t) (k : ∀ σ H Q, t' σ H Q → t σ H Q) : PE X e t' := ⟨fun pins s σ H Q I q => h.run pins s σ H Q I (k σ H Q q)⟩
theorem PTi {t t' : TT} (h : PT X e t) (k : ∀ σ H Q, t' σ H Q → t σ H Q) : PT X e t' := ⟨fun pins s σ H Q I q => h.run pins s σ H Q I (k σ H Q q)⟩
theorem PWi {t t' : TT} (h : PW X e t) (k : ∀ σ H Q, t' σ H Q → t σ H Q) : PW X e t' := ⟨fun wh pins s σ H Q I q => h.run wh pins s σ H Q I (k σ H Q q)⟩
theorem PAi {t t' : TA} (h : PA X es t) (k : ∀ σ H Q, t' σ H Q → t σ H Q) : PA X es t' := ⟨fun pos pins s σ H Q I q => h.run pos pins s σ H Q I (k σ H Q q)⟩
end
/-- what a place of the text stands in -/
structure Ctx (G : Gd) (F : FT) (con : Nat → D) (N : List Str) (k : Nat) (b : Cb) (sc : Scope) (X : Cx) : Prop where
  nN : X.N = N
  nd : N.Nodup
  scp : X.env.scope = sc
  calm : X.calm = true
  room : Room k X.A
  bK : b.K = X.K
  free : ∀ nm ∈ G.free, X.mg nm = none
  cons : ∀ i nm, G.cons[i]? = some nm → ∃ v u, X.mg nm = some u ∧ RelV v u ∧ ∀ W H, Rp b W H v (con i)
  gcd : ∀ nm ∈ G.gcds, X.mg nm = some (.builtin "math.gcd")
section
variable {x : Ex} {c : Cn} {W : WX} {X : Cx} {G : Gd} {F : FT} {con : Nat → D} {N : List Str} {k : Nat} {sc : Scope} {fa fb fc : S → R D} {a b d : Expr} {pos : Pos}
/-- from the first's value on -/
theorem Tv.of1 {α β γ δ : Type} {rel : Rel α β} {rel2 : Rel γ δ} {f : S → R α} {g : α → S → R γ} {σ : Sg} {H : Hp} {Q : δ → Hp → Prop} {Q' : β → Hp → Prop} (h : Tv rel2 x c W (bindR f g) σ H Q)
    (k : ∀ v H1 d s s1, SR c σ H s → SR c σ H1 s1 → Rch c σ H s H1 s1 → rel (Wn c σ s1.env) H1 v d → Post rel2 x c W σ H1 s1 (g d s1) Q → Q' v H1) : Tv rel x c W f σ H Q' := Tv.bind2 h k
theorem Tv.to1 {α β γ δ : Type} {rel : Rel α β} {rel2 : Rel γ δ} {f : S → R α} {g : α → S → R γ} {σ : Sg} {H : Hp} {s : S} {Q : δ → Hp → Prop} {Q' : β → Hp → Prop} (a : SR c σ H s) (h : Post rel2 x c W σ H s (bindR f g s) Q)
    (k : ∀ v H1 d s1, SR c σ H1 s1 → Rch c σ H s H1 s1 → rel (Wn c σ s1.env) H1 v d → Post rel2 x c W σ H1 s1 (g d s1) Q → Q' v H1) : Tv rel x c W f σ H Q' := by
  have t : Tc rel2 x c W (bindR f g) σ H s Q := ⟨a, h⟩
  exact ⟨s, t.bind.mono fun v H' ⟨d, s1, a1, b1, r, q⟩ => k v H' d s1 a1 b1 r q⟩
/-- data as an operand -/
theorem peekE (h : PE X a (TvE x c W fa)) : PE X a (TvP x c W fa) := PEi h fun σ H Q ⟨s, sr, p⟩ => ⟨s, sr, by
  cases e : fa s with
  | ok d s' => rw [e] at p; exact fun v H' b q r => p v H' b q (.inl r)
  | exc en fs s' => rw [e] at p; exact p
  | bad => rw [e] at p; exact p⟩

/-! ### names, constants -/
theorem slot_ix {N : List Str} {i : Nat} {nm : Str} (h : slotB N i nm = true) : N[i]? = some nm := of_decide_eq_true h
theorem dbg_ok {nm : Str} (h : dbg nm = true) : (nm == ("__debug__" : Str)) = false ∧ (nm == ("__classdict__" : Str)) = false ∧ nm ≠ "__name__" := by
  unfold dbg at h
  simp only [Bool.and_eq_true, decide_eq_true_eq, Bool.not_eq_true'] at h
  exact ⟨h.1.1, h.1.2, h.2⟩
theorem gl_ok {sc : Scope} {nm : Str} (e : X.env.scope = sc) (h : glB sc nm = true) : Gl X nm ∧ (nm == ("__debug__" : Str)) = false ∧ nm ≠ "__name__" := by
  unfold glB at h
  obtain ⟨h1, h2⟩ := Bool.and_eq_true_iff.mp h
  obtain ⟨h3, _, h4⟩ := dbg_ok h2
  refine ⟨?_, h3, h4⟩
  show X.env.scope.names.lookup nm = _
  rw [e]
  exact of_decide_eq_true h1
theorem free_ok {b : Cb} {sc : Scope} {nm : Str} (hX : Ctx G F con N k b sc X) (h : freeB G sc nm = true) : Gl X nm ∧ X.mg nm = none ∧ (nm == ("__debug__" : Str)) = false ∧ nm ≠ "__name__" := by
  unfold freeB at h
  obtain ⟨h1, h2⟩ := Bool.and_eq_true_iff.mp h
  obtain ⟨h3, h4, h5⟩ := gl_ok hX.scp h1
  exact ⟨h3, hX.free _ (of_decide_eq_true h2), h4, h5⟩
theorem vis_ok {sc : Scope} {nm : Str} (h : visB sc nm = true) : Vis sc nm ∧ (nm == ("__debug__" : Str)) = false ∧ (nm == ("__classdict__" : Str)) = false := by
  unfold visB at h
  obtain ⟨h1, h2⟩ := Bool.and_eq_true_iff.mp h
  obtain ⟨h3, h4, _⟩ := dbg_ok h2
  refine ⟨?_, h3, h4⟩
  simp only [Bool.or_eq_true, decide_eq_true_eq] at h1
  exact h1
theorem r_slot {i : Nat} {nm : Str} (hX : Ctx G F con N k c.toCb sc X) (h1 : slotB N i nm = true) (h2 : visB sc nm = true) : PE X (.Name nm pos) (TvE x c W (slotE i)) := by
  obtain ⟨v1, v2, v3⟩ := vis_ok h2
  refine PEi (pe_var (by rw [hX.nN]; exact slot_ix h1) (by rw [hX.scp]; exact v1) v2 v3) fun σ H Q ⟨s, sr, p⟩ => ?_
  unfold slotE at p
  cases e : s.env[i]? with
  | none => rw [e] at p; exact p.elim
  | some sl =>
    cases sl with
    | no => rw [e] at p; exact p.elim
    | v d =>
      rw [e] at p
      obtain ⟨u, e1, r⟩ := sr.env i _ e
      exact ⟨u, e1, p u H sr .refl r⟩
    | own xs =>
      rw [e] at p
      obtain ⟨sr2, rc, q, e1, r⟩ := sr.freeze e
      exact ⟨.ref q, e1, p _ H sr2 rc r⟩
theorem r_slotP {i : Nat} {nm : Str} (hX : Ctx G F con N k c.toCb sc X) (h1 : slotB N i nm = true) (h2 : visB sc nm = true) : PE X (.Name nm pos) (TvP x c W (slotP i)) := by
  obtain ⟨v1, v2, v3⟩ := vis_ok h2
  refine PEi (pe_var (by rw [hX.nN]; exact slot_ix h1) (by rw [hX.scp]; exact v1) v2 v3) fun σ H Q ⟨s, sr, p⟩ => ?_
  unfold slotP at p
  cases e : s.env[i]? with
  | none => rw [e] at p; exact p.elim
  | some sl =>
    cases sl with
    | no => rw [e] at p; exact p.elim
    | v d =>
      rw [e] at p
      obtain ⟨u, e1, r⟩ := sr.env i _ e
      exact ⟨u, e1, p u H sr .refl (.inl r)⟩
    | own xs =>
      rw [e] at p
      obtain ⟨q, vs, e1, n0, nb, nw, e2, r⟩ := sr.env i _ e
      exact ⟨.ref q, e1, p _ H sr .refl (.inr ⟨q, vs, xs, rfl, rfl, nb, e2, r⟩)⟩
theorem r_const {v : V} {dd : D} (h : PE X a (tC v)) (r : ∀ W' H, Rp c.toCb W' H v dd) : PE X a (TvE x c W (retR dd)) := PEi h fun σ H Q ⟨s, sr, p⟩ => p v H sr .refl (r _ _)
theorem r_glob {g : Nat} {nm : Str} (hX : Ctx G F con N k c.toCb sc X) (h1 : G.cons[g]? = some nm) (h2 : glB sc nm = true) : PE X (.Name nm pos) (TvE x c W (retR (con g))) := by
  obtain ⟨g1, g2, _⟩ := gl_ok hX.scp h2
  obtain ⟨v, u, m, r, q⟩ := hX.cons g nm h1
  exact r_const (pe_glob g1 m r g2) q

/-! ### displays -/
theorem r_tup {es : List Expr} {f : S → R (List D)} {k1 : Nat} (h : PA X es (TvL x c W f)) : PE X (.Tuple es k1 pos) (TvE x c W (bindR f fun ds => if ds.length ≤ big then retR (.tup ds) else badR)) :=
  PEi (pe_tup h) fun σ H Q q => Tv.of1 (rel := RL c) q fun vs H1 ds s s1 a a1 rc r p => by
    split at p
    · rename_i hl
      exact ⟨by rw [r.1]; exact big_line hl, fun q nq => Post.keep p a1 (same_new nq) (.newT a1.hold nq r)⟩
    · exact p.elim
theorem r_lst {es : List Expr} {f : S → R (List D)} (h : PA X es (TvL x c W f)) : PE X (.List es pos) (TvE x c W (bindR f fun ds => if ds.length ≤ big then retR (.lst ds) else badR)) :=
  PEi (pe_lst h) fun σ H Q q => Tv.of1 (rel := RL c) q fun vs H1 ds s s1 a a1 rc r p => by
    split at p
    · rename_i hl
      exact ⟨by rw [r.1]; exact big_line hl, fun q nq => Post.keep p a1 (same_new nq) (.newL a1.hold nq r)⟩
    · exact p.elim
/-! ### operators -/
theorem r_bin (o : Op2) (hX : Ctx G F con N k c.toCb sc X) (ha : PE X a (TvP x c W fa)) (hb : PE X b (TvP x c W fb)) :
    PE X (.BinOp a (opOf o) b pos) (TvE x c W (bindR fa fun v => bindR fb fun w => optR (binD o v w))) :=
  PEi (pe_op (op_bin o c.toCb hX.bK) ha hb) fun σ H Q q => Tv.of1 (rel := RP c) q fun v H1 da s s1 a a1 rc r p =>
    Tv.to1 (rel := RP c) a1 p fun w H2 db s2 a2 rc2 r2 p2 => by
      obtain ⟨d, e, q⟩ := p2.done a2
      exact ⟨_, da, db, d, a2.hold, rc2.rpT a1 r, r2, e, q⟩
theorem r_cmp (o : Cp) (hX : Ctx G F con N k c.toCb sc X) (ha : PE X a (TvP x c W fa)) (hb : PE X b (TvP x c W fb)) (hm : behindInMarks (cpOf o) b = false) :
    PE X (.Compare a [cpOf o] [b] pos) (TvE x c W (bindR fa fun v => bindR fb fun w => bindR (optR (cpD o v w)) fun k => retR (.bl k))) :=
  PEi (pe_cmpR (op_cp o c.toCb hX.bK hX.room.units) ha hb hm) fun σ H Q q => Tv.of1 (rel := RP c) q fun v H1 da s s1 a a1 rc r p =>
    Tv.to1 (rel := RP c) a1 p fun w H2 db s2 a2 rc2 r2 p2 => by
      unfold bindR optR at p2
      cases e : cpD o da db with
      | none => rw [e] at p2; exact p2.elim
      | some k =>
        rw [e] at p2
        exact ⟨_, da, db, k, rc2.rpT a1 r, r2, e, Post.keep p2 a2 (fun _ _ z => z) (.bl k)⟩
theorem r_cmpT (o : Cp) (hX : Ctx G F con N k c.toCb sc X) (ha : PE X a (TvP x c W fa)) (hb : PE X b (TvP x c W fb)) (hm : behindInMarks (cpOf o) b = false) :
    PT X (.Compare a [cpOf o] [b] pos) (TvB x c W (bindR (bindR fa fun v => bindR fb fun w => bindR (optR (cpD o v w)) fun k => retR (.bl k)) fun d => truR d)) :=
  PTi (pt_cmpR (op_cp o c.toCb hX.bK hX.room.units) ha hb hm) fun σ H Q q => by
    have q : Tv RB x c W (bindR fa fun v => bindR (bindR fb fun w => bindR (optR (cpD o v w)) fun k => retR (.bl k)) fun d => truR d) σ H Q := by
      obtain ⟨s, a, p⟩ := q
      refine ⟨s, a, ?_⟩
      unfold bindR at p ⊢
      cases e : fa s <;> rw [e] at p <;> exact p
    exact Tv.of1 (rel := RP c) q fun v H1 da s s1 a a1 rc r p => by
      have p : Post RB x c W σ H1 s1 (bindR fb (fun w => bindR (bindR (optR (cpD o da w)) fun k => retR (.bl k)) fun d => truR d) s1) Q := by
        unfold bindR at p ⊢
        cases e : fb s1 <;> rw [e] at p <;> exact p
      exact Tv.to1 (rel := RP c) a1 p fun w H2 db s2 a2 rc2 r2 p2 => by
        unfold bindR optR at p2
        cases e : cpD o da db with
        | none => rw [e] at p2; exact p2.elim
        | some k =>
          rw [e] at p2
          exact ⟨_, da, db, k, rc2.rpT a1 r, r2, e, k, rfl, Post.keep p2 a2 (fun _ _ z => z) rfl⟩
theorem r_neg (ha : PE X a (TvE x c W fa)) : PE X (.UnaryOp .USub a pos) (TvE x c W (bindR fa fun v => bindR (intR v) fun i => retR (.int (-i)))) :=
  PEi (pe_un un_neg ha) fun σ H Q q => Tv.of1 (rel := RE c) q fun v H1 da s s1 a a1 rc r p => by
    cases da with
    | int i => exact ⟨i, r.t.int, Post.keep (d := D.int (-i)) p a1 (fun _ _ z => z) (.int (-i))⟩
    | _ => exact p.elim
theorem truV_of {W : Addr → Prop} {H : Hp} {v : V} {d : D} {k : Bool} (hb : ∃ z zs, H c.bx = some (.lst (z :: zs))) (h : RpT c.toCb W H v d) (e : truD d = some k) : TruV c.K v H k := by
  cases d with
  | non => cases e; rw [h.non]; exact rfl
  | bl b => cases e; rw [h.bl]; exact rfl
  | int i => cases e; rw [h.int]; exact rfl
  | str y =>
    rw [h.str]
    have e : (if y.length ≤ big then some ((y.length : Int) != 0) else none) = some k := e
    split at e
    · rename_i hl; cases e; exact ⟨big_line hl, rfl⟩
    · cases e
  | tup xs =>
    cases e
    obtain ⟨p, vs, rfl, h1, r⟩ := h.tup
    refine .inr (.inl ⟨vs, h1.sq, ?_⟩)
    cases vs <;> cases xs <;> first | rfl | exact absurd r.1 (by simp)
  | lst xs =>
    cases e
    obtain ⟨p, vs, rfl, h1, r⟩ := h.lst
    refine .inl ⟨vs, .of h1, ?_⟩
    cases vs <;> cases xs <;> first | rfl | exact absurd r.1 (by simp)
  | dct xs =>
    cases e
    obtain ⟨p, vs, rfl, h1, r⟩ := h.dct
    refine .inr (.inr ⟨vs, h1, ?_⟩)
    cases vs <;> cases xs <;> first | rfl | exact absurd r (by simp)
  | box =>
    cases e
    obtain ⟨z, zs, e⟩ := hb
    rw [h.box]
    exact .inl ⟨_, .of e, rfl⟩
  | fn i => cases e
theorem SR.hb {σ : Sg} {H : Hp} {s : S} (a : SR c σ H s) : ∃ z zs, H c.bx = some (.lst (z :: zs)) := ⟨_, _, a.box⟩
theorem r_not (hX : Ctx G F con N k c.toCb sc X) (ha : PE X a (TvP x c W fa)) : PE X (.UnaryOp .Not a pos) (TvE x c W (bindR fa fun v => bindR (truR v) fun b => retR (.bl (!b)))) :=
  PEi (pe_notT ha) fun σ H Q q => Tv.of1 (rel := RP c) q fun v H1 da s s1 a a1 rc r p => by
    unfold bindR truR optR at p
    cases e : truD da with
    | none => rw [e] at p; exact p.elim
    | some b => rw [e] at p; exact ⟨b, hX.bK ▸ truV_of a1.hb r e, Post.keep p a1 (fun _ _ z => z) (.bl (!b))⟩
/-! ### tests -/
theorem r_val (hX : Ctx G F con N k c.toCb sc X) (ha : PE X a (TvP x c W fa)) (hp : plainTest a = true) : PT X a (TvB x c W (bindR fa fun v => truR v)) := by
  refine PTi (pt_truth ha fun wh => ?_) fun σ H Q q => Tv.of1 (rel := RP c) q fun v H1 da s s1 a a1 rc r p => ?_
  · cases a <;> first | rfl | exact (Bool.false_ne_true hp).elim
  · unfold truR optR at p
    cases e : truD da with
    | none => rw [e] at p; exact p.elim
    | some b => rw [e] at p; exact ⟨b, hX.bK ▸ truV_of a1.hb r e, Post.keep p a1 (fun _ _ z => z) rfl⟩
theorem r_notT {ft : S → R Bool} (ha : PT X a (TvB x c W ft)) : PT X (.UnaryOp .Not a pos) (TvB x c W (bindR ft fun b => retR (!b))) :=
  PTi (pt_not ha) fun σ H Q q => Tv.of1 (rel := RB) q fun v H1 da s s1 a a1 rc r p => Post.keep p a1 (fun _ _ z => z) (by rw [r])
theorem r_and1 {ft : S → R Bool} (ha : PT X a (TvB x c W ft)) : PW X (.BoolOp .And [a] pos) (TvB x c W ft) := pw_and1 ha
theorem r_or1 {ft : S → R Bool} (ha : PT X a (TvB x c W ft)) : PW X (.BoolOp .Or [a] pos) (TvB x c W ft) := pw_or1 ha
theorem r_and {rest : List Expr} {ft fu : S → R Bool} (ha : PT X a (TvB x c W ft)) (hb : PW X (.BoolOp .And (b :: rest) pos) (TvB x c W fu)) :
    PW X (.BoolOp .And (a :: b :: rest) pos) (TvB x c W (bindR ft fun k => if k == true then fu else retR k)) :=
  PWi (pw_and ha hb) fun σ H Q q => Tv.of1 (rel := RB) q fun v H1 da s s1 a a1 rc r p => by
    subst r
    cases v with
    | true => rw [if_pos rfl]; exact ⟨s1, a1, p⟩
    | false => rw [if_neg Bool.false_ne_true]; exact Post.keep (d := false) p a1 (fun _ _ z => z) rfl
theorem r_or {rest : List Expr} {ft fu : S → R Bool} (ha : PT X a (TvB x c W ft)) (hb : PW X (.BoolOp .Or (b :: rest) pos) (TvB x c W fu)) :
    PW X (.BoolOp .Or (a :: b :: rest) pos) (TvB x c W (bindR ft fun k => if k == false then fu else retR k)) :=
  PWi (pw_or ha hb) fun σ H Q q => Tv.of1 (rel := RB) q fun v H1 da s s1 a a1 rc r p => by
    subst r
    cases v with
    | true => rw [if_pos rfl]; exact Post.keep (d := true) p a1 (fun _ _ z => z) rfl
    | false => rw [if_neg Bool.false_ne_true]; exact ⟨s1, a1, p⟩
theorem r_andV {rest : List Expr} (hX : Ctx G F con N k c.toCb sc X) (ha : PE X a (TvE x c W fa)) (hb : PE X (.BoolOp .And (b :: rest) pos) (TvE x c W fb)) :
    PE X (.BoolOp .And (a :: b :: rest) pos) (TvE x c W (bindR fa fun v => bindR (truR v) fun k => if k == true then fb else retR v)) :=
  PEi (pe_andT ha hb) fun σ H Q q => Tv.of1 (rel := RE c) q fun v H1 da s s1 a a1 rc r p => by
    unfold bindR truR optR at p
    cases e : truD da with
    | none => rw [e] at p; exact p.elim
    | some t =>
      rw [e] at p
      refine ⟨t, hX.bK ▸ truV_of a1.hb r.t e, ?_⟩
      cases t with
      | true => rw [if_pos rfl]; exact ⟨s1, a1, p⟩
      | false => rw [if_neg Bool.false_ne_true]; exact Post.keep p a1 (fun _ _ z => z) r
theorem r_orV {rest : List Expr} (hX : Ctx G F con N k c.toCb sc X) (ha : PE X a (TvE x c W fa)) (hb : PE X (.BoolOp .Or (b :: rest) pos) (TvE x c W fb)) :
    PE X (.BoolOp .Or (a :: b :: rest) pos) (TvE x c W (bindR fa fun v => bindR (truR v) fun k => if k == false then fb else retR v)) :=
  PEi (pe_orT ha hb) fun σ H Q q => Tv.of1 (rel := RE c) q fun v H1 da s s1 a a1 rc r p => by
    unfold bindR truR optR at p
    cases e : truD da with
    | none => rw [e] at p; exact p.elim
    | some t =>
      rw [e] at p
      refine ⟨t, hX.bK ▸ truV_of a1.hb r.t e, ?_⟩
      cases t with
      | true => rw [if_pos rfl]; exact Post.keep p a1 (fun _ _ z => z) r
      | false => rw [if_neg Bool.false_ne_true]; exact ⟨s1, a1, p⟩
theorem r_ite {t : Expr} {ft : S → R Bool} (ht : PT X t (TvB x c W ft)) (ha : PE X a (TvE x c W fa)) (hb : PE X b (TvE x c W fb)) :
    PE X (.IfExp t a b pos) (TvE x c W (bindR ft fun k => if k then fa else fb)) :=
  PEi (pe_ifExp ht ha hb) fun σ H Q q => Tv.of1 (rel := RB) q fun v H1 da s s1 a a1 rc r p => by
    subst r
    cases v with
    | true => rw [if_pos rfl]; exact ⟨s1, a1, p⟩
    | false => rw [if_neg Bool.false_ne_true]; exact ⟨s1, a1, p⟩
theorem r_chain (o o2 : Cp) (hX : Ctx G F con N k c.toCb sc X) (ha : PE X a (TvE x c W fa)) (hb : PE X b (TvE x c W fb)) (hd : PE X d (TvE x c W fc)) (hm : lastMarks [cpOf o, cpOf o2] [b, d] = false) :
    PE X (.Compare a [cpOf o, cpOf o2] [b, d] pos) (TvE x c W (bindR fa fun v => bindR fb fun w => bindR (optR (cpD o v w)) fun k => if k then bindR fc fun z => bindR (optR (cpD o2 w z)) fun k2 => retR (.bl k2) else retR (.bl false))) :=
  PEi (pe_chain (op_cp o c.toCb hX.bK hX.room.units) (op_cp o2 c.toCb hX.bK hX.room.units) ha hb hd hm) fun σ H Q q => Tv.of1 (rel := RE c) q fun v H1 da s s1 a a1 rc r p =>
    Tv.to1 (rel := RE c) a1 p fun w H2 db s2 a2 rc2 r2 p2 => by
      unfold bindR optR at p2
      cases e : cpD o da db with
      | none => rw [e] at p2; exact p2.elim
      | some t =>
        rw [e] at p2
        refine ⟨_, da, db, t, (rc2.rp a1 r).t, r2.t, e, t, rfl, ?_⟩
        cases t with
        | false => rw [if_neg Bool.false_ne_true]; exact Post.keep p2 a2 (fun _ _ z => z) (.bl false)
        | true =>
          rw [if_pos rfl]
          have p2 : Post (RE c) x c W σ H2 s2 (bindR fc (fun z => bindR (optR (cpD o2 db z)) fun k2 => retR (.bl k2)) s2) Q := p2
          exact Tv.to1 (rel := RE c) a2 p2 fun z H3 dd s3 a3 rc3 r3 p3 => by
            unfold bindR optR at p3
            cases e2 : cpD o2 db dd with
            | none => rw [e2] at p3; exact p3.elim
            | some t => rw [e2] at p3; exact ⟨_, db, dd, t, (rc3.rp a2 r2).t, r3.t, e2, Post.keep p3 a3 (fun _ _ z => z) (.bl t)⟩
theorem r_chainT (o o2 : Cp) (hX : Ctx G F con N k c.toCb sc X) (ha : PE X a (TvE x c W fa)) (hb : PE X b (TvE x c W fb)) (hd : PE X d (TvE x c W fc)) (hm : lastMarks [cpOf o, cpOf o2] [b, d] = false) :
    PT X (.Compare a [cpOf o, cpOf o2] [b, d] pos) (TvB x c W (bindR (bindR fa fun v => bindR fb fun w => bindR (optR (cpD o v w)) fun k => if k then bindR fc fun z => bindR (optR (cpD o2 w z)) fun k2 => retR (.bl k2) else retR (.bl false)) fun d => truR d)) :=
  PTi (pt_chain (op_cp o c.toCb hX.bK hX.room.units) (op_cp o2 c.toCb hX.bK hX.room.units) ha hb hd hm) fun σ H Q q => by
    have q : Tv RB x c W (bindR fa fun v => bindR (bindR fb fun w => bindR (optR (cpD o v w)) fun k => if k then bindR fc fun z => bindR (optR (cpD o2 w z)) fun k2 => retR (.bl k2) else retR (.bl false)) fun d => truR d) σ H Q := by
      obtain ⟨s, a, p⟩ := q
      refine ⟨s, a, ?_⟩
      unfold bindR at p ⊢
      cases e : fa s <;> rw [e] at p <;> exact p
    exact Tv.of1 (rel := RE c) q fun v H1 da s s1 a a1 rc r p => by
      have p : Post RB x c W σ H1 s1 (bindR fb (fun w => bindR (bindR (optR (cpD o da w)) fun k => if k then bindR fc fun z => bindR (optR (cpD o2 w z)) fun k2 => retR (.bl k2) else retR (.bl false)) fun d => truR d) s1) Q := by
        unfold bindR at p ⊢
        cases e : fb s1 <;> rw [e] at p <;> exact p
      exact Tv.to1 (rel := RE c) a1 p fun w H2 db s2 a2 rc2 r2 p2 => by
        unfold bindR optR at p2
        cases e : cpD o da db with
        | none => rw [e] at p2; exact p2.elim
        | some t =>
          rw [e] at p2
          refine ⟨_, da, db, t, (rc2.rp a1 r).t, r2.t, e, t, rfl, ?_⟩
          cases t with
          | false => rw [if_neg Bool.false_ne_true]; exact ⟨false, rfl, Post.keep p2 a2 (fun _ _ z => z) rfl⟩
          | true =>
            rw [if_pos rfl]
            have p2 : Post RB x c W σ H2 s2 (bindR fc (fun z => bindR (bindR (optR (cpD o2 db z)) fun k2 => retR (.bl k2)) fun d => truR d) s2) Q := by
              unfold bindR
              dsimp only at p2
              cases e3 : fc s2 with
              | ok d' s' =>
                rw [if_pos rfl, e3] at p2
                unfold optR
                dsimp only at p2 ⊢
                cases e4 : cpD o2 db d' <;> rw [e4] at p2 <;> exact p2
              | exc en fs s' => rw [if_pos rfl, e3] at p2; exact p2
              | bad => rw [if_pos rfl, e3] at p2; exact p2
            exact Tv.to1 (rel := RE c) a2 p2 fun z H3 dd s3 a3 rc3 r3 p3 => by
              unfold bindR optR at p3
              cases e2 : cpD o2 db dd with
              | none => rw [e2] at p3; exact p3.elim
              | some t => rw [e2] at p3; exact ⟨_, db, dd, t, (rc3.rp a2 r2).t, r3.t, e2, t, rfl, Post.keep p3 a3 (fun _ _ z => z) rfl⟩
end
end PV

namespace PV
open PySem PySem.Spec PyProof.Rows L2
theorem star_each {e : Expr} {es : List Expr} {env : Env} (h : starred e = false) : starEach (e :: es) env = (false, eval e env) :: starEach es env := by
  cases e <;> first | rfl | cases h
theorem no_star {es : List Expr} {env : Env} {pos : Pos} (h : es.all (fun e => !starred e) = true) : (backTo pos (starEach es env)).any (·.1) = false := by
  induction es with
  | nil => rfl
  | cons e es ih =>
    rw [List.all_cons, Bool.and_eq_true] at h
    have h1 : starred e = false := by simpa using h.1
    rw [star_each h1]
    have := ih h.2
    unfold backTo at this ⊢
    rw [List.map_cons, List.any_cons, this]
    rfl
section
variable {x : Ex} {c : Cn} {W : WX} {X : Cx} {G : Gd} {F : FT} {con : Nat → D} {N : List Str} {k : Nat} {sc : Scope} {fa fb fc : S → R D} {a b d : Expr} {pos : Pos} {es : List Expr} {fs : S → R (List D)}
/-! ### arguments -/
theorem r_nil : PA X [] (TvL x c W (retR [])) := PAi pa_nil fun σ H Q ⟨s, a, p⟩ => p [] H a .refl .nil
theorem r_nilQ : PA X [] (TvQ x c W (retR [])) := PAi pa_nil fun σ H Q ⟨s, a, p⟩ => p [] H a .refl ⟨rfl, fun i v d e _ => by simp at e⟩
theorem r_cons (ha : PE X a (TvE x c W fa)) (hr : PA X es (TvL x c W fs)) (hs : starred a = false) : PA X (a :: es) (TvL x c W (bindR fa fun d => bindR fs fun ds => retR (d :: ds))) :=
  PAi (pa_cons ha hr (star_each hs)) fun σ H Q q => Tv.of1 (rel := RE c) q fun v H1 da s s1 a a1 rc r p =>
    Tv.to1 (rel := RL c) a1 p fun vs H2 ds s2 a2 rc2 r2 p2 => Post.keep p2 a2 (fun _ _ z => z) (Rps.cons (rc2.rp a1 r) r2)
theorem RpTs.cons {W : Addr → Prop} {H : Hp} {v : V} {d : D} {vs : List V} {ds : List D} {c : Cb} (h : RpT c W H v d) (t : RpTs c W H vs ds) : RpTs c W H (v :: vs) (d :: ds) :=
  ⟨by simp [t.1], fun i v' d' e1 e2 => by
    cases i with
    | zero => simp at e1 e2; rw [← e1, ← e2]; exact h
    | succ i => simp at e1 e2; exact t.2 i v' d' e1 e2⟩
theorem r_consQ (ha : PE X a (TvP x c W fa)) (hr : PA X es (TvQ x c W fs)) (hs : starred a = false) : PA X (a :: es) (TvQ x c W (bindR fa fun d => bindR fs fun ds => retR (d :: ds))) :=
  PAi (pa_cons ha hr (star_each hs)) fun σ H Q q => Tv.of1 (rel := RP c) q fun v H1 da s s1 a a1 rc r p =>
    Tv.to1 (rel := RQ c) a1 p fun vs H2 ds s2 a2 rc2 r2 p2 => Post.keep p2 a2 (fun _ _ z => z) (RpTs.cons (rc2.rpT a1 r) r2)
theorem r_star {sp : Pos} (hX : Ctx G F con N k c.toCb sc X) (ha : PE X a (TvP x c W fa)) (hr : PA X es (TvL x c W fs)) : PA X (.Starred a sp :: es) (TvL x c W (bindR fa fun d => bindR (optR (seqD d)) fun xs => bindR fs fun ds => retR (xs ++ ds))) :=
  PAi (StX.pa_star ha hr) fun σ H Q q => Tv.of1 (rel := RP c) q fun v H1 da s s1 a a1 rc r p => by
    have go : ∀ {p' : Addr} {vs : List V} {xs : List D}, v = .ref p' → (SqT X.K H1 p' vs ∨ SqL X.K H1 p' vs) → Rps c.toCb (Wn c σ s1.env) H1 vs xs → seqD da = some xs → StX.tStar X.K (fun σ H Q => ∃ (_ : σ = σ), Q v H1) (TvL x c W fs) σ H Q := fun {p' vs xs} e1 e2 r e => by
      unfold bindR optR at p
      rw [e] at p
      have p : Post (RL c) x c W σ H1 s1 (bindR fs (fun ds => retR (xs ++ ds)) s1) Q := p
      exact ⟨rfl, p', vs, e1, e2, Tv.to1 (rel := RL c) a1 p fun ws H2 ds s2 a2 rc2 r2 p2 => Post.keep p2 a2 (fun _ _ z => z) ((rc2.rps a1 r).append r2)⟩
    cases da with
    | lst xs =>
      obtain ⟨q, vs, e1, h1, r1⟩ := r.lst
      obtain ⟨_, z⟩ := go e1 (.inr (.of h1)) r1 rfl
      exact z
    | tup xs =>
      obtain ⟨q, vs, e1, h1, r1⟩ := r.tup
      obtain ⟨_, z⟩ := go e1 (.inl (hX.bK ▸ h1.sq)) r1 rfl
      exact z
    | _ => exact p.elim
theorem PE.never {e : Expr} {t : TE} (h : ∀ σ H Q, ¬ t σ H Q) : PE X e t := ⟨fun _ _ σ H Q _ q => (h σ H Q q).elim⟩

/-! ### subscripts -/
theorem atI_rps {c : Cb} {W : Addr → Prop} {H : Hp} {vs : List V} {ds : List D} {i : Int} {d : D} (r : Rps c W H vs ds) (e : atI ds i = some d) : ∃ v, atI vs i = some v ∧ Rp c W H v d := by
  unfold atI at e ⊢
  rw [r.1]
  cases h : ixN ds.length i with
  | none => rw [h] at e; cases e
  | some j =>
    rw [h] at e
    exact r.get e
theorem plainIx {e : Expr} (h : isSlice e = false) : PlainIx e := fun o i => by
  cases e <;> first | rfl | cases h
theorem rpt_str {c : Cb} {W : Addr → Prop} {H : Hp} {v : V} {z : Str} (r : RpT c W H v (.str z)) : v = .str z := by
  rcases r with r | ⟨a, vs, ds, _, h, _⟩
  · cases r; rfl
  · cases h
theorem box_at {b : Bx} {n : Int} {d : D} (h : boxAt b n = some d) : ∃ v, atI [V.int b.n, .bl b.g, .int b.r, .int b.c] n = some v ∧ ∀ c W H, Rp c W H v d := by
  unfold boxAt at h
  split at h <;> try (cases h; done)
  all_goals (cases h)
  · exact ⟨_, rfl, fun _ _ _ => .int _⟩
  · exact ⟨_, rfl, fun _ _ _ => .bl _⟩
  · exact ⟨_, rfl, fun _ _ _ => .int _⟩
  · exact ⟨_, rfl, fun _ _ _ => .int _⟩
theorem r_ix (hX : Ctx G F con N k c.toCb sc X) (ha : PE X a (TvP x c W fa)) (hb : PE X b (TvE x c W fb)) (hs : isSlice b = false) :
    PE X (.Subscript a b pos) (TvE x c W (bindR fa fun v => bindR fb fun j => fun s => match v with
      | .box => (match j with | .int n => optR (boxAt s.bx n) s | _ => .bad)
      | v => optR (ixD v j) s)) :=
  PEi (pe_ix ix_seq ha hb (plainIx hs)) fun σ H Q q => Tv.of1 (rel := RP c) q fun v H1 da s s1 a a1 rc r p =>
    Tv.to1 (rel := RE c) a1 p fun w H2 db s2 a2 rc2 r2 p2 => by
      have r := rc2.rpT a1 r
      cases da with
      | box =>
        cases db with
        | int n =>
          obtain ⟨d, e, q⟩ := Post.done (o := boxAt s2.bx n) p2 a2
          obtain ⟨u, e1, r1⟩ := box_at e
          exact .inl ⟨c.bx, _, n, u, r.box, r2.t.int, .of a2.box, e1, q u H2 (fun _ _ z => z) (r1 _ _ _)⟩
        | _ => exact p2.elim
      | lst xs =>
        obtain ⟨d, e, q⟩ := Post.done (o := ixD (.lst xs) db) p2 a2
        cases db with
        | int n =>
          obtain ⟨p', vs, e1, h1, r1⟩ := r.lst
          obtain ⟨u, e2, r3⟩ := atI_rps r1 e
          exact .inl ⟨p', vs, n, u, e1, r2.t.int, .of h1, e2, q u H2 (fun _ _ z => z) r3⟩
        | _ => cases e
      | tup xs =>
        obtain ⟨d, e, q⟩ := Post.done (o := ixD (.tup xs) db) p2 a2
        cases db with
        | int n =>
          obtain ⟨p', vs, e1, h1, r1⟩ := r.tup
          obtain ⟨u, e2, r3⟩ := atI_rps r1 e
          exact .inr (.inl ⟨p', vs, n, u, e1, r2.t.int, hX.bK ▸ h1.sq, e2, q u H2 (fun _ _ z => z) r3⟩)
        | _ => cases e
      | str z =>
        obtain ⟨d, e, q⟩ := Post.done (o := ixD (.str z) db) p2 a2
        cases db with
        | int n =>
          replace e : (if z.length ≤ big then (atI z.cps.toList n).map fun u => D.str ⟨#[u]⟩ else none) = some d := e
          split at e
          · rename_i hl
            cases ea : atI z.cps.toList n with
            | none => rw [ea] at e; cases e
            | some u =>
              rw [ea] at e
              cases e
              exact .inr (.inr ⟨z, n, u, rpt_str r, r2.t.int, big_line hl, ea, q _ H2 (fun _ _ z => z) (.str _)⟩)
          · cases e
        | _ => cases e
      | _ => obtain ⟨d, e, q⟩ := Post.done p2 a2; cases e
/-! ### slices -/
theorem cut_rps {c : Cb} {W : Addr → Prop} {H : Hp} {vs : List V} {ds : List D} (lo hi : Option Int) (r : Rps c W H vs ds) : Rps c W H (cutV vs lo hi) (cutD ds lo hi) := by
  unfold cutV cutD
  rw [r.1]
  exact (r.drop _).take _
theorem cut_whole {α : Type} {xs : List α} {lo hi : Option Int} (h : HT.sIx xs.length 0 lo = 0 ∧ HT.sIx xs.length xs.length hi = xs.length) : (xs.drop (HT.sIx xs.length 0 lo)).take (HT.sIx xs.length xs.length hi - HT.sIx xs.length 0 lo) = xs := by
  rw [h.1, h.2]
  simp
def rSlD (b : Cb) : V → Option Int → Option Int → Hp → VK → Prop := fun v lo hi H Q => ∃ (W : Addr → Prop) (a d : D), Hold W H ∧ RpT b W H v a ∧ slD a lo hi = some d ∧ ∀ v H', Same H H' → Rp b W H' v d → Q v H'
theorem sl_D (b : Cb) (hK : b.K = X.K) : SlR X (rSlD b) := by
  intro pins s σ H v u vl vu lo hi sl Q I rx hs pl pu h
  obtain ⟨W, a, d, hW, ha, e, q⟩ := h
  cases a with
  | lst xs =>
    cases e
    obtain ⟨p', vs, e1, h1, r1⟩ := ha.lst
    exact sl_list pins s σ H v u vl vu lo hi sl Q I rx hs pl pu ⟨p', vs, e1, .of h1, fun p np => q _ _ (same_new np) (.newL hW np (cut_rps lo hi r1))⟩
  | tup xs =>
    cases e
    obtain ⟨p', vs, e1, h1, r1⟩ := ha.tup
    refine sl_tupA pins s σ H v u vl vu lo hi sl Q I rx hs pl pu ⟨p', vs, e1, hK ▸ h1.sq, fun w => ?_, fun w p np => q _ _ (same_new np) (.newT hW np (cut_rps lo hi r1))⟩
    refine q _ H (fun _ _ z => z) (.tup h1 ?_ ?_)
    · unfold cutD; rw [cut_whole (by rw [← r1.1]; exact w)]; exact r1.1
    · unfold cutD; rw [cut_whole (by rw [← r1.1]; exact w)]; exact r1.2
  | str z =>
    replace e : (if z.length ≤ big then some (D.str (cutS z lo hi)) else none) = some d := e
    split at e
    · rename_i hl
      cases e
      exact sl_str pins s σ H v u vl vu lo hi sl Q I rx hs pl pu ⟨z, rpt_str ha, big_line hl, q _ H (fun _ _ z => z) (.str _)⟩
    · cases e
  | _ => cases e
theorem r_sl {p2 : Pos} (hX : Ctx G F con N k c.toCb sc X) (ha : PE X a (TvP x c W fa)) : PE X (.Subscript a (.Slice none none none p2) pos) (TvE x c W (bindR fa fun v => optR (slD v none none))) :=
  PEi (pe_slice (sl_D c.toCb hX.bK) ha po_none po_none) fun σ H Q q => Tv.of1 (rel := RP c) q fun v H1 da s s1 a a1 rc r p => by
    obtain ⟨d, e, q⟩ := p.done a1
    exact ⟨_, da, d, a1.hold, r, e, q⟩
theorem int_of {α β : Type} {rel : Rel α β} {σ : Sg} {H : Hp} {s : S} {d : D} {g : Int → S → R α} {Q : β → Hp → Prop} (p : Post rel x c W σ H s (bindR (intR d) g s) Q) : ∃ i, d = .int i ∧ Post rel x c W σ H s (g i s) Q := by
  cases d with
  | int i => exact ⟨i, rfl, p⟩
  | _ => exact p.elim
theorem r_slLo {p2 : Pos} (hX : Ctx G F con N k c.toCb sc X) (ha : PE X a (TvP x c W fa)) (hb : PE X b (TvE x c W fb)) : PE X (.Subscript a (.Slice (some b) none none p2) pos) (TvE x c W (bindR fa fun v => bindR fb fun l => bindR (intR l) fun i => optR (slD v (some i) none))) :=
  PEi (pe_slice (sl_D c.toCb hX.bK) ha (po_some hb) po_none) fun σ H Q q => Tv.of1 (rel := RP c) q fun v H1 da s s1 a a1 rc r p =>
    Tv.to1 (rel := RE c) a1 p fun w H2 db s2 a2 rc2 r2 p2 => by
      obtain ⟨i, rfl, p2⟩ := int_of p2
      obtain ⟨d, e, q⟩ := p2.done a2
      exact ⟨i, r2.t.int, _, da, d, a2.hold, rc2.rpT a1 r, e, q⟩
theorem r_slHi {p2 : Pos} (hX : Ctx G F con N k c.toCb sc X) (ha : PE X a (TvP x c W fa)) (hb : PE X b (TvE x c W fb)) : PE X (.Subscript a (.Slice none (some b) none p2) pos) (TvE x c W (bindR fa fun v => bindR fb fun l => bindR (intR l) fun i => optR (slD v none (some i)))) :=
  PEi (pe_slice (sl_D c.toCb hX.bK) ha po_none (po_some hb)) fun σ H Q q => Tv.of1 (rel := RP c) q fun v H1 da s s1 a a1 rc r p =>
    Tv.to1 (rel := RE c) a1 p fun w H2 db s2 a2 rc2 r2 p2 => by
      obtain ⟨i, rfl, p2⟩ := int_of p2
      obtain ⟨d, e, q⟩ := p2.done a2
      exact ⟨i, r2.t.int, _, da, d, a2.hold, rc2.rpT a1 r, e, q⟩
theorem r_slLH {p2 : Pos} (hX : Ctx G F con N k c.toCb sc X) (ha : PE X a (TvP x c W fa)) (hb : PE X b (TvE x c W fb)) (hd : PE X d (TvE x c W fc)) :
    PE X (.Subscript a (.Slice (some b) (some d) none p2) pos) (TvE x c W (bindR fa fun v => bindR fb fun l => bindR (intR l) fun i => bindR fc fun h => bindR (intR h) fun j => optR (slD v (some i) (some j)))) :=
  PEi (pe_slice (sl_D c.toCb hX.bK) ha (po_some hb) (po_some hd)) fun σ H Q q => Tv.of1 (rel := RP c) q fun v H1 da s s1 a a1 rc r p =>
    Tv.to1 (rel := RE c) a1 p fun w H2 db s2 a2 rc2 r2 p2 => by
      obtain ⟨i, rfl, p2⟩ := int_of p2
      exact ⟨i, r2.t.int, Tv.to1 (rel := RE c) a2 p2 fun w H3 dd s3 a3 rc3 r3 p3 => by
        obtain ⟨j, rfl, p3⟩ := int_of p3
        obtain ⟨d, e, q⟩ := p3.done a3
        exact ⟨j, r3.t.int, _, da, d, a3.hold, rc3.rpT a2 (rc2.rpT a1 r), e, q⟩⟩
end
end PV

namespace PV
open PySem PySem.Spec PyProof.Rows L2
/-- what a call hands on -/
def RetF (x : Ex) (c : Cn) (H : Hp) (r : RF) (Q : VK) (E : XK) : Prop := match r with
  | .ok d b' => ∀ v H', Gr c.bx H H' → H' c.bx = some (boxHO b') → Rp c.toCb c.W0 H' v d → Q v H'
  | .exc e fs b' => ∀ dx H', Gr c.bx H H' → H' c.bx = some (boxHO b') → ExAt x c.toCb c.W0 H' dx e fs → E (.ref (x.cls e)) (some dx) H'
  | .bad => False
/-- a def's promise: what the evaluator says -/
def spF (x : Ex) (K : PySem.W.Frag) (fa : Nat → Addr) (F : FT) (i : Nat) : Sp := fun vs H Q E => ∃ (c : Cn) (ds : List D) (b : Bx),
  c.K = K ∧ c.fa = fa ∧ c.H0 = H ∧ c.W0 c.bx ∧ Hold c.W0 H ∧ H c.bx = some (boxHO b) ∧ Rps c.toCb c.W0 H vs ds ∧ RetF x c H (F i ds b) Q E
/-- how a call by keywords alone binds -/
structure KB (K : PySem.W.Frag) (fd : FuncData) (ps ks : List Str) (perm : List Nat) : Prop where
  to : ∀ (s : Shared) (ws : List Value), K.In s.heap → ws.length = ks.length → BindsTo s fd ⟨[], ks.zip ws⟩ (ps.zip (perm.map fun j => ws.getD j .none))
/-- the defs that a text may call -/
structure Fns (x : Ex) (G : Gd) (F : FT) (k : Nat) (fa : Nat → Addr) (X : Cx) : Prop where
  at_ : ∀ i nm, G.fns[i]? = some nm → X.mg nm = some (.ref (fa i)) ∧ PySem.W.keepIn X.K (.ref (fa i)) = true ∧ ∃ fd, Binds X.K fd (G.ps i) [] ∧ FnOk X.prog X.w X.K X.mg X.base (L2.CX X.prog X.w) k (fa i) fd (G.ps i) (spF x X.K fa F i) ∧
    ∀ ks perm, (i, ks, perm) ∈ G.kws → KB X.K fd (G.ps i) ks perm
section
variable {x : Ex} {c : Cn} {W : WX} {X : Cx} {G : Gd} {F : FT} {con : Nat → D} {N : List Str} {k : Nat} {sc : Scope} {fa fb fc : S → R D} {a b d : Expr} {pos p : Pos} {es : List Expr} {fs : S → R (List D)}
theorem ret_call {σ : Sg} {H : Hp} {s : S} {i : Nat} {ds : List D} {vs : List V} {Q : VK} (hK : c.K = X.K) (a : SR c σ H s) (r : Rps c.toCb (Wn c σ s.env) H vs ds) (p : Post (RE c) x c W σ H s (callR F i ds s) Q) : spF x X.K c.fa F i vs H Q (WE W σ) := by
  refine ⟨{ c with W0 := Wn c σ s.env, H0 := H }, ds, s.bx, hK, rfl, rfl, .inl a.wbx, a.hold, a.box, r, ?_⟩
  unfold callR at p
  cases e : F i ds s.bx with
  | ok d b' =>
    rw [e] at p
    exact fun v H' g hb q => p v H' (a.gr g hb) ⟨g, fun _ z => z⟩ q
  | exc en gs b' =>
    rw [e] at p
    exact fun dx H' g hb q => p dx H' (a.gr g hb) ⟨g, fun _ z => z⟩ q
  | bad => rw [e] at p; exact p
theorem r_call {i : Nat} {nm : Str} (hX : Ctx G F con N k c.toCb sc X) (hF : Fns x G F k c.fa X) (tk : Takes X W) (h1 : G.fns[i]? = some nm) (h2 : glB sc nm = true) (hs : es.all (fun e => !starred e) = true) (ha : PA X es (TvL x c W fs)) (he : es ≠ []) :
    PE X (.Call (.Name nm p) es [] pos) (TvE x c W (bindR fs fun ds => callR F i ds)) := by
  obtain ⟨g1, g2, _⟩ := gl_ok hX.scp h2
  obtain ⟨m1, m2, fd, m3, m4, _⟩ := hF.at_ i nm h1
  cases es with
  | nil => exact (he rfl).elim
  | cons e es =>
    rw [List.all_cons, Bool.and_eq_true] at hs
    have z : starred e = false := by simpa using hs.1
    exact PEi (pe_callS m4 hX.room g1 m1 m2 m3 (fun σ => passAt tk σ) ha g2 (star_each z) (no_star hs.2)) fun σ H Q q => Tv.of1 (rel := RL c) q fun vs H1 ds s s1 a a1 rc r p => ret_call hX.bK a1 r p
/-! ### keywords -/
theorem pk_nilL : PK X [] (TvL x c W (retR [])) := ⟨fun pos pins s σ H Q I q => pk_nil.run pos pins s σ H Q I (by
  obtain ⟨s, a, p⟩ := q
  exact p [] H a .refl .nil)⟩
theorem pk_consL {nm : Option Str} {kpos : Pos} {kws : List Keyword} (ha : PE X a (TvE x c W fa)) (hr : PK X kws (TvL x c W fs)) : PK X (⟨nm, a, kpos⟩ :: kws) (TvL x c W (bindR fa fun d => bindR fs fun ds => retR (d :: ds))) :=
  ⟨fun pos pins s σ H Q I q => (pk_cons ha hr).run pos pins s σ H Q I (Tv.of1 (rel := RE c) q fun v H1 da s s1 a a1 rc r p =>
    Tv.to1 (rel := RL c) a1 p fun vs H2 ds s2 a2 rc2 r2 p2 => Post.keep p2 a2 (fun _ _ z => z) (Rps.cons (rc2.rp a1 r) r2))⟩
theorem kw_names {kws : List Keyword} {ks : List Str} {env : Env} (h : kws.map (·.arg) = ks.map some) : (backToKw pos (keywordEach kws env)).filterMap (·.1) = ks ∧ (backToKw pos (keywordEach kws env)).all (·.1.isSome) = true ∧ (backToKw pos (keywordEach kws env)).any (·.1.isNone) = false := by
  induction kws generalizing ks with
  | nil =>
    cases ks with
    | nil => exact ⟨rfl, rfl, rfl⟩
    | cons a b => cases h
  | cons q kws ih =>
    cases ks with
    | nil => cases h
    | cons a ks =>
      obtain ⟨n, v, kp⟩ := q
      rw [List.map_cons, List.map_cons] at h
      injection h with h1 h2
      obtain ⟨i1, i2, i3⟩ := ih h2
      have h1 : n = some a := h1
      subst h1
      have e : ∀ t, backToKw pos (keywordEach (⟨some a, v, kp⟩ :: kws) env) = (some a, t) :: backToKw pos (keywordEach kws env) → _ := fun t e => e
      refine ⟨?_, ?_, ?_⟩
      · show List.filterMap (·.1) ((some a, _) :: backToKw pos (keywordEach kws env)) = _
        rw [List.filterMap_cons, i1]
      · show List.all ((some a, _) :: backToKw pos (keywordEach kws env)) (·.1.isSome) = _
        rw [List.all_cons, i2]
        rfl
      · show List.any ((some a, _) :: backToKw pos (keywordEach kws env)) (·.1.isNone) = _
        rw [List.any_cons, i3]
        rfl
theorem vals_perm {vs : List V} {us : List Value} (r : Vals vs us) (perm : List Nat) : Vals (perm.map fun j => vs.getD j .non) (perm.map fun j => us.getD j .none) := by
  induction perm with
  | nil => exact .nil
  | cons j perm ih =>
    refine .cons ?_ ih
    dsimp only
    rw [List.getD_eq_getElem?_getD, List.getD_eq_getElem?_getD]
    cases e : vs[j]? with
    | none => rw [r.none_of e]; rfl
    | some v =>
      obtain ⟨u, e2, q⟩ := r.get e
      rw [e2]
      exact q
theorem rps_perm {b : Cb} {W : Addr → Prop} {H : Hp} {vs : List V} {ds : List D} (r : Rps b W H vs ds) (perm : List Nat) : Rps b W H (perm.map fun j => vs.getD j .non) (permD ds perm) := by
  unfold permD
  refine ⟨by simp, fun i v d e1 e2 => ?_⟩
  rw [List.getElem?_map] at e1 e2
  cases e : perm[i]? with
  | none => rw [e] at e1; cases e1
  | some j =>
    rw [e] at e1 e2
    cases e1
    cases e2
    dsimp only
    rw [List.getD_eq_getElem?_getD, List.getD_eq_getElem?_getD]
    cases z : ds[j]? with
    | none =>
      have : vs[j]? = none := List.getElem?_eq_none_iff.mpr (by rw [r.1]; exact List.getElem?_eq_none_iff.mp z)
      rw [this]
      exact .non
    | some dd =>
      obtain ⟨v, e3, q⟩ := r.get z
      rw [e3]
      exact q
theorem r_callK {i : Nat} {nm : Str} {kws : List Keyword} {ks : List Str} {perm : List Nat} (hX : Ctx G F con N k c.toCb sc X) (hF : Fns x G F k c.fa X) (tk : Takes X W) (h1 : G.fns[i]? = some nm) (h2 : glB sc nm = true) (h3 : (i, ks, perm) ∈ G.kws)
    (hn : kws.map (·.arg) = ks.map some) (ha : PK X kws (TvL x c W fs)) : PE X (.Call (.Name nm p) [] kws pos) (TvE x c W (bindR fs fun ds => if ds.length = ks.length then callR F i (permD ds perm) else badR)) := by
  obtain ⟨g1, g2, _⟩ := gl_ok hX.scp h2
  obtain ⟨m1, m2, fd, m3, m4, kw⟩ := hF.at_ i nm h1
  have kb := kw ks perm h3
  obtain ⟨k1, k2, k3⟩ := kw_names (pos := pos) (env := X.env) hn
  refine ⟨fun pins s σ H Q I q => ?_⟩
  refine wpAny_Call_Name_kw (ld_glob I g1 m1 ?_ g2)
  refine PySem.W.callWith_KW0 (h₀ := X.base) I.ok.mod.kin m2 k2 ?_ (by show (false || _) = false; rw [Bool.false_or]; exact k3)
  refine thn (ha.run pos pins s σ H (fun vs H1 => vs.length = ks.length ∧ spF x X.K c.fa F i (perm.map fun j => vs.getD j .non) H1 Q (WE W σ)) I (Tv.of1 (rel := RL c) q fun vs H1 ds s s1 a a1 rc r p => ?_)) fun us s2 ⟨vs, H2, I2, rv, hl, q2⟩ => ⟨I2.kIn, ?_⟩
  · split at p
    · rename_i hl
      exact ⟨r.1.trans hl, ret_call hX.bK a1 (rps_perm r perm) p⟩
    · exact p.elim
  rw [k1]
  have r2 := vals_perm rv perm
  refine wpAny_call (codeAny_mono (m4.run X.A X.stack s2 H2 ⟨[], ks.zip us⟩ (perm.map fun j => us.getD j .none) (perm.map fun j => vs.getD j .non) Q (WE W σ) hX.room I2.env0 (kb.to s2 us I2.kIn (rv.length.symm.trans hl)) r2 q2) fun r s' hq => ?_)
  cases r with
  | error e => exact passAt tk σ pins H2 s2 e s' I2 hq
  | ok fl =>
    cases fl with
    | ret u => exact I2.after hq
    | next => exact False.elim hq
    | brk => exact False.elim hq
    | cont => exact False.elim hq
end
end PV

namespace PV
open PySem PySem.Spec PyProof.Rows L2
section
variable {x : Ex} {c : Cn} {W : WX} {X : Cx} {G : Gd} {F : FT} {con : Nat → D} {N : List Str} {k : Nat} {sc : Scope} {fa fb fc : S → R D} {a b d : Expr} {pos p pp : Pos} {es : List Expr} {fs : S → R (List D)}
def isTy : Bt → Bool
  | .tuple => true | .list => true | .int => true
  | _ => false
theorem boot_blt (o : Bt) (h : isGcd o = false) : bootBuiltins (bltNm o) = some (bltV o) := by
  cases o <;> first | (cases h; done) | decide +kernel
theorem r_blt {o : Bt} {nm : Str} (hX : Ctx G F con N k c.toCb sc X) (h : (if isGcd o then glB sc nm && decide (nm ∈ G.gcds) else decide (nm = bltNm o) && freeB G sc nm) = true) (hs : es.all (fun e => !starred e) = true) (ha : PA X es (TvQ x c W fs)) (he : es ≠ []) :
    PE X (.Call (.Name nm pp) es [] pos) (TvE x c W (bindR fs fun ds => optR (bltD o ds))) := by
  cases es with
  | nil => exact (he rfl).elim
  | cons e es =>
    rw [List.all_cons, Bool.and_eq_true] at hs
    have z : starred e = false := by simpa using hs.1
    have fin : ∀ {σ H Q}, TvE x c W (bindR fs fun ds => optR (bltD o ds)) σ H Q → tCB (rDs c.toCb (bltD o)) (TvQ x c W fs) σ H Q := fun {σ H Q} q => Tv.of1 (rel := RQ c) q fun vs H1 ds s s1 a a1 rc r p => by
      obtain ⟨d, e, q⟩ := p.done a1
      exact ⟨_, ds, d, a1.hold, r, e, q⟩
    by_cases hg : isGcd o = true
    · rw [if_pos hg, Bool.and_eq_true] at h
      obtain ⟨g1, g2, _⟩ := gl_ok hX.scp h.1
      have m := hX.gcd _ (of_decide_eq_true h.2)
      cases o <;> first | (cases hg; done) | skip
      exact PEi (pe_callBfun (id := "math.gcd") (call_blt .gcd c.toCb hX.bK hX.calm) g1 m ha g2 (star_each z) (no_star hs.2)) fun σ H Q q => fin q
    · rw [if_neg hg, Bool.and_eq_true] at h
      have hg : isGcd o = false := by simpa using hg
      obtain ⟨g1, m, g2, g3⟩ := free_ok hX h.2
      have en := of_decide_eq_true h.1
      have bt := boot_blt o hg
      rw [← en] at bt
      have cb := call_blt (X := X) o c.toCb hX.bK hX.calm
      have sa := star_each (es := es) (env := X.env) z
      have sb := no_star (env := X.env) (pos := pos) hs.2
      cases o <;> first
        | (cases hg; done)
        | exact PEi (pe_callB cb g1 m bt ha g3 g2 sa sb) fun σ H Q q => fin q
        | exact PEi (pe_callTy cb g1 m bt ha g3 g2 sa sb) fun σ H Q q => fin q
/-! ### isinstance -/
theorem boot_ty (t : Ty) : bootBuiltins (tyS t) = some (.type (tyN t)) := by cases t <;> decide +kernel
theorem pe_ty {nm : Str} {t : Ty} (hX : Ctx G F con N k c.toCb sc X) (h1 : nm = tyS t) (h2 : freeB G sc nm = true) : PE X (.Name nm pp) (tC (.ty (tyN t))) := by
  obtain ⟨g1, m, g2, g3⟩ := free_ok hX h2
  exact pe_bltn g1 m (by rw [h1]; exact boot_ty t) rfl g3 g2
theorem boot_isinstance' : bootBuiltins "isinstance" = some (.builtin "isinstance") := by decide +kernel
theorem r_isi {nm nt : Str} {t : Ty} (hX : Ctx G F con N k c.toCb sc X) (h1 : nm = "isinstance") (h2 : freeB G sc nm = true) (hs : starred a = false) (ha : PE X a (TvP x c W fa)) (h3 : nt = tyS t) (h4 : freeB G sc nt = true) {p2 : Pos} :
    PE X (.Call (.Name nm pp) [a, .Name nt p2] [] pos) (TvE x c W (bindR fa fun v => bindR (optR (isiD v t)) fun b => retR (.bl b))) := by
  obtain ⟨g1, m, g2, g3⟩ := free_ok hX h2
  refine PEi (pe_callB (call_isiD c.toCb hX.bK t) g1 m (by rw [h1]; exact boot_isinstance') (pa_cons ha (pa_cons (pe_ty hX h3 h4) pa_nil) (star_each hs)) g3 g2 (star_each hs)) fun σ H Q q => Tv.of1 (rel := RP c) q fun v H1 da s s1 a a1 rc r p => ?_
  unfold bindR optR at p
  cases e : isiD da t with
  | none => rw [e] at p; exact p.elim
  | some k =>
    rw [e] at p
    obtain ⟨z, zs, eb⟩ := a1.hb
    exact ⟨_, v, da, k, rfl, ⟨_, eb⟩, r, e, Post.keep p a1 (fun _ _ z => z) (.bl k)⟩
def tVals (vs : List V) : TA := fun σ H Q => Q vs H
theorem pa_tys : ∀ {ts : List Ty} {es : List Expr}, Ctx G F con N k c.toCb sc X → mTys G sc ts es = true → PA X es (tVals (ts.map fun t => .ty (tyN t)))
  | [], [], _, _ => pa_nil
  | t :: ts, .Name nm p :: es, hX, h => by
    unfold mTys at h
    simp only [Bool.and_eq_true, decide_eq_true_eq] at h
    exact PAi (pa_cons (pe_ty hX h.1.1 h.1.2) (pa_tys hX h.2)) fun σ H Q q => q
  | [], e :: es, _, h => by cases h
  | t :: ts, [], _, h => by cases h
  | t :: ts, .BoolOp .. :: es, _, h => by cases h
  | t :: ts, .NamedExpr .. :: es, _, h => by cases h
  | t :: ts, .BinOp .. :: es, _, h => by cases h
  | t :: ts, .UnaryOp .. :: es, _, h => by cases h
  | t :: ts, .Lambda .. :: es, _, h => by cases h
  | t :: ts, .IfExp .. :: es, _, h => by cases h
  | t :: ts, .Dict .. :: es, _, h => by cases h
  | t :: ts, .Set .. :: es, _, h => by cases h
  | t :: ts, .ListComp .. :: es, _, h => by cases h
  | t :: ts, .SetComp .. :: es, _, h => by cases h
  | t :: ts, .DictComp .. :: es, _, h => by cases h
  | t :: ts, .GeneratorExp .. :: es, _, h => by cases h
  | t :: ts, .Await .. :: es, _, h => by cases h
  | t :: ts, .Yield .. :: es, _, h => by cases h
  | t :: ts, .YieldFrom .. :: es, _, h => by cases h
  | t :: ts, .Compare .. :: es, _, h => by cases h
  | t :: ts, .Call .. :: es, _, h => by cases h
  | t :: ts, .FormattedValue .. :: es, _, h => by cases h
  | t :: ts, .JoinedStr .. :: es, _, h => by cases h
  | t :: ts, .Constant .. :: es, _, h => by cases h
  | t :: ts, .Attribute .. :: es, _, h => by cases h
  | t :: ts, .Subscript .. :: es, _, h => by cases h
  | t :: ts, .Starred .. :: es, _, h => by cases h
  | t :: ts, .List .. :: es, _, h => by cases h
  | t :: ts, .Tuple .. :: es, _, h => by cases h
  | t :: ts, .Slice .. :: es, _, h => by cases h
theorem isiT_kit {K : PySem.W.Frag} {d : D} {T : String} (hT : tyD d = some T) : ∀ {ts : List Ty} {k : Bool}, isiTD d ts = some k → PySem.W.kitAny K (.type T) (ts.map fun t => .type (tyN t)) = some k
  | [], k, e => by cases e; rfl
  | t :: ts, k, e => by
    unfold isiTD at e
    cases h : isiD d t with
    | none => rw [h] at e; cases e
    | some b =>
      obtain ⟨T', e1, e2⟩ := isi_kit (K := K) h
      rw [hT] at e1
      cases e1
      rw [h] at e
      refine kitAny_cons e2 (fun hb => ?_) (fun hb => ?_)
      · subst hb; exact isiT_kit hT e
      · subst hb; cases e; rfl
theorem cls_all : ∀ ts : List Ty, Paired ClsV (ts.map fun t => V.ty (tyN t)) (ts.map fun t => Value.type (tyN t))
  | [] => .nil
  | t :: ts => .cons (.ty _) (cls_all ts)
theorem tyD_of {d : D} {ts : List Ty} {k : Bool} (h : isiTD d ts = some k) (n : ts ≠ []) : ∃ T, tyD d = some T := by
  cases d <;> first | exact ⟨_, rfl⟩ | skip
  cases ts with
  | nil => exact (n rfl).elim
  | cons t ts => cases t <;> cases h
theorem r_isiT {nm : Str} {ts : List Ty} {kk : Nat} {tpos : Pos} (hX : Ctx G F con N k c.toCb sc X) (h1 : nm = "isinstance") (h2 : freeB G sc nm = true) (hs : starred a = false) (ha : PE X a (TvP x c W fa)) (h3 : mTys G sc ts es = true) (h4 : ts.length ≤ 100) (h5 : ts ≠ []) :
    PE X (.Call (.Name nm pp) [a, .Tuple es kk tpos] [] pos) (TvE x c W (bindR fa fun v => bindR (optR (isiTD v ts)) fun b => retR (.bl b))) := by
  obtain ⟨g1, m, g2, g3⟩ := free_ok hX h2
  refine PEi (pe_callB call_isiT g1 m (by rw [h1]; exact boot_isinstance') (pa_cons ha (pa_cons (pe_tup (pa_tys hX h3)) pa_nil) (star_each hs)) g3 g2 (star_each hs)) fun σ H Q q => Tv.of1 (rel := RP c) q fun v H1 da s s1 a a1 rc r p => ?_
  unfold bindR optR at p
  cases e : isiTD da ts with
  | none => rw [e] at p; exact p.elim
  | some k =>
    rw [e] at p
    refine ⟨by rw [List.length_map, sizeLine_eq]; omega, fun tp ntp => ?_⟩
    have sm : Same H1 (L2.upd H1 tp (.tup (ts.map fun t => V.ty (tyN t)))) := same_new ntp
    obtain ⟨T, eT⟩ := tyD_of e h5
    obtain ⟨z, zs, eb⟩ := a1.hb
    exact ⟨v, tp, _, .type T, _, k, rfl, upd_same, cls_all ts, hX.bK ▸ tyX_of ⟨_, sm _ _ eb⟩ (Rch.rpT (rch_same sm) a1 r) eT, isiT_kit eT e, Post.keep p a1 sm (.bl k)⟩
/-! ### list(d.items()) -/
theorem r_items {nm : Str} {cpos apos : Pos} (hX : Ctx G F con N k c.toCb sc X) (h1 : nm = "list") (h2 : freeB G sc nm = true) (hl : (apos.endLine == cpos.line) = true) (hc : isCall a = false) (ha : PE X a (TvE x c W fa)) :
    PE X (.Call (.Name nm pp) [.Call (.Attribute a "items" apos) [] [] cpos] [] pos) (TvE x c W (bindR fa fun v => fun s => match v with
      | .dct kvs => .ok (.lst (kvs.map fun q => .tup [.str q.1, q.2])) s
      | _ => .bad)) := by
  obtain ⟨g1, m, g2, g3⟩ := free_ok hX h2
  subst h1
  refine PEi (LiI.pe_listItems hX.calm ha g1 m (by decide +kernel) (by cases a <;> first | rfl | cases hc) hl) fun σ H Q q => Tv.of1 (rel := RE c) q fun v H1 da s s1 a a1 rc r p => ?_
  cases da with
  | dct ds =>
    cases r with
    | @dct q vs _ h hw hl hk hr =>
      refine ⟨q, vs, rfl, h, fun H' pl ts k npl nts nin el et => ?_⟩
      have sm : Same H1 H' := k
      have hold := a1.hold
      have hts : ts.length = vs.length := Paired.length et
      refine Post.keep (d := D.lst (ds.map fun q => .tup [.str q.1, q.2])) p a1 sm (.lst el (hold.no npl) (by simp [hts, hl]) fun i v d e1 e2 => ?_)
      rw [List.getElem?_map] at e1 e2
      cases e3 : ts[i]? with
      | none => rw [e3] at e1; cases e1
      | some t =>
        rw [e3] at e1
        cases e1
        cases e4 : ds[i]? with
        | none => rw [e4] at e2; cases e2
        | some kv =>
          rw [e4] at e2
          cases e2
          obtain ⟨p1, e5, e6⟩ := LiI.paired_get et e3
          have k1 := hk i p1 kv e5 e4
          have k2 := (hr i p1 kv e5 e4).to (kp_same sm)
          refine .tup (vs := [kV p1.1, p1.2]) (.inl ⟨e6, hold.no (nts t (List.mem_of_getElem? e3))⟩) rfl fun j v d e7 e8 => ?_
          match j, e7, e8 with
          | 0, e7, e8 => cases e7; cases e8; rw [k1]; exact .str _
          | 1, e7, e8 => cases e7; cases e8; exact k2
          | j + 2, e7, e8 => simp at e7
  | _ => exact p.elim
end
end PV

/-! zip of lists and tuples, mixed -/
namespace PV
open PySem PySem.Spec PyProof.Rows L2 RZ
/-- true: a tuple; false: a list -/
def IsSq : Bool → Heap → Addr → Array Value → Prop
  | true, h, l, its => h.IsTuple l its
  | false, h, l, its => h.IsList l its
def IsIt : Bool → Heap → Addr → Addr → Nat → Prop
  | true, h, it, l, i => h.IsTupleIter it l i
  | false, h, it, l, i => h.IsListIter it l i
def SqK : Bool → PySem.W.Frag → Hp → Addr → List V → Prop
  | true, K, H, a, xs => SqT K H a xs
  | false, K, H, a, xs => SqL K H a xs
theorem IsIt.at {k : Bool} {h h' : Heap} {it l : Addr} {i : Nat} (x : IsIt k h it l i) (e : ∀ o, h.get? it = some o → h'.get? it = some o) : IsIt k h' it l i := by
  cases k
  · exact Heap.IsListIter.at x e
  · exact Heap.IsTupleIter.at x e
theorem IsIt.obj {k : Bool} {h : Heap} {it l : Addr} {i : Nat} (x : IsIt k h it l i) : ∃ o, h.get? it = some o ∧ ∃ fs, o.data = .fields fs := by
  cases k
  · obtain ⟨o, e, _, d⟩ := x; exact ⟨o, e, _, d⟩
  · obtain ⟨o, e, _, d⟩ := x; exact ⟨o, e, _, d⟩
theorem draws {prog : Program} {w : World} {A : Around} (hh : A.handled = none) (k : Bool) (it l : Addr) (hne : l ≠ it) (its : Array Value) :
    Draws prog w A it [it, l] its.size (fun i v => its[i]? = some v) (fun i h => IsIt k h it l i ∧ IsSq k h l its) := by
  cases k
  · exact Draws.list hh it l hne its
  · exact Draws.tuple hh it l hne its
theorem next_item {prog : Program} {w : World} {A : Around} {E : Value → Shared → Prop} {s : Shared} {k : Bool} {it l : Addr} {i : Nat} {its : Array Value} {x : Value} {Q : Value → Shared → Prop} (h1 : IsIt k s.heap it l i) (h2 : IsSq k s.heap l its) (hx : its[i]? = some x)
    (hQ : ∀ h', IsIt k h' it l (i + 1) → Heap.SameBut it s.heap h' → Q x { s with heap := h' }) : wpAny (model prog w) A (Builtin.SmallTypes.nextOf (.ref it)) Q E s := by
  cases k
  · exact wpAny_nextOf_list_item h1 h2 hx hQ
  · exact wpAny_nextOf_tuple_item h1 h2 hx hQ
theorem next_end {prog : Program} {w : World} {A : Around} {E : Value → Shared → Prop} {s : Shared} {k : Bool} {it l : Addr} {i : Nat} {its : Array Value} {Q : Value → Shared → Prop} (hh : A.handled = none) (h1 : IsIt k s.heap it l i) (h2 : IsSq k s.heap l its) (hx : its[i]? = none)
    (hE : ∀ h' e, Heap.ExtBut it s.heap h' → (∃ o, h'.get? e = some o ∧ o.cls = .type "StopIteration") → E (.ref e) { s with heap := h' }) : wpAny (model prog w) A (Builtin.SmallTypes.nextOf (.ref it)) Q E s := by
  cases k
  · exact wpAny_nextOf_list_end hh h1 h2 hx hE
  · exact wpAny_nextOf_tuple_end hh h1 h2 hx hE
theorem IsSq.but {k : Bool} {h h' : Heap} {a b : Addr} {its : Array Value} (x : IsSq k h a its) (hs : Heap.ExtBut b h h') (hab : a ≠ b) : IsSq k h' a its := by
  cases k
  · exact Heap.IsList.extBut x hs hab
  · exact Heap.IsTuple.extBut x hs hab
theorem IsSq.at {k : Bool} {h h' : Heap} {l : Addr} {its : Array Value} (x : IsSq k h l its) (e : ∀ o, h.get? l = some o → h'.get? l = some o) : IsSq k h' l its := by
  cases k
  · exact Heap.IsList.at x e
  · exact Heap.IsTuple.at x e
/-- to its end, and at any later place -/
theorem drawsE {prog : Program} {w : World} {A : Around} (hh : A.handled = none) (k : Bool) (it l : Addr) (hne : l ≠ it) (its : Array Value) (n : Nat) (hn : its.size ≤ n) :
    Draws prog w A it [it, l] n (fun i v => its[i]? = some v) (fun i h => IsIt k h it l i ∧ IsSq k h l its ∧ ∀ m, i ≤ m → m < n → m < its.size) where
  live := fun _ _ st => let ⟨o, ho, _⟩ := st.1.obj; ⟨o, ho⟩
  frame := fun _ _ _ st hk => ⟨st.1.at fun o e => hk it (by simp) o e, st.2.1.at fun o e => hk l (by simp) o e, st.2.2⟩
  item := fun i s Q E hi st hQ => by
    have hlt := st.2.2 i (Nat.le_refl _) hi
    refine next_item st.1 st.2.1 (x := its[i]) (by simp [hlt]) fun h' hit' hs' => ?_
    exact hQ _ h' s.toks (by simp [hlt]) ⟨hit', st.2.1.but hs'.extBut hne, fun m h1 h2 => st.2.2 m (by omega) h2⟩ hs'
  done := fun s Q E st hE => next_end hh st.1 st.2.1 (by simp; omega) hE
def itOb : Bool → Addr → Obj
  | true, l => { cls := .type "tuple_iterator", data := .fields #[.ref l, .int 0 0] }
  | false, l => { cls := .type "list_iterator", data := .fields #[.ref l, .int 0 0] }
theorem begins (k : Bool) (l : Addr) (its : Array Value) : Begins (.ref l) (itOb k l) fun h => IsSq k h l its := by
  cases k
  · exact begins_list l its
  · exact begins_tuple l its
theorem isIt_new {k : Bool} {h : Heap} {it l : Addr} (e : h.get? it = some (itOb k l)) : IsIt k h it l 0 := by
  cases k
  · exact ⟨_, e, rfl, rfl⟩
  · exact ⟨_, e, rfl, rfl⟩
theorem sqK_inv {X : Cx} {k : Bool} {pins : List (Addr × Obj)} {s : Shared} {σ : L2.St} {H : Hp} {a : Addr} {xs : List V} (I : Inv X pins σ H s) (h : SqK k X.K H a xs) : ∃ its : List Value, Vals xs its ∧ IsSq k s.heap a its.toArray ∧ a < s.heap.objs.size := by
  cases k
  · obtain ⟨its, rv, p, _⟩ := I.list h
    exact ⟨its, rv, p.isList, p.lt⟩
  · obtain ⟨its, rv, p, _⟩ := I.tuple h
    obtain ⟨o1, ho1, _⟩ := id p
    exact ⟨its, rv, show s.heap.IsTuple a its.toArray from p, Heap.lt_size ho1⟩
theorem sqK_inj {X : Cx} {k : Bool} {pins : List (Addr × Obj)} {s : Shared} {σ : L2.St} {H : Hp} {a : Addr} {xs ys : List V} (I : Inv X pins σ H s) (h : SqK k X.K H a xs) (g : SqK k X.K H a ys) : xs = ys := by
  cases k
  · exact I.list_inj h g
  · exact I.tuple_inj h g
def ItzM (k1 k2 : Bool) (K : PySem.W.Frag) (a b : Addr) : It :=
  ⟨fun i H => ∃ (xs ys : List V) (x y : V), SqK k1 K H a xs ∧ SqK k2 K H b ys ∧ xs[i]? = some x ∧ ys[i]? = some y,
    fun i H v H' => ∃ T x y, v = .ref T ∧ H T = none ∧ H' = upd H T (.tup [x, y]) ∧ (∀ xs, SqK k1 K H a xs → xs[i]? = some x) ∧ ∀ ys, SqK k2 K H b ys → ys[i]? = some y,
    fun i H => ∃ xs ys : List V, SqK k1 K H a xs ∧ SqK k2 K H b ys ∧ (xs.length ≤ i ∨ ys.length ≤ i)⟩
theorem sep_of {z TI TO i1 i2 a b : Addr} (D : ZipApart z TI TO i1 i2 a b) : ZipSep2 z TI TO i1 i2 [i1, a] [i2, b] where
  TIz := D.TIz
  TOz := D.TOz
  TITO := D.TITO
  TIi1 := D.TIi1
  mem1 := by simp
  zf1 := by simp [D.i1z.symm, D.l1z.symm]
  Tf1 := by simp [D.TOi1, D.l1TO.symm]
  TIi2 := D.TIi2
  mem2 := by simp
  zf2 := by simp [D.i2z.symm, D.l2z.symm]
  Tf2 := by simp [D.TOi2, D.l2TO.symm]
  sep1_2 := by simp [D.i12, D.l2i1.symm]
  sep2_1 := by simp [D.i12.symm, D.l1i2.symm]
theorem turn_zipM {k1 k2 : Bool} {P : Program} {w : World} {K : PySem.W.Frag} {elts : List Expr} {kk : Nat} {tpos : Pos} {a b z TI TO i1 i2 : Addr} (D : ZipApart z TI TO i1 i2 a b) :
    Turn P w K (.Tuple elts kk tpos) (ItzM k1 k2 K a b) [z, TI, TO, i1, i2] z (fun i h => IsZip h z TI TO .none ∧ IsTupOf2 h TI (.ref i1) (.ref i2) ∧ (∃ x y, IsTupOf2 h TO x y) ∧ IsIt k1 h i1 a i ∧ IsIt k2 h i2 b i) where
  mem := by simp
  obj := fun i h st c hc => by
    obtain ⟨hz, hTI, ⟨x, y, hTO⟩, h1, h2⟩ := st
    obtain ⟨o1, e1, f1, d1⟩ := h1.obj
    obtain ⟨o2, e2, f2, d2⟩ := h2.obj
    have e' : c = z ∨ c = TI ∨ c = TO ∨ c = i1 ∨ c = i2 := by simpa using hc
    rcases e' with q | q | q | q | q
    · rw [q]; exact ⟨_, hz, fun v q => nomatch q⟩
    · rw [q]; exact ⟨_, hTI, fun v q => nomatch q⟩
    · rw [q]; exact ⟨_, hTO, fun v q => nomatch q⟩
    · rw [q]; exact ⟨o1, e1, fun v q => by rw [d1] at q; cases q⟩
    · rw [q]; exact ⟨o2, e2, fun v q => by rw [d2] at q; cases q⟩
  keep := fun i h h' st k => by
    obtain ⟨hz, hTI, ⟨x, y, hTO⟩, h1, h2⟩ := st
    exact ⟨k z (by simp) _ hz, k TI (by simp) _ hTI, ⟨x, y, k TO (by simp) _ hTO⟩, h1.at fun o q => k i1 (by simp) o q, h2.at fun o q => k i2 (by simp) o q⟩
  item := by
    intro X hP hw hK hc i pins s σ H E I hf st hg
    subst hP hw hK
    obtain ⟨hz, hTI, ⟨x0, y0, hTO⟩, h1, h2⟩ := st
    obtain ⟨xs, ys, x, y, hqx, hqy, hx, hy⟩ := hg
    obtain ⟨its, rv, p, _⟩ := sqK_inv I hqx
    obtain ⟨its2, rv2, p2, _⟩ := sqK_inv I hqy
    obtain ⟨u, hu, ru⟩ := rv.get hx
    obtain ⟨u2, hu2, ru2⟩ := rv2.get hy
    have hzl : z < s.heap.objs.size := Heap.lt_size hz
    have hh : X.A.handled = none := I.ok.hd hc
    have hu' : its.toArray[i]? = some u := by simpa using hu
    have hu2' : its2.toArray[i]? = some u2 := by simpa using hu2
    refine wpAny_pyNext_zipD2_item (sep_of D) (draws (A := X.A.in1) hh k1 i1 a D.l1i1 its.toArray) (draws (A := X.A.in1) hh k2 i2 b D.l2i2 its2.toArray) hz hTI hTO ⟨h1, p⟩ ⟨h2, p2⟩
      (Array.getElem?_eq_some_iff.mp hu').1 (Array.getElem?_eq_some_iff.mp hu2').1 fun x1 x2 h' tk q1 q2 z' TO' s1' s2' hT hsz hk => ?_
    obtain rfl : u = x1 := by rw [hu'] at q1; exact Option.some.inj q1
    obtain rfl : u2 = x2 := by rw [hu2'] at q2; exact Option.some.inj q2
    refine ⟨_, rfl, wpAny_letOwnedTupleGo_zip (s := { s with heap := h', toks := tk }) z' fun h'' z'' sb => ?_⟩
    have hT2 : h''.get? s.heap.objs.size = some { cls := .type "tuple", data := .seq #[u, u2] } := (sb.2 _ (Nat.ne_of_gt hzl)).trans hT
    have new : ObjOk X.prog X.w (upd H s.heap.objs.size (.tup [x, y])) h'' s.heap.objs.size (.tup [x, y]) :=
      ⟨by show 2 ≤ sizeLine; decide, [u, u2], .cons ru (.cons ru2 .nil), ⟨_, hT2, rfl, _, rfl⟩⟩
    have I1 : Inv X pins σ (upd H s.heap.objs.size (.tup [x, y])) { s with heap := h'', toks := tk } :=
      I.turnedNew (t' := tk) (ch := [z, TI, TO, i1, i2]) (fun c o hb q => (sb.2 c (fun q' => hb (by simp [q']))).trans (hk c o (fun q' => hb (by simp [q'])) (fun q' => hb (by simp [q'])) (fun q' => hb (by simp [q'])) (fun q' => hb (by simp [q'])) q)) hf (Nat.le_refl _) new
    refine ⟨.ref s.heap.objs.size, _, I1, rfl, ⟨_, x, y, rfl, I.hok.fresh (Nat.le_refl _), rfl, fun l hl => by rw [sqK_inj I hl hqx]; exact hx, fun l hl => by rw [sqK_inj I hl hqy]; exact hy⟩, ⟨z'', ?_, ⟨u, u2, ?_⟩, ?_, ?_⟩, fun c hcm => ?_⟩
    · exact (sb.2 _ D.TIz).trans (hk _ _ D.TIz D.TITO D.TIi1 D.TIi2 hTI)
    · exact (sb.2 _ D.TOz).trans TO'
    · exact s1'.1.at fun o q => (sb.2 _ D.i1z).trans q
    · exact s2'.1.at fun o q => (sb.2 _ D.i2z).trans q
    · have hlt : c < s.heap.objs.size := by
        have e' : c = z ∨ c = TI ∨ c = TO ∨ c = i1 ∨ c = i2 := by simpa using hcm
        rcases e' with q | q | q | q | q
        · rw [q]; exact hzl
        · rw [q]; exact Heap.lt_size hTI
        · rw [q]; exact Heap.lt_size hTO
        · rw [q]; obtain ⟨_, e1, _⟩ := h1.obj; exact Heap.lt_size e1
        · rw [q]; obtain ⟨_, e2, _⟩ := h2.obj; exact Heap.lt_size e2
      rw [upd_ne (Nat.ne_of_lt hlt)]
      exact (hf c hcm).1
  done := by
    intro X hP hw hK hc i pins s σ H E I hf st hg
    subst hP hw hK
    obtain ⟨hz, hTI, ⟨x0, y0, hTO⟩, h1, h2⟩ := st
    obtain ⟨xs, ys, hqx, hqy, hend⟩ := hg
    obtain ⟨its, rv, p, _⟩ := sqK_inv I hqx
    obtain ⟨its2, rv2, p2, _⟩ := sqK_inv I hqy
    have l1 := rv.length
    have l2 := rv2.length
    have hh : X.A.handled = none := I.ok.hd hc
    refine wpAny_pyNext_zipD2_end (sep_of D) (drawsE (A := X.A.in1) hh k1 i1 a D.l1i1 its.toArray (max its.toArray.size i) (by omega)) (drawsE (A := X.A.in1) hh k2 i2 b D.l2i2 its2.toArray (max its2.toArray.size i) (by omega)) hz hTI hTO
      ⟨h1, p, fun m h1 h2 => by omega⟩ ⟨h2, p2, fun m h1 h2 => by omega⟩ (by omega) (by omega) ?_ fun h' tk hk => ⟨rfl, I.turnedL (t' := tk) (ch := [z, TI, TO, i1, i2]) (fun c o hb q =>
      hk c o (fun q' => hb (by simp [q'])) (fun q' => hb (by simp [q'])) (fun q' => hb (by simp [q'])) (fun q' => hb (by simp [q'])) q) hf⟩
    rw [List.size_toArray, List.size_toArray]
    omega
  self := fun A i s Q E st h => wpAny_pyIter_zip st.1 h
def iZipM (K : PySem.W.Frag) (ta : TA) : TI := fun σ H R => ta σ H fun vs H1 => ∃ (k1 k2 : Bool) (a b : Addr) (xs ys : List V), vs = [.ref a, .ref b] ∧ SqK k1 K H1 a xs ∧ SqK k2 K H1 b ys ∧ R (ItzM k1 k2 K a b) H1
theorem pi_zipM {X : Cx} {e e2 : Expr} {ta : TA} {p pos tpos : Pos} {elts : List Expr} {kk : Nat} (hg : Gl X "zip") (hm : X.mg "zip" = none) (ha : PA X [e, e2] ta)
    (hs : starEach [e, e2] X.env = (false, eval e X.env) :: starEach [e2] X.env := by rfl) (hpl : (backTo pos (starEach [e2] X.env)).any (·.1) = false := by rfl) :
    PI X (.Tuple elts kk tpos) (.Call (.Name "zip" p) [e, e2] [] pos) (iZipM X.K ta) := by
  refine ⟨fun pins s σ H R I h => ?_⟩
  refine Call_ (ld_blt I hg hm PyProof.Rows.boot_zip (PyProof.Rows.callWith_type1 (thn (ha.run pos pins s σ H _ I h) fun us s1 ⟨vs, H1, I1, r1, q1⟩ => ?_) hs hpl))
  obtain ⟨k1, k2, a, b, xs, ys, ex, hqx, hqy, q⟩ := q1
  subst ex
  cases r1 with
  | cons r rr =>
    cases rr with
    | cons r' rr =>
      cases rr
      cases r
      cases r'
      have fresh5 : ∀ c, c ∈ [s1.heap.objs.size + 4, s1.heap.objs.size + 2, s1.heap.objs.size + 3, s1.heap.objs.size, s1.heap.objs.size + 1] → FpOk X pins H1 c := fun c hcm => by
        have e' : c = s1.heap.objs.size + 4 ∨ c = s1.heap.objs.size + 2 ∨ c = s1.heap.objs.size + 3 ∨ c = s1.heap.objs.size ∨ c = s1.heap.objs.size + 1 := by simpa using hcm
        have hle : s1.heap.objs.size ≤ c := by omega
        exact I1.fpOk hle (I1.hok.fresh hle)
      obtain ⟨its, rv, p1, a1⟩ := sqK_inv I1 hqx
      obtain ⟨its2, rv2, p2, a2⟩ := sqK_inv I1 hqy
      refine zip_begins2 (begins k1 a its.toArray) (begins k2 b its2.toArray) p1 p2 fun h' hz hTI hTO g1 g2 hsz hk => wpAny_pyIter_zip hz ?_
      have I2 : Inv X pins σ H1 { s1 with heap := h' } := I1.kept (t' := s1.toks) hk
      exact ⟨s1.heap.objs.size + 4, [s1.heap.objs.size + 4, s1.heap.objs.size + 2, s1.heap.objs.size + 3, s1.heap.objs.size, s1.heap.objs.size + 1], _, _, H1, rfl, I2, turn_zipM (PySem.W.ktu_apart s1.heap.objs.size a b a1 a2), ⟨hz, hTI, ⟨_, _, hTO⟩, isIt_new g1, isIt_new g2⟩, fresh5, q⟩
end PV

namespace PV
open PySem PySem.Spec PyProof.Rows L2
/-- what is walked: the items are those of a list, wherever the sources stand still -/
def JOk (b : Cb) (W1 : Addr → Prop) (H1 : Hp) (J : It) (xs : List D) : Prop :=
  ∀ (W2 : Addr → Prop) (H2 : Hp), Kp W1 W2 H1 H2 → Hold W2 H2 →
    (∀ (i : Nat) (d : D), xs[i]? = some d → J.go i H2 ∧ ∀ v H3, J.yld i H2 v H3 → Same H2 H3 ∧ Rp b W2 H3 v d) ∧ ∀ i, xs.length ≤ i → J.stop i H2
abbrev RI (c : Cn) : Rel (List D) It := fun W' H J xs => JOk c.toCb W' H J xs
abbrev TvI (x : Ex) (c : Cn) (W : WX) (f : S → R (List D)) : TI := Tv (RI c) x c W f
theorem PIi {X : Cx} {tg e : Expr} {t t' : TI} (h : PI X tg e t) (k : ∀ σ H Q, t' σ H Q → t σ H Q) : PI X tg e t' := ⟨fun pins s σ H R I q => h.run pins s σ H R I (k σ H R q)⟩
theorem same_refl {H : Hp} : Same H H := fun _ _ h => h
section
variable {x : Ex} {c : Cn} {W : WX} {X : Cx} {G : Gd} {F : FT} {con : Nat → D} {N : List Str} {k : Nat} {sc : Scope} {fa fb fc : S → R D} {a b d tg : Expr} {pos p pp : Pos} {es : List Expr} {fs : S → R (List D)}
def iSeq (K : PySem.W.Frag) (tl : TE) : TI := fun σ H R => tl σ H fun x H1 => ∃ a, x = .ref a ∧ (((∃ xs, SqL K H1 a xs) ∧ R (Itl K a) H1) ∨ ((∃ xs, SqT K H1 a xs) ∧ R (Itt K a) H1))
theorem pi_seq {l : Expr} {tl : TE} (hl : PE X l tl) : PI X tg l (iSeq X.K tl) := by
  refine ⟨fun pins s σ H R I h => ?_⟩
  refine thn (hl.run pins s σ H _ I h) fun v s1 ⟨x, H1, I1, r1, q1⟩ => ?_
  obtain ⟨a, e, q⟩ := q1
  subst e
  cases r1
  rcases q with ⟨⟨xs, hq⟩, q⟩ | ⟨⟨xs, hq⟩, q⟩
  · obtain ⟨its, rv, p, hz⟩ := I1.list hq
    refine wpAny_pyIter_list p.isList ?_
    refine ⟨s1.heap.objs.size, [s1.heap.objs.size], _, _, H1, rfl, I1.kept (t' := s1.toks) fun b o e => Heap.get?_push_of_some _ e, turn_list a _, ⟨_, Heap.get?_push_size _ rfl, rfl, rfl⟩, fun b hb => ?_, q⟩
    have e : b = s1.heap.objs.size := by simpa using hb
    subst e
    exact I1.fpOk (Nat.le_refl _) (I1.hok.fresh (Nat.le_refl _))
  · obtain ⟨its, rv, p, hz⟩ := I1.tuple hq
    refine wpAny_pyIter_tuple (show s1.heap.IsTuple a its.toArray from p) ?_
    refine ⟨s1.heap.objs.size, [s1.heap.objs.size], _, _, H1, rfl, I1.kept (t' := s1.toks) fun b o e => Heap.get?_push_of_some _ e, turn_tuple a _, ⟨_, Heap.get?_push_size _ rfl, rfl, rfl⟩, fun b hb => ?_, q⟩
    have e : b = s1.heap.objs.size := by simpa using hb
    subst e
    exact I1.fpOk (Nat.le_refl _) (I1.hok.fresh (Nat.le_refl _))
theorem jok_list {b : Cb} {W1 : Addr → Prop} {H1 : Hp} {q : Addr} {xs : List D} (h : Rp b W1 H1 (.ref q) (.lst xs)) : JOk b W1 H1 (Itl b.K q) xs := by
  intro W2 H2 kp hold
  have h2 := h.to kp
  cases h2 with
  | @lst _ vs _ e hw hl hr =>
    refine ⟨fun i d ei => ⟨?_, fun v H3 y => ?_⟩, fun i hi => ⟨vs, .of e, by omega⟩⟩
    · have hi : i < vs.length := by rw [hl]; exact (List.getElem?_eq_some_iff.mp ei).1
      exact ⟨vs, vs[i], .of e, List.getElem?_eq_getElem hi⟩
    · obtain ⟨rfl, y⟩ := y
      exact ⟨same_refl, hr i v d (y vs (.of e)) ei⟩
theorem jok_tup {b : Cb} {W1 : Addr → Prop} {H1 : Hp} {q : Addr} {xs : List D} (h : Rp b W1 H1 (.ref q) (.tup xs)) : JOk b W1 H1 (Itt b.K q) xs := by
  intro W2 H2 kp hold
  have h2 := h.to kp
  cases h2 with
  | @tup _ vs _ e hl hr =>
    refine ⟨fun i d ei => ⟨?_, fun v H3 y => ?_⟩, fun i hi => ⟨vs, e.sq, by omega⟩⟩
    · have hi : i < vs.length := by rw [hl]; exact (List.getElem?_eq_some_iff.mp ei).1
      exact ⟨vs, vs[i], e.sq, List.getElem?_eq_getElem hi⟩
    · obtain ⟨rfl, y⟩ := y
      exact ⟨same_refl, hr i v d (y vs e.sq) ei⟩
theorem r_seq (hX : Ctx G F con N k c.toCb sc X) (ha : PE X a (TvE x c W fa)) : PI X tg a (TvI x c W (bindR fa fun d => optR (seqD d))) :=
  PIi (pi_seq ha) fun σ H Q q => Tv.of1 (rel := RE c) q fun v H1 da s s1 a a1 rc r p => by
    cases da with
    | lst xs =>
      obtain ⟨q, vs, rfl, h1, _⟩ := r.t.lst
      exact ⟨q, rfl, .inl ⟨⟨vs, .of h1⟩, Post.keep (d := xs) p a1 same_refl (by have j := jok_list r; rw [hX.bK] at j; exact j)⟩⟩
    | tup xs =>
      obtain ⟨q, vs, rfl, h1, _⟩ := r.t.tup
      exact ⟨q, rfl, .inr ⟨⟨vs, hX.bK ▸ h1.sq⟩, Post.keep (d := xs) p a1 same_refl (by have j := jok_tup r; rw [hX.bK] at j; exact j)⟩⟩
    | _ => exact p.elim
theorem rangeD_get {lo hi : Int} {i : Nat} {d : D} (h : (rangeD lo hi)[i]? = some d) : i < (hi - lo).toNat ∧ d = .int (lo + i) := by
  unfold rangeD at h
  rw [List.getElem?_map] at h
  cases e : (List.range (hi - lo).toNat)[i]? with
  | none => rw [e] at h; cases h
  | some j =>
    rw [e] at h
    cases h
    obtain ⟨h1, h2⟩ := List.getElem?_eq_some_iff.mp e
    rw [List.getElem_range] at h2
    subst h2
    exact ⟨by simpa using h1, rfl⟩
theorem jok_range {b : Cb} {W1 : Addr → Prop} {H1 : Hp} {lo hi : Int} : JOk b W1 H1 (Itr lo (hi - lo).toNat) (rangeD lo hi) := by
  intro W2 H2 kp hold
  refine ⟨fun i d ei => ?_, fun i h => ?_⟩
  · obtain ⟨h1, rfl⟩ := rangeD_get ei
    exact ⟨h1, fun v H3 ⟨e1, e2⟩ => by subst e1 e2; exact ⟨same_refl, .int _⟩⟩
  · have : (rangeD lo hi).length = (hi - lo).toNat := by unfold rangeD; simp
    show (hi - lo).toNat ≤ i
    omega
theorem rng_ok {i : Int} (h : rngOk i = true) : -(2 ^ 62) ≤ i ∧ i < 2 ^ 62 := by
  unfold rngOk at h
  simpa using h
theorem r_range1 {nm : Str} (hX : Ctx G F con N k c.toCb sc X) (h1 : nm = "range") (h2 : freeB G sc nm = true) (hs : starred a = false) (ha : PE X a (TvE x c W fa)) :
    PI X tg (.Call (.Name nm pp) [a] [] pos) (TvI x c W (bindR fa fun d => bindR (intR d) fun i => if rngOk i then retR (rangeD 0 i) else badR)) := by
  obtain ⟨g1, m, g2, g3⟩ := free_ok hX h2
  subst h1
  refine PIi (pi_range1 g1 m (pa_cons ha pa_nil (star_each hs)) (by rw [star_each hs]; rfl)) fun σ H Q q => Tv.of1 (rel := RE c) q fun v H1 da s s1 a a1 rc r p => ?_
  obtain ⟨i, rfl, p'⟩ := int_of p
  clear p
  split at p'
  · rename_i hr
    obtain ⟨r1, r2⟩ := rng_ok hr
    refine ⟨i, by rw [r.t.int], r1, r2, Post.keep (d := rangeD 0 i) p' a1 same_refl ?_⟩
    have j := jok_range (b := c.toCb) (W1 := Wn c σ s1.env) (H1 := H1) (lo := 0) (hi := i)
    rw [Int.sub_zero] at j
    exact j
  · exact p'.elim
theorem r_range2 {nm : Str} (hX : Ctx G F con N k c.toCb sc X) (h1 : nm = "range") (h2 : freeB G sc nm = true) (hs : starred a = false) (hs2 : starred b = false) (ha : PE X a (TvE x c W fa)) (hb : PE X b (TvE x c W fb)) :
    PI X tg (.Call (.Name nm pp) [a, b] [] pos) (TvI x c W (bindR fa fun d => bindR (intR d) fun i => bindR fb fun d2 => bindR (intR d2) fun j => if rngOk i && rngOk j then retR (rangeD i j) else badR)) := by
  obtain ⟨g1, m, g2, g3⟩ := free_ok hX h2
  subst h1
  refine PIi (pi_range2 g1 m (pa_cons ha (pa_cons hb pa_nil (star_each hs2)) (star_each hs)) (by rw [star_each hs, star_each hs2]; rfl) (by rw [star_each hs2]; rfl)) fun σ H Q q => Tv.of1 (rel := RE c) q fun v H1 da s s1 a a1 rc r p => ?_
  obtain ⟨i, rfl, p'⟩ := int_of p
  exact Tv.to1 (rel := RE c) a1 p' fun w H2 db s2 a2 rc2 r2 p2 => by
    obtain ⟨j, rfl, p3⟩ := int_of p2
    clear p2
    split at p3
    · rename_i hr
      rw [Bool.and_eq_true] at hr
      obtain ⟨q1, q2⟩ := rng_ok hr.1
      obtain ⟨q3, q4⟩ := rng_ok hr.2
      exact ⟨i, j, by rw [r.t.int, r2.t.int], ⟨q1, q2, q3, q4⟩, Post.keep (d := rangeD i j) p3 a2 same_refl jok_range⟩
    · exact p3.elim
theorem zipD_get : ∀ {xs ys : List D} {i : Nat} {d : D}, (zipD xs ys)[i]? = some d → ∃ a b, xs[i]? = some a ∧ ys[i]? = some b ∧ d = .tup [a, b]
  | [], ys, i, d, h => by unfold zipD at h; simp at h
  | x :: xs, [], i, d, h => by unfold zipD at h; simp at h
  | x :: xs, y :: ys, 0, d, h => by unfold zipD at h; simp at h; exact ⟨x, y, rfl, rfl, h.symm⟩
  | x :: xs, y :: ys, i + 1, d, h => by
    unfold zipD at h
    simp at h
    obtain ⟨a, b, e1, e2, e3⟩ := zipD_get h
    exact ⟨a, b, by simpa using e1, by simpa using e2, e3⟩
theorem zipD_len : ∀ {xs ys : List D} {i : Nat}, (zipD xs ys).length ≤ i → xs.length ≤ i ∨ ys.length ≤ i
  | [], ys, i, _ => .inl (Nat.zero_le _)
  | x :: xs, [], i, _ => .inr (Nat.zero_le _)
  | x :: xs, y :: ys, 0, h => by unfold zipD at h; simp at h
  | x :: xs, y :: ys, i + 1, h => by
    unfold zipD at h
    rcases zipD_len (xs := xs) (ys := ys) (i := i) (by simpa using h) with q | q
    · exact .inl (by simpa using q)
    · exact .inr (by simpa using q)
theorem rp_pair {b : Cb} {W : Addr → Prop} {H : Hp} {T : Addr} {v w : V} {d e : D} (hold : Hold W H) (n : H T = none) (r1 : Rp b W H v d) (r2 : Rp b W H w e) : Rp b W (L2.upd H T (.tup [v, w])) (.ref T) (.tup [d, e]) :=
  .newT hold n (.cons r1 (.cons r2 .nil))
theorem rps_rg {b : Cb} {W : Addr → Prop} {H : Hp} {lo hi : Int} : Rps b W H (L2.rgV lo hi) (rangeD lo hi) := by
  refine ⟨by unfold rangeD; rw [L2.rgV_length]; simp, fun i v d e1 e2 => ?_⟩
  obtain ⟨h1, rfl⟩ := rangeD_get e2
  unfold L2.rgV at e1
  rw [List.getElem?_map] at e1
  rw [List.getElem?_range h1] at e1
  cases e1
  exact .int _
theorem r_rngL {nm nm2 : Str} {p2 p3 : Pos} (hX : Ctx G F con N k c.toCb sc X) (h1 : nm = "list") (h2 : freeB G sc nm = true) (h3 : nm2 = "range") (h4 : freeB G sc nm2 = true) (hs : starred a = false) (ha : PE X a (TvE x c W fa)) :
    PE X (.Call (.Name nm pp) [.Call (.Name nm2 p2) [a] [] p3] [] pos) (TvE x c W (bindR fa fun d => bindR (intR d) fun i => if decide (-1000000 ≤ i) && decide (i ≤ 1000000) then retR (.lst (rangeD 0 i)) else badR)) := by
  obtain ⟨g1, m, g2, g3⟩ := free_ok hX h2
  obtain ⟨g1', m', g2', g3'⟩ := free_ok hX h4
  subst h1 h3
  refine PEi (L2.pe_listRg hX.calm g1 m (L2.prg_1 g1' m' ha (star_each hs))) fun σ H Q q => Tv.of1 (rel := RE c) q fun v H1 da s s1 a a1 rc r p => ?_
  obtain ⟨i, rfl, p'⟩ := int_of p
  clear p
  split at p'
  · rename_i hr
    rw [Bool.and_eq_true, decide_eq_true_eq, decide_eq_true_eq] at hr
    refine ⟨i, by rw [r.t.int], ⟨by omega, by omega, by omega, by omega, by omega⟩, fun q nq => Post.keep p' a1 (same_new nq) (.newL a1.hold nq rps_rg)⟩
  · exact p'.elim
theorem enumD_get : ∀ {xs : List D} {n i : Nat} {d : D}, (enumD n xs)[i]? = some d → ∃ x, xs[i]? = some x ∧ d = .tup [.int ((n + i : Nat) : Int), x]
  | [], n, i, d, h => by unfold enumD at h; simp at h
  | x :: xs, n, 0, d, h => by unfold enumD at h; simp at h; exact ⟨x, rfl, h.symm⟩
  | x :: xs, n, i + 1, d, h => by
    unfold enumD at h
    simp at h
    obtain ⟨a, e1, e2⟩ := enumD_get h
    exact ⟨a, by simpa using e1, by rw [e2, show n + 1 + i = n + (i + 1) from by omega]⟩
theorem enumD_len : ∀ {xs : List D} {n : Nat}, (enumD n xs).length = xs.length
  | [], n => rfl
  | x :: xs, n => by unfold enumD; rw [List.length_cons, List.length_cons, enumD_len]
theorem jok_enum {b : Cb} {W1 : Addr → Prop} {H1 : Hp} {q : Addr} {xs : List D} (h : Rp b W1 H1 (.ref q) (.lst xs)) : JOk b W1 H1 (L2.Ite b.K q) (enumD 0 xs) := by
  intro W2 H2 kp hold
  have h2 := h.to kp
  cases h2 with
  | @lst _ vs _ e hw hl hr =>
    refine ⟨fun i d ei => ?_, fun i hi => ⟨vs, .of e, by rw [enumD_len] at hi; omega⟩⟩
    obtain ⟨a, e3, rfl⟩ := enumD_get ei
    have hi : i < vs.length := by rw [hl]; exact (List.getElem?_eq_some_iff.mp e3).1
    refine ⟨⟨vs, vs[i], .of e, List.getElem?_eq_getElem hi⟩, fun v H3 y => ?_⟩
    obtain ⟨T, u, rfl, nT, rfl, f1⟩ := y
    rw [Nat.zero_add]
    exact ⟨same_new nT, rp_pair hold nT (.int _) (hr i u a (f1 vs (.of e)) e3)⟩
theorem r_enum {nm : Str} {kk : Nat} {tpos : Pos} {elts : List Expr} (hX : Ctx G F con N k c.toCb sc X) (h1 : nm = "enumerate") (h2 : freeB G sc nm = true) (hs : starred a = false) (ha : PE X a (TvE x c W fa)) :
    PI X (.Tuple elts kk tpos) (.Call (.Name nm pp) [a] [] pos) (TvI x c W (bindR fa fun v => fun s => match v with
      | .lst xs => .ok (enumD 0 xs) s
      | _ => .bad)) := by
  obtain ⟨g1, m, g2, g3⟩ := free_ok hX h2
  subst h1
  refine PIi (L2.pi_enum g1 m (pa_cons ha pa_nil (star_each hs)) (star_each hs)) fun σ H Q q => Tv.of1 (rel := RE c) q fun v H1 da s s1 a a1 rc r p => ?_
  cases da with
  | lst xs =>
    obtain ⟨q, vs, rfl, e1, _⟩ := r.t.lst
    refine ⟨q, vs, rfl, .of e1, Post.keep (d := enumD 0 xs) p a1 same_refl ?_⟩
    have j := jok_enum r
    rw [hX.bK] at j
    exact j
  | _ => exact p.elim
def sqD : Bool → List D → D
  | true, xs => .tup xs
  | false, xs => .lst xs
theorem rp_seq {b : Cb} {W : Addr → Prop} {H : Hp} {q : Addr} {k : Bool} {xs : List D} (h : Rp b W H (.ref q) (sqD k xs)) : ∃ vs, SqK k b.K H q vs ∧ vs.length = xs.length ∧ ∀ (i : Nat) (v : V) (d : D), vs[i]? = some v → xs[i]? = some d → Rp b W H v d := by
  cases k with
  | false =>
    have h : Rp b W H (.ref q) (.lst xs) := h
    cases h with
    | @lst _ vs _ e hw hl hr => exact ⟨vs, .of e, hl, hr⟩
  | true =>
    have h : Rp b W H (.ref q) (.tup xs) := h
    cases h with
    | @tup _ vs _ e hl hr => exact ⟨vs, e.sq, hl, hr⟩
theorem jok_zipM {b : Cb} {W1 : Addr → Prop} {H1 : Hp} {q r : Addr} {k1 k2 : Bool} {xs ys : List D} (h : Rp b W1 H1 (.ref q) (sqD k1 xs)) (g : Rp b W1 H1 (.ref r) (sqD k2 ys)) : JOk b W1 H1 (ItzM k1 k2 b.K q r) (zipD xs ys) := by
  intro W2 H2 kp hold
  obtain ⟨vs, e, hl, hr⟩ := rp_seq (h.to kp)
  obtain ⟨ws, e2, hl2, hr2⟩ := rp_seq (g.to kp)
  refine ⟨fun i d ei => ?_, fun i hi => ⟨vs, ws, e, e2, by rcases zipD_len hi with z | z; exact .inl (by omega); exact .inr (by omega)⟩⟩
  obtain ⟨a, b', e3, e4, rfl⟩ := zipD_get ei
  have hi : i < vs.length := by rw [hl]; exact (List.getElem?_eq_some_iff.mp e3).1
  have hj : i < ws.length := by rw [hl2]; exact (List.getElem?_eq_some_iff.mp e4).1
  refine ⟨⟨vs, ws, vs[i], ws[i], e, e2, List.getElem?_eq_getElem hi, List.getElem?_eq_getElem hj⟩, fun v H3 y => ?_⟩
  obtain ⟨T, u, w, rfl, nT, rfl, f1, f2⟩ := y
  exact ⟨same_new nT, rp_pair hold nT (hr i u a (f1 vs e) e3) (hr2 i w b' (f2 ws e2) e4)⟩
theorem r_zip {nm : Str} {kk : Nat} {tpos : Pos} {elts : List Expr} (hX : Ctx G F con N k c.toCb sc X) (h1 : nm = "zip") (h2 : freeB G sc nm = true) (hs : starred a = false) (hs2 : starred b = false) (ha : PE X a (TvE x c W fa)) (hb : PE X b (TvE x c W fb)) :
    PI X (.Tuple elts kk tpos) (.Call (.Name nm pp) [a, b] [] pos) (TvI x c W (bindR fa fun v => bindR fb fun w => fun s => match v, w with
      | .lst xs, .lst ys => .ok (zipD xs ys) s
      | .tup xs, .tup ys => .ok (zipD xs ys) s
      | .lst xs, .tup ys => .ok (zipD xs ys) s
      | .tup xs, .lst ys => .ok (zipD xs ys) s
      | _, _ => .bad)) := by
  obtain ⟨g1, m, g2, g3⟩ := free_ok hX h2
  subst h1
  refine PIi (pi_zipM g1 m (pa_cons ha (pa_cons hb pa_nil (star_each hs2)) (star_each hs)) (star_each hs) (by rw [star_each hs2]; rfl)) fun σ H Q q => Tv.of1 (rel := RE c) q fun v H1 da s s1 a a1 rc r p =>
    Tv.to1 (rel := RE c) a1 p fun w H2 db s2 a2 rc2 r2 p2 => ?_
  have r := rc2.rp a1 r
  have fin : ∀ {k1 k2 : Bool} {q q' : Addr} {xs ys : List D}, v = .ref q → w = .ref q' → Rp c.toCb (Wn c σ s2.env) H2 v (sqD k1 xs) → Rp c.toCb (Wn c σ s2.env) H2 w (sqD k2 ys) → Post (RI c) x c W σ H2 s2 (.ok (zipD xs ys) s2) Q →
      ∃ (k1 k2 : Bool) (a b : Addr) (xs ys : List V), [v, w] = [.ref a, .ref b] ∧ SqK k1 X.K H2 a xs ∧ SqK k2 X.K H2 b ys ∧ Q (ItzM k1 k2 X.K a b) H2 := fun {k1 k2 q q' xs ys} e e' r r2 p2 => by
    subst e e'
    obtain ⟨vs, h1, _⟩ := rp_seq r
    obtain ⟨ws, h2, _⟩ := rp_seq r2
    have j := jok_zipM r r2
    rw [hX.bK] at j h1 h2
    exact ⟨k1, k2, q, q', vs, ws, rfl, h1, h2, Post.keep (d := zipD xs ys) p2 a2 same_refl j⟩
  cases da with
  | lst xs =>
    obtain ⟨q, vs, e1, _, _⟩ := r.t.lst
    cases db with
    | lst ys =>
      obtain ⟨q', ws, e2, _, _⟩ := r2.t.lst
      exact fin (k1 := false) (k2 := false) e1 e2 r r2 p2
    | tup ys =>
      obtain ⟨q', ws, e2, _, _⟩ := r2.t.tup
      exact fin (k1 := false) (k2 := true) e1 e2 r r2 p2
    | _ => exact p2.elim
  | tup xs =>
    obtain ⟨q, vs, e1, _, _⟩ := r.t.tup
    cases db with
    | lst ys =>
      obtain ⟨q', ws, e2, _, _⟩ := r2.t.lst
      exact fin (k1 := true) (k2 := false) e1 e2 r r2 p2
    | tup ys =>
      obtain ⟨q', ws, e2, _, _⟩ := r2.t.tup
      exact fin (k1 := true) (k2 := true) e1 e2 r r2 p2
    | _ => exact p2.elim
  | _ => cases db <;> exact p2.elim
end
end PV

namespace PV
open PySem PySem.Spec PyProof.Rows L2
/-! ### targets -/
theorem wipe_get (σ : Sg) : ∀ (vs : List Nat) (j : Nat), (wipe σ vs)[j]? = if j ∈ vs then (if j < σ.length then some none else none) else σ[j]?
  | [], j => by simp [wipe]
  | v :: vs, j => by
    unfold wipe
    rw [List.getElem?_set, wipe_get σ vs j, wipe_length]
    by_cases h : v = j
    · subst h; simp
    · rw [if_neg h]
      by_cases h2 : j ∈ vs
      · simp [h2]
      · simp [h2, Ne.symm h]
theorem wipeE_len (env : List Sl) : ∀ vs : List Nat, (wipeE vs env).length = env.length
  | [] => rfl
  | v :: vs => by unfold wipeE; rw [List.length_set, wipeE_len env vs]
theorem wipeE_get (env : List Sl) : ∀ (vs : List Nat) (j : Nat), (wipeE vs env)[j]? = if j ∈ vs then (if j < env.length then some .no else none) else env[j]?
  | [], j => by simp [wipeE]
  | v :: vs, j => by
    unfold wipeE
    rw [List.getElem?_set, wipeE_get env vs j, wipeE_len]
    by_cases h : v = j
    · subst h; simp
    · rw [if_neg h]
      by_cases h2 : j ∈ vs
      · simp [h2]
      · simp [h2, Ne.symm h]
theorem backE_len (old : List Sl) (env : List Sl) : ∀ vs : List Nat, (backE old vs env).length = env.length
  | [] => rfl
  | v :: vs => by unfold backE; rw [List.length_set, backE_len old env vs]
theorem backE_get (old env : List Sl) : ∀ (vs : List Nat) (j : Nat), (backE old vs env)[j]? = if j ∈ vs then (if j < env.length then some (old[j]?.getD .no) else none) else env[j]?
  | [], j => by simp [backE]
  | v :: vs, j => by
    unfold backE
    rw [List.getElem?_set, backE_get old env vs j, backE_len]
    by_cases h : v = j
    · subst h; simp
    · rw [if_neg h]
      by_cases h2 : j ∈ vs
      · simp [h2]
      · simp [h2, Ne.symm h]
theorem wipe_ext {σ τ : List (Option V)} (h : ∀ j : Nat, σ[j]? = τ[j]?) : σ = τ := List.ext_getElem? h
theorem wipe_set {σ : Sg} {vs : List Nat} {i : Nat} {y : Option V} (h : i ∈ vs) : wipe (σ.set i y) vs = wipe σ vs := wipe_ext fun j => by
  rw [wipe_get, wipe_get, List.length_set]
  by_cases hj : j ∈ vs
  · rw [if_pos hj, if_pos hj]
  · rw [if_neg hj, if_neg hj, List.getElem?_set_ne (show i ≠ j from fun e => hj (by rw [← e]; exact h))]
theorem wipe_wipe {σ : Sg} {vs : List Nat} : wipe (wipe σ vs) vs = wipe σ vs := wipe_ext fun j => by
  rw [wipe_get, wipe_length]
  by_cases hj : j ∈ vs
  · rw [if_pos hj, wipe_get, if_pos hj]
  · rw [if_neg hj]
def wp (vs : List Nat) (s : S) : S := { s with env := wipeE vs s.env }
section
variable {c : Cn} {σ : Sg} {H H' : Hp} {s s' : S} {vs : List Nat}
theorem wn_wipe {a : Addr} (h : Wn c (wipe σ vs) (wipeE vs s.env) a) : Wn c σ s.env a := by
  rcases h with h | ⟨i, xs, e1, e2⟩
  · exact .inl h
  · rw [wipeE_get] at e1
    rw [wipe_get] at e2
    by_cases hi : i ∈ vs
    · rw [if_pos hi] at e1
      split at e1 <;> cases e1
    · rw [if_neg hi] at e1 e2
      exact .inr ⟨i, xs, e1, e2⟩
theorem SR.wipe (a : SR c σ H s) : SR c (wipe σ vs) H (wp vs s) where
  ext := a.ext
  len := by rw [wipe_length]; show _ = (wipeE vs s.env).length; rw [wipeE_len]; exact a.len
  env := fun i x e => by
    have e : (wipeE vs s.env)[i]? = some x := e
    rw [wipeE_get] at e
    rw [wipe_get]
    by_cases hi : i ∈ vs
    · rw [if_pos hi] at e
      split at e
      · cases e; trivial
      · cases e
    · rw [if_neg hi] at e ⊢
      exact (a.env i x e).to (fun p o e n => ⟨e, fun z => n (wn_wipe z)⟩) .refl
  apart := fun i j xs ys p e1 e2 e3 e4 => by
    have e1 : (wipeE vs s.env)[i]? = some (.own xs) := e1
    have e2 : (wipeE vs s.env)[j]? = some (.own ys) := e2
    rw [wipeE_get] at e1 e2
    rw [wipe_get] at e3 e4
    by_cases hi : i ∈ vs
    · rw [if_pos hi] at e1
      split at e1 <;> cases e1
    · by_cases hj : j ∈ vs
      · rw [if_pos hj] at e2
        split at e2 <;> cases e2
      · rw [if_neg hi] at e1 e3
        rw [if_neg hj] at e2 e4
        exact a.apart i j xs ys p e1 e2 e3 e4
  box := a.box
  there := a.there
  wbx := a.wbx
/-- the list that is being made, held back -/
def Cn.plus (c : Cn) (p : Addr) : Cn := { c with W0 := fun a => c.W0 a ∨ a = p }
theorem wn_plus {p a : Addr} (h : Wn (c.plus p) σ s.env a) : Wn c σ s.env a ∨ a = p := by
  rcases h with (h | h) | h
  · exact .inl (.inl h)
  · exact .inr h
  · exact .inl (.inr h)
theorem plus_wn {p a : Addr} (h : Wn c σ s.env a) : Wn (c.plus p) σ s.env a := by
  rcases h with h | h
  · exact .inl (.inl h)
  · exact .inr h
theorem SR.plus {p : Addr} {o : HO} (a : SR c σ H s) (n : H p = none) : SR (c.plus p) σ (L2.upd H p o) s where
  ext := a.ext.trans (Gr.upd n)
  len := a.len
  env := fun i x e => by
    have q := a.env i x e
    have kp : Kp (Wn c σ s.env) (Wn (c.plus p) σ s.env) H (L2.upd H p o) := fun q o' e2 n2 => ⟨by rw [upd_ne (ne_of_none e2 n)]; exact e2, fun z => (wn_plus z).elim n2 (ne_of_none e2 n)⟩
    cases x with
    | no => trivial
    | v d =>
      obtain ⟨u, e2, r⟩ := q
      exact ⟨u, e2, r.to kp⟩
    | own xs =>
      obtain ⟨q, vs, e2, n0, nb, nw, e3, r⟩ := q
      exact ⟨q, vs, e2, n0, nb, fun z => z.elim nw (ne_of_none e3 n), by rw [upd_ne (ne_of_none e3 n)]; exact e3, r.to kp⟩
  apart := a.apart
  box := by
    show L2.upd H p o c.bx = _
    rw [upd_ne (ne_of_none a.box n)]
    exact a.box
  there := fun q h => by
    rcases h with h | h
    · obtain ⟨o', e⟩ := a.there q h
      exact ⟨o', by rw [upd_ne (ne_of_none e n)]; exact e⟩
    · rw [h]; exact ⟨o, upd_same⟩
  wbx := .inl a.wbx
/-- it is changed -/
theorem SR.upd {p : Addr} {o : HO} (a : SR c σ H s) (w : c.W0 p) (n0 : c.H0 p = none) (nb : p ≠ c.bx) : SR c σ (L2.upd H p o) s where
  ext := fun q o' e n => by rw [upd_ne (fun z => by rw [z, n0] at e; cases e)]; exact a.ext q o' e n
  len := a.len
  env := fun i x e => by
    have q := a.env i x e
    have kp : Kp (Wn c σ s.env) (Wn c σ s.env) H (L2.upd H p o) := fun q o' e2 n2 => ⟨by rw [upd_ne (fun z => n2 (by rw [z]; exact .inl w))]; exact e2, n2⟩
    cases x with
    | no => trivial
    | v d =>
      obtain ⟨u, e2, r⟩ := q
      exact ⟨u, e2, r.to kp⟩
    | own xs =>
      obtain ⟨q, vs, e2, m0, mb, mw, e3, r⟩ := q
      exact ⟨q, vs, e2, m0, mb, mw, by rw [upd_ne (fun z => mw (by rw [z]; exact w))]; exact e3, r.to kp⟩
  apart := a.apart
  box := by rw [upd_ne (Ne.symm nb)]; exact a.box
  there := fun q h => by
    by_cases z : q = p
    · rw [z]; exact ⟨o, upd_same⟩
    · rw [upd_ne z]; exact a.there q h
  wbx := a.wbx
theorem SR.minus {p : Addr} (a : SR (c.plus p) σ H s) (w : c.W0 c.bx) : SR c σ H s where
  ext := a.ext
  len := a.len
  env := fun i x e => by
    have q := a.env i x e
    have kp : Kp (Wn (c.plus p) σ s.env) (Wn c σ s.env) H H := fun q o' e2 n2 => ⟨e2, fun z => n2 (plus_wn z)⟩
    cases x with
    | no => trivial
    | v d =>
      obtain ⟨u, e2, r⟩ := q
      exact ⟨u, e2, r.to kp⟩
    | own xs =>
      obtain ⟨q, vs, e2, m0, mb, mw, e3, r⟩ := q
      exact ⟨q, vs, e2, m0, mb, fun z => mw (.inl z), e3, r.to kp⟩
  apart := a.apart
  box := a.box
  there := fun q h => a.there q (.inl h)
  wbx := w
theorem plain_get : ∀ {vs : List Nat} {env : List Sl}, plainAt vs env = true → ∀ j ∈ vs, (∃ d, env[j]? = some (.v d)) ∨ env[j]? = some .no
  | [], env, _, j, hj => by cases hj
  | i :: is, env, h, j, hj => by
    unfold plainAt at h
    rw [Bool.and_eq_true] at h
    rcases List.mem_cons.mp hj with rfl | hj
    · have h1 := h.1
      cases e : env[j]? with
      | none => rw [e] at h1; cases h1
      | some sl =>
        rw [e] at h1
        cases sl with
        | no => exact .inr rfl
        | v d => exact .inl ⟨d, rfl⟩
        | own xs => cases h1
    · exact plain_get h.2 j hj
/-- behind a comprehension: the own names as they were ahead of it -/
theorem SR.back (a0 : SR c σ H s) (hp : plainAt vs s.env = true) (a : SR c (L2.wipe σ vs) H' (wp vs s')) (g : Gr c.bx H H') (sh : ∀ q, Wn c (L2.wipe σ vs) (wipeE vs s'.env) q → Wn c σ s.env q) :
    SR c σ H' { s' with env := backE s.env vs s'.env } ∧ ∀ q, Wn c σ (backE s.env vs s'.env) q → Wn c (L2.wipe σ vs) (wipeE vs s'.env) q := by
  have hl : s'.env.length = s.env.length := by
    have h1 := a.len
    have h2 : (wp vs s').env.length = s'.env.length := wipeE_len _ _
    rw [wipe_length, a0.len, h2] at h1
    exact h1.symm
  have look : ∀ {j : Nat} {x : Sl}, (backE s.env vs s'.env)[j]? = some x → (j ∈ vs ∧ s.env[j]? = some x ∧ ∀ ys, x ≠ .own ys) ∨ (j ∉ vs ∧ (wipeE vs s'.env)[j]? = some x ∧ (L2.wipe σ vs)[j]? = σ[j]?) := fun {j x} e => by
    rw [backE_get] at e
    by_cases hj : j ∈ vs
    · rw [if_pos hj] at e
      split at e
      · cases e
        rcases plain_get hp j hj with ⟨d, e⟩ | e
        · exact .inl ⟨hj, by rw [e]; rfl, fun ys => by rw [e]; exact fun z => by cases z⟩
        · exact .inl ⟨hj, by rw [e]; rfl, fun ys => by rw [e]; exact fun z => by cases z⟩
      · cases e
    · rw [if_neg hj] at e
      exact .inr ⟨hj, by rw [wipeE_get, if_neg hj]; exact e, by rw [wipe_get, if_neg hj]⟩
  have sh2 : ∀ q, Wn c σ (backE s.env vs s'.env) q → Wn c (L2.wipe σ vs) (wipeE vs s'.env) q := fun q h => by
    rcases h with h | ⟨i, xs, e1, e2⟩
    · exact .inl h
    · rcases look e1 with ⟨_, _, n⟩ | ⟨_, e3, e4⟩
      · exact (n xs rfl).elim
      · exact .inr ⟨i, xs, e3, by rw [e4]; exact e2⟩
  have k1 : Kp (Wn c (L2.wipe σ vs) (wipeE vs s'.env)) (Wn c σ (backE s.env vs s'.env)) H' H' := fun q o e n => ⟨e, fun z => n (sh2 q z)⟩
  have k2 : Kp (Wn c σ s.env) (Wn c σ (backE s.env vs s'.env)) H H' := fun q o e n => ⟨g q o e fun z => n (.inl (by rw [z]; exact a0.wbx)), fun z => n (sh q (sh2 q z))⟩
  refine ⟨⟨a.ext, ?_, fun i x e => ?_, fun i j xs ys p e1 e2 e3 e4 => ?_, a.box, a.there, a.wbx⟩, sh2⟩
  · show _ = (backE s.env vs s'.env).length
    rw [backE_len, hl]; exact a0.len
  · rcases look e with ⟨_, e1, n⟩ | ⟨_, e1, e2⟩
    · have q := a0.env i x e1
      cases x with
      | no => trivial
      | v d =>
        obtain ⟨u, e2, r⟩ := q
        exact ⟨u, e2, r.to k2⟩
      | own xs => exact (n xs rfl).elim
    · have q := a.env i x e1
      rw [e2] at q
      exact q.to k1 .refl
  · rcases look e1 with ⟨_, _, n⟩ | ⟨_, f1, g1⟩
    · exact (n xs rfl).elim
    · rcases look e2 with ⟨_, _, n⟩ | ⟨_, f2, g2⟩
      · exact (n ys rfl).elim
      · exact a.apart i j xs ys p f1 f2 (by rw [g1]; exact e3) (by rw [g2]; exact e4)
/-- a target's stores, by values -/
def gT (K : PySem.W.Frag) : PTg → TG
  | .name i => gName i
  | .tup l => gTup K l.length (l.foldr (fun i u => gCons (gName i) u) gNil)
theorem set_all : ∀ {l : List Nat} {ds : List D} {vs : List V} {σ : Sg} {H : Hp} {s : S} {env' : List Sl} {Q : Sg → Hp → Prop}, SR c σ H s → setAll l ds s.env = some env' → Rps c.toCb (Wn c σ s.env) H vs ds →
    (∀ σ', SR c σ' H { s with env := env' } → (∀ q, Wn c σ' env' q → Wn c σ s.env q) → (∀ ws, (∀ i ∈ l, i ∈ ws) → L2.wipe σ' ws = L2.wipe σ ws) → Q σ' H) →
    l.foldr (fun i u => gCons (gName i) u) gNil vs σ H Q
  | [], [], vs, σ, H, s, env', Q, a, e, r, q => by
    unfold setAll at e
    cases e
    exact ⟨r.inv_nil, q σ a (fun _ z => z) (fun _ _ => rfl)⟩
  | i :: is, d :: ds, vs, σ, H, s, env', Q, a, e, r, q => by
    obtain ⟨v, vs', rfl, r1, r2⟩ := r.inv_cons
    unfold setAll at e
    split at e
    · rename_i hi
      obtain ⟨a1, m1⟩ := a.put hi r1
      have sh1 : ∀ q, Wn c (σ.set i (some v)) (s.env.set i (.v d)) q → Wn c σ s.env q := fun q h => by
        rcases h with h | ⟨j, ys, e3, e4⟩
        · exact .inl h
        · by_cases hj : i = j
          · subst hj
            rw [List.getElem?_set_self hi] at e3
            cases e3
          · rw [List.getElem?_set_ne hj] at e3 e4
            exact .inr ⟨j, ys, e3, e4⟩
      refine ⟨v, vs', rfl, ?_⟩
      refine set_all (s := { s with env := s.env.set i (.v d) }) a1 e (r2.to fun q o e n => ⟨e, fun z => n (sh1 q z)⟩) fun σ' a2 sh2 w => q σ' a2 (fun q z => sh1 q (sh2 q z)) fun ws hw => ?_
      rw [w ws (fun j hj => hw j (List.mem_cons_of_mem _ hj)), wipe_set (hw i List.mem_cons_self)]
    · cases e
  | [], d :: ds, vs, σ, H, s, env', Q, a, e, r, q => by unfold setAll at e; cases e
  | i :: is, [], vs, σ, H, s, env', Q, a, e, r, q => by unfold setAll at e; cases e
theorem setAll_len : ∀ {l : List Nat} {ds : List D} {env env' : List Sl}, setAll l ds env = some env' → ds.length = l.length
  | [], [], _, _, _ => rfl
  | i :: is, d :: ds, env, env', e => by
    unfold setAll at e
    split at e
    · rw [List.length_cons, List.length_cons, setAll_len e]
    · cases e
  | [], d :: ds, _, _, e => by unfold setAll at e; cases e
  | i :: is, [], _, _, e => by unfold setAll at e; cases e
theorem asg_ok {K : PySem.W.Frag} {t : PTg} {d : D} {v : V} {Q : Sg → Hp → Prop} (hK : c.K = K) (a : SR c σ H s) (e : asgT t d s = some s') (r : Rp c.toCb (Wn c σ s.env) H v d)
    (q : ∀ σ', SR c σ' H s' → (∀ q, Wn c σ' s'.env q → Wn c σ s.env q) → (∀ ws, (∀ i ∈ t.slots, i ∈ ws) → L2.wipe σ' ws = L2.wipe σ ws) → Q σ' H) : gT K t v σ H Q := by
  cases t with
  | name i =>
    have e : (if i < s.env.length then some ({ s with env := s.env.set i (.v d) } : S) else none) = some s' := e
    split at e
    · rename_i hi
      cases e
      obtain ⟨a1, m1⟩ := a.put hi r
      refine q _ a1 (fun p h => ?_) fun ws hw => wipe_set (hw i (by simp [PTg.slots]))
      rcases h with h | ⟨j, ys, e3, e4⟩
      · exact .inl h
      · have e3 : (s.env.set i (.v d))[j]? = some (.own ys) := e3
        by_cases hj : i = j
        · subst hj
          rw [List.getElem?_set_self hi] at e3
          cases e3
        · rw [List.getElem?_set_ne hj] at e3 e4
          exact .inr ⟨j, ys, e3, e4⟩
    · cases e
  | tup l =>
    cases d with
    | tup xs =>
      have e : (setAll l xs s.env).map (fun e => ({ s with env := e } : S)) = some s' := e
      cases z : setAll l xs s.env with
      | none => rw [z] at e; cases e
      | some env' =>
        rw [z] at e
        cases e
        cases r with
        | @tup p vs _ h hl hr =>
          exact ⟨p, vs, rfl, hK ▸ h.sq, by rw [hl]; exact setAll_len z, set_all a z ⟨hl, hr⟩ q⟩
    | _ => cases e
end
end PV

namespace PV
open PySem PySem.Spec PyProof.Rows L2
abbrev noW : WX := fun _ _ _ _ => False
def tAnyB (x : Ex) (b : Cb) (f : S → R Bool) : TT := fun σ H Q => ∃ (W0 : Addr → Prop) (H0 : Hp), TvB x ⟨b, W0, H0⟩ noW f σ H Q
def tAnyE (x : Ex) (b : Cb) (f : S → R D) : TE := fun σ H Q => ∃ (W0 : Addr → Prop) (H0 : Hp), TvE x ⟨b, W0, H0⟩ noW f σ H Q
theorem compL_cons {t : PTg} {cond : S → R Bool} {elt : S → R D} {d : D} {xs : List D} {s se : S} {rest : List D} (h : compL t cond elt (d :: xs) s = .ok rest se) :
    ∃ sa b sb, asgT t d (wp t.slots s) = some sa ∧ cond sa = .ok b sb ∧ ((b = false ∧ compL t cond elt xs sb = .ok rest se) ∨ (b = true ∧ ∃ d' sd r', elt sb = .ok d' sd ∧ compL t cond elt xs sd = .ok r' se ∧ rest = d' :: r')) := by
  unfold compL at h
  cases e : asgT t d { s with env := wipeE t.slots s.env } with
  | none => rw [e] at h; cases h
  | some sa =>
    rw [e] at h
    dsimp only at h
    unfold bindR at h
    have nx : ∀ {α : Type} (m : S → R α) (s : S), noX m s = match m s with | .ok a s' => .ok a s' | _ => .bad := fun m s => rfl
    rw [nx] at h
    cases e2 : cond sa with
    | exc a b s' => rw [e2] at h; cases h
    | bad => rw [e2] at h; cases h
    | ok b sb =>
      rw [e2] at h
      dsimp only at h
      refine ⟨sa, b, sb, e, e2, ?_⟩
      cases b with
      | false => rw [if_neg Bool.false_ne_true] at h; exact .inl ⟨rfl, h⟩
      | true =>
        rw [if_pos rfl] at h
        rw [nx] at h
        cases e3 : elt sb with
        | exc a b s' => rw [e3] at h; cases h
        | bad => rw [e3] at h; cases h
        | ok d' sd =>
          rw [e3] at h
          dsimp only at h
          cases e4 : compL t cond elt xs sd with
          | exc a b s' => rw [e4] at h; cases h
          | bad => rw [e4] at h; cases h
          | ok r' s' =>
            rw [e4] at h
            cases h
            exact .inr ⟨rfl, d', sd, r', rfl, e4, rfl⟩
section
variable {x : Ex} {c : Cn} {W : WX} {X : Cx} {G : Gd} {F : FT} {con : Nat → D} {N : List Str} {k : Nat} {sc : Scope}
theorem r_compG {t : PTg} {tg elt iter : Expr} {ifs : List Expr} {scope : Scope} {own : List (Str × Nat)} {pos : Pos} {fi : S → R (List D)} {cond : S → R Bool} {felt : S → R D} (hX : Ctx G F con N k c.toCb sc X)
    (hi : PI X tg iter (TvI x c W fi)) (ok : BlkOk X.N X.env.scope scope own) (hv : own.map (·.2) = t.slots)
    (hg : ∀ (s : Shared) (H : Hp) (C : Addr) (cl : List (Str × Addr)) (fp : List Addr), PG (X.blk s H scope (compEnvC scope cl C X.env) fp) tg (gT X.K t))
    (ht : ∀ (s : Shared) (H : Hp) (C : Addr) (cl : List (Str × Addr)) (fp : List Addr), PTs (X.blk s H scope (compEnvC scope cl C X.env) fp) ifs (tAnyB x c.toCb cond))
    (he : ∀ (s : Shared) (H : Hp) (C : Addr) (cl : List (Str × Addr)) (fp : List Addr), PE (X.blk s H scope (compEnvC scope cl C X.env) fp) elt (tAnyE x c.toCb felt))
    (hs : ∀ v, foldedSetIterable iter X.env v = pure v) : ∀ σ H (Q : VK), TvE x c W (bindR fi fun xs => compR t cond felt xs) σ H Q → tLc (TvI x c W fi) (gT X.K t) (tAnyB x c.toCb cond) (tAnyE x c.toCb felt) (own.map (·.2)) σ H Q := by
  intro σ H Q q
  refine Tv.of1 (rel := RI c) q fun J H1 xs s s1 a a1 rc j p => ?_
  intro D hD
  unfold compR at p
  split at p
  case isFalse => exact p.elim
  rename_i hcond
  rw [Bool.and_eq_true] at hcond
  have hplain := hcond.1
  have hlen := of_decide_eq_true hcond.2
  cases e : compL t cond felt xs s1 with
  | exc a b s' => rw [e] at p; exact p.elim
  | bad => rw [e] at p; exact p.elim
  | ok ds se =>
  rw [e] at p
  rw [hv]
  have nb : D ≠ c.bx := ne_of_none a1.box hD |>.symm
  have nW : ¬ Wn c σ s1.env D := a1.hold.no hD
  have n0 : c.H0 D = none := by
    cases z : c.H0 D with
    | none => rfl
    | some o => rw [a1.ext D o z nb] at hD; cases hD
  refine ⟨fun i m Hi => m = xs.length - i ∧ i ≤ xs.length ∧ ∃ (si : S) (acc : List V) (dacc rest : List PV.D), SR (c.plus D) (L2.wipe σ t.slots) Hi (wp t.slots si) ∧ compL t cond felt (xs.drop i) si = .ok rest se ∧ ds = dacc ++ rest ∧
    Hi D = some (.lst acc) ∧ Rps c.toCb (Wn (c.plus D) (L2.wipe σ t.slots) (wipeE t.slots si.env)) Hi acc dacc ∧ acc.length ≤ i ∧ Gr c.bx H1 Hi ∧ (∀ q, Wn (c.plus D) (L2.wipe σ t.slots) (wipeE t.slots si.env) q → Wn c σ s1.env q ∨ q = D),
    ⟨xs.length, by simp, Nat.zero_le _, s1, [], [], ds, ?_, e, rfl, upd_same, .nil, Nat.le_refl _, Gr.upd hD, fun q h => ?_⟩, ?_⟩
  · exact a1.wipe.plus hD
  · rcases wn_plus (s := wp t.slots s1) h with h | h
    · exact .inl (wn_wipe h)
    · exact .inr h
  rintro i m Hi ⟨rfl, hle, si, acc, dacc, rest, sr, ec, rfl, eD, racc, hacc, gr, sh⟩
  have kp : Kp (Wn c σ s1.env) (Wn (c.plus D) (L2.wipe σ t.slots) (wipeE t.slots si.env)) H1 Hi := fun q o eo n =>
    ⟨gr q o eo fun z => n (.inl (by rw [z]; exact a1.wbx)), fun z => (sh q z).elim n (ne_of_none eo hD)⟩
  obtain ⟨jgo, jst⟩ := j _ Hi kp sr.hold
  by_cases hlt : i < xs.length
  · -- a turn
    have ex : xs[i]? = some xs[i] := List.getElem?_eq_getElem hlt
    obtain ⟨go, yl⟩ := jgo i _ ex
    rw [List.drop_eq_getElem_cons hlt] at ec
    obtain ⟨sa, b, sb, ea, eb, hb⟩ := compL_cons ec
    refine .inr ⟨go, fun H' => xs.length - (i + 1) = xs.length - (i + 1) ∧ i + 1 ≤ xs.length ∧ ∃ (si : S) (acc : List V) (dacc' rest' : List PV.D), SR (c.plus D) (L2.wipe σ t.slots) H' (wp t.slots si) ∧ compL t cond felt (xs.drop (i + 1)) si = .ok rest' se ∧ dacc ++ rest = dacc' ++ rest' ∧
      H' D = some (.lst acc) ∧ Rps c.toCb (Wn (c.plus D) (L2.wipe σ t.slots) (wipeE t.slots si.env)) H' acc dacc' ∧ acc.length ≤ i + 1 ∧ Gr c.bx H1 H' ∧ (∀ q, Wn (c.plus D) (L2.wipe σ t.slots) (wipeE t.slots si.env) q → Wn c σ s1.env q ∨ q = D),
      fun H' h => ⟨xs.length - (i + 1), by omega, h⟩, fun v H' y => ?_⟩
    obtain ⟨sm, rv⟩ := yl v H' y
    have sr1 := sr.same sm
    refine asg_ok (c := c.plus D) hX.bK sr1 ea rv fun σ2 sr2 sh2 wq => ?_
    have ew : L2.wipe σ2 t.slots = L2.wipe σ t.slots := by rw [wq t.slots fun i hi => hi, wipe_wipe]
    refine ⟨ew, (c.plus D).W0, c.H0, sa, sr2, ?_⟩
    show Post RB x (c.plus D) noW σ2 H' sa (cond sa) _
    rw [eb]
    intro vb H3 sr3 rc3 rb
    subst rb
    have gr3 : Gr c.bx Hi H3 := (gr_same sm).trans rc3.gr
    have sh3 : ∀ q, Wn (c.plus D) σ2 sb.env q → Wn (c.plus D) (L2.wipe σ t.slots) (wipeE t.slots si.env) q := fun q h => sh2 q (rc3.sh q h)
    have wD : Wn (c.plus D) (L2.wipe σ t.slots) (wipeE t.slots si.env) D := .inl (.inr rfl)
    rcases hb with ⟨rfl, e5⟩ | ⟨rfl, d', sd, r', e5, e6, rfl⟩
    · rw [if_neg Bool.false_ne_true]
      have sw := sr3.wipe (vs := t.slots)
      rw [ew] at sw
      have shw : ∀ q, Wn (c.plus D) (L2.wipe σ t.slots) (wipeE t.slots sb.env) q → Wn (c.plus D) (L2.wipe σ t.slots) (wipeE t.slots si.env) q := fun q h => sh3 q (wn_wipe (σ := σ2) (by rw [ew]; exact h))
      exact ⟨rfl, hlt, sb, acc, dacc, rest, sw, e5, rfl, gr3 _ _ eD nb, racc.to fun q o eo n => ⟨gr3 q o eo fun z => n (.inl (.inl (by rw [z]; exact a1.wbx))), fun z => n (shw q z)⟩, by omega, gr.trans gr3, fun q h => sh q (shw q h)⟩
    · rw [if_pos rfl]
      refine ⟨(c.plus D).W0, c.H0, sb, sr3, ?_⟩
      show Post (RE (c.plus D)) x (c.plus D) noW σ2 H3 sb (felt sb) _
      rw [e5]
      intro y4 H4 sr4 rc4 ry
      have gr4 : Gr c.bx Hi H4 := gr3.trans rc4.gr
      have sh4 : ∀ q, Wn (c.plus D) σ2 sd.env q → Wn (c.plus D) (L2.wipe σ t.slots) (wipeE t.slots si.env) q := fun q h => sh3 q (rc4.sh q h)
      have sw := (sr4.upd (p := D) (o := .lst (acc ++ [y4])) (.inr rfl) n0 nb).wipe (vs := t.slots)
      rw [ew] at sw
      have shw : ∀ q, Wn (c.plus D) (L2.wipe σ t.slots) (wipeE t.slots sd.env) q → Wn (c.plus D) σ2 sd.env q := fun q h => wn_wipe (σ := σ2) (by rw [ew]; exact h)
      have nD : ∀ {q : Addr} {Z : Addr → Prop}, Z D → ¬ Z q → q ≠ D := fun hz n z => n (by rw [z]; exact hz)
      refine ⟨acc, gr4 _ _ eD nb, ?_, rfl, hlt, sd, acc ++ [y4], dacc ++ [d'], r', sw, e6, by simp, upd_same, ?_, by rw [List.length_append]; simp; omega, ?_, fun q h => sh q (sh4 q (shw q h))⟩
      · exact Nat.lt_of_lt_of_le (Nat.lt_of_le_of_lt hacc hlt) (big_line hlen)
      · refine Rps.append (racc.to fun q o eo n => ⟨by rw [upd_ne (nD wD n)]; exact gr4 q o eo fun z => n (.inl (.inl (by rw [z]; exact a1.wbx))), fun z => n (sh4 q (shw q z))⟩) (Rps.cons (ry.to fun q o eo n => ⟨by rw [upd_ne (nD (Z := Wn (c.plus D) σ2 sd.env) (.inl (.inr rfl)) n)]; exact eo, fun z => n (shw q z)⟩) .nil)
      · exact fun q o eo n => by rw [upd_ne (ne_of_none eo hD)]; exact (gr.trans gr4) q o eo n
  · -- the end
    have ei : i = xs.length := by omega
    subst ei
    refine .inl ⟨jst _ (Nat.le_refl _), ?_⟩
    rw [List.drop_length] at ec
    unfold compL at ec
    cases ec
    rw [List.append_nil] at p
    have srm := sr.minus a1.wbx
    have nD : ¬ Wn c (L2.wipe σ t.slots) (wipeE t.slots se.env) D := fun h => by
      rcases h with h | ⟨i, ys, e1, e2⟩
      · exact nW (.inl h)
      · obtain ⟨q, vs, e3, _, _, nw, _⟩ := sr.env i _ e1
        rw [e2] at e3
        cases e3
        exact nw (.inr rfl)
    have shm : ∀ q, Wn c (L2.wipe σ t.slots) (wipeE t.slots se.env) q → Wn c σ s1.env q := fun q h => (sh q (plus_wn (s := wp t.slots se) h)).elim id fun z => by
      rw [z] at h; exact (nD h).elim
    obtain ⟨sb, shb⟩ := a1.back hplain srm gr shm
    refine p (.ref D) Hi sb ⟨gr, fun q h => shm q (shb q h)⟩ (.lst eD (fun h => nD (shb _ h)) racc.1 (racc.to fun q o eo n => ⟨eo, fun z => n (plus_wn (s := wp t.slots se) (shb q z))⟩).2)
end
end PV

/-! a comprehension over the keys of an empty dict in a slot -/
namespace PV
open PySem PySem.Spec PyProof.Rows L2
section
variable {x : Ex} {c : Cn} {W : WX} {X : Cx} {G : Gd} {F : FT} {con : Nat → D} {N : List Str} {k : Nat} {sc : Scope}
theorem r_dctE {i : Nat} {nm : Str} {p pos : Pos} {tg e : Expr} {ifs : List Expr} {scope : Scope} {own : List (Str × Nat)} (hX : Ctx G F con N k c.toCb sc X) (h1 : slotB N i nm = true) (h2 : visB sc nm = true) (ok : BlkOk X.N X.env.scope scope own) :
    PE X (.ListComp e [⟨tg, .Name nm p, ifs, 0⟩] scope pos) (TvE x c W (dctE i)) := by
  obtain ⟨v1, v2, v3⟩ := vis_ok h2
  have hv := pe_var (X := X) (pos := p) (by rw [hX.nN]; exact slot_ix h1) (by rw [hX.scp]; exact v1) v2 v3
  refine PEi (pe_lock (pe_lc (g := fun _ _ _ _ => False) (tt := fun _ _ _ => False) (te := fun _ _ _ => False) hX.calm (by rw [hX.nN]; exact hX.nd) (pi_keys hv) ok (fun s H C cl fp => ⟨fun _ _ _ _ _ _ _ _ _ q => q.elim⟩) (fun s H C cl fp => ⟨fun _ _ _ _ _ _ q => q.elim⟩) (fun s H C cl fp => ⟨fun _ _ _ _ _ _ q => q.elim⟩))) fun σ H Q ⟨s, sr, p⟩ => ?_
  unfold dctE at p
  cases es : s.env[i]? with
  | none => rw [es] at p; exact p.elim
  | some sl =>
    rw [es] at p
    cases sl with
    | no => exact p.elim
    | own xs => exact p.elim
    | v d =>
      cases d with
      | dct kvs =>
        cases kvs with
        | cons q r => exact p.elim
        | nil =>
          obtain ⟨u, e1, r⟩ := sr.env i _ es
          cases r with
          | @dct a vs _ hA hw hl hk ha =>
            obtain rfl : vs = [] := List.eq_nil_of_length_eq_zero hl
            refine ⟨a, .dK [], hA, trivial, fun od => ⟨.ref a, e1, a, od, rfl, .inl ⟨[], upd_same, fun D hD => ?_⟩⟩⟩
            have hne : D ≠ a := fun z => by rw [z, upd_same] at hD; cases hD
            have hD0 : H D = none := by rw [upd_ne hne] at hD; exact hD
            refine ⟨fun j m H' => j = 0 ∧ H' = L2.upd (L2.upd H a (.frz od (.dK []))) D (.lst []), ⟨0, rfl, rfl⟩, ?_⟩
            rintro j m H' ⟨rfl, rfl⟩
            have ea : L2.upd (L2.upd H a (.frz od (.dK []))) D (.lst []) a = some (.frz od (.dK [])) := by rw [upd_ne (Ne.symm hne)]; exact upd_same
            refine .inl ⟨⟨ea, Nat.le_refl 0⟩, ea, ?_⟩
            have eH : L2.upd (L2.upd (L2.upd H a (.frz od (.dK []))) D (.lst [])) a (.dK []) = L2.upd H D (.lst []) := by
              funext z
              by_cases hz : z = a
              · subst hz; rw [upd_same, upd_ne (Ne.symm hne), hA]
              · rw [upd_ne hz]
                by_cases hd : z = D
                · subst hd; rw [upd_same, upd_same]
                · rw [upd_ne hd, upd_ne hd, upd_ne hz]
            rw [eH]
            exact p (.ref D) _ (sr.same (same_new hD0)) (rch_same (same_new hD0)) (.newL sr.hold hD0 .nil)
      | _ => exact p.elim
theorem rps_rev {b : Cb} {W1 : Addr → Prop} {H1 : Hp} {vs : List V} {xs : List D} (h : Rps b W1 H1 vs xs) : Rps b W1 H1 vs.reverse xs.reverse := by
  refine ⟨by rw [List.length_reverse, List.length_reverse]; exact h.1, fun i v d e1 e2 => ?_⟩
  have l1 := (List.getElem?_eq_some_iff.mp e1).1
  have l2 := (List.getElem?_eq_some_iff.mp e2).1
  rw [List.length_reverse] at l1 l2
  rw [List.getElem?_reverse l1] at e1
  rw [List.getElem?_reverse l2, ← h.1] at e2
  exact h.2 _ v d e1 e2
theorem r_rev {a : Expr} {fa : S → R D} {kk : Nat} {p1 p2 p3 pos : Pos} (hX : Ctx G F con N k c.toCb sc X) (ha : PE X a (TvP x c W fa)) : PE X (.Subscript a (.Slice none none (some (.UnaryOp .USub (.Constant (.int 1) kk p1) p2)) p3) pos) (TvE x c W (bindR fa fun v => optR (revD v))) :=
  PEi (pe_revA ha) fun σ H Q q => Tv.of1 (rel := RP c) q fun v H1 da s s1 a a1 rc r p => by
    obtain ⟨d, e, q⟩ := p.done a1
    cases da with
    | lst xs =>
      cases e
      obtain ⟨l1, vs, e4, h1, r1⟩ := r.lst
      exact .inl ⟨l1, vs, e4, .of h1, fun p np => q _ _ (same_new np) (.newL a1.hold np (rps_rev r1))⟩
    | tup xs =>
      cases e
      obtain ⟨l1, vs, e4, h1, r1⟩ := r.tup
      exact .inr ⟨l1, vs, e4, hX.bK ▸ h1.sq, fun p np => q _ _ (same_new np) (.newT a1.hold np (rps_rev r1))⟩
    | _ => cases e
end
end PV

namespace PV
open PySem PySem.Spec PyProof.Rows L2
section
variable {x : Ex} {G : Gd} {F : FT} {con : Nat → D} {N : List Str} {k : Nat}
theorem Ctx.blk {b : Cb} {sc : Scope} {X : Cx} (hX : Ctx G F con N k b sc X) (s : Shared) (H : Hp) (scope : Scope) (C : Addr) (cl : List (Str × Addr)) (fp : List Addr) : Ctx G F con N k b (relS scope sc) (X.blk s H scope (compEnvC scope cl C X.env) fp) where
  nN := hX.nN
  nd := hX.nd
  scp := by
    have e : (compEnvC scope cl C X.env).scope = relS scope X.env.scope := rfl
    show (compEnvC scope cl C X.env).scope = _
    rw [e, hX.scp]
  calm := hX.calm
  room := hX.room
  bK := hX.bK
  free := hX.free
  cons := hX.cons
  gcd := hX.gcd
theorem Fns.blk {fa : Nat → Addr} {X : Cx} (hF : Fns x G F k fa X) (s : Shared) (H : Hp) (scope : Scope) (e : Env) (fp : List Addr) : Fns x G F k fa (X.blk s H scope e fp) := ⟨hF.at_⟩
theorem blk_takes {X : Cx} : Takes X noW := takes0
theorem not_set {e : Expr} (h : isSet e = false) {env : Env} : ∀ v, foldedSetIterable e env v = pure v := fun v => by
  cases e <;> first | rfl | cases h
theorem nms_get : ∀ {l : List Nat} {es : List Expr}, nms N l es = true → ∀ {X : Cx} {scope : Scope}, X.N = N → N.Nodup → es.all (fun e => locB scope (nmOf e)) = true → (∀ nm, locB scope nm = true → Loc X.env.scope nm ∧ (X.fn nm = true ∨ X.env.scope.names.lookup nm = some .local)) →
    PGs X es (l.foldr (fun i u => gCons (gName i) u) gNil)
  | [], [], _, _, _, _, _, _, _ => pgs_nil
  | i :: is, .Name nm p :: es, h, X, scope, e1, e2, e3, e4 => by
    unfold nms at h
    rw [Bool.and_eq_true] at h
    rw [List.all_cons, Bool.and_eq_true] at e3
    obtain ⟨l1, l2⟩ := e4 nm e3.1
    exact pgs_cons (pg_name (by rw [e1]; exact e2) (by rw [e1]; exact slot_ix h.1) l1 l2) (nms_get h.2 e1 e2 e3.2 e4)
  | [], e :: es, h, _, _, _, _, _, _ => by cases h
  | i :: is, [], h, _, _, _, _, _, _ => by cases h
  | i :: is, e :: es, h, X, scope, e1, e2, e3, e4 => by
    cases e with
    | Name nm p =>
      unfold nms at h
      rw [Bool.and_eq_true] at h
      rw [List.all_cons, Bool.and_eq_true] at e3
      obtain ⟨l1, l2⟩ := e4 nm e3.1
      exact pgs_cons (pg_name (by rw [e1]; exact e2) (by rw [e1]; exact slot_ix h.1) l1 l2) (nms_get h.2 e1 e2 e3.2 e4)
    | _ => cases h
theorem nms_len : ∀ {l : List Nat} {es : List Expr} {env : Env}, nms N l es = true → (assignEach es env).length = l.length ∧ (assignEach es env).findIdx? (·.1) = none
  | [], [], _, _ => ⟨rfl, rfl⟩
  | i :: is, e :: es, env, h => by
    cases e with
    | Name nm p =>
      unfold nms at h
      rw [Bool.and_eq_true] at h
      obtain ⟨h1, h2⟩ := nms_len (env := env) h.2
      have e1 : assignEach (.Name nm p :: es) env = (false, assign (.Name nm p) env) :: assignEach es env := rfl
      rw [e1]
      refine ⟨by rw [List.length_cons, h1, List.length_cons], ?_⟩
      rw [List.findIdx?_cons, h2]
      rfl
    | _ => cases h
  | [], e :: es, _, h => by cases h
  | i :: is, [], _, h => by cases h
/-- a target, by its names -/
theorem pg_of {t : PTg} {tg : Expr} {scope : Scope} {X : Cx} (h : mG N scope t tg = true) (e1 : X.N = N) (e2 : N.Nodup) (hc : X.calm = true) (e4 : ∀ nm, locB scope nm = true → Loc X.env.scope nm ∧ (X.fn nm = true ∨ X.env.scope.names.lookup nm = some .local)) : PG X tg (gT X.K t) := by
  cases t with
  | name i =>
    cases tg with
    | Name nm p =>
      have h : (slotB N i nm && locB scope nm) = true := h
      rw [Bool.and_eq_true] at h
      obtain ⟨l1, l2⟩ := e4 nm h.2
      exact pg_name (by rw [e1]; exact e2) (by rw [e1]; exact slot_ix h.1) l1 l2
    | _ => cases h
  | tup l =>
    cases tg with
    | Tuple es kk p =>
      have h : (nms N l es && es.all (fun e => locB scope (nmOf e))) = true := h
      rw [Bool.and_eq_true] at h
      obtain ⟨n1, n2⟩ := nms_len (env := X.env) h.1
      exact pg_tup hc (nms_get h.1 e1 e2 h.2 e4) n1 n2
    | _ => cases h
theorem mGc_mG {scope : Scope} {t : PTg} {tg : Expr} (h : mGc N scope t tg = true) : mG N scope t tg = true := by
  cases t <;> cases tg <;> first | exact h | cases h
theorem loc_blk {scope sc : Scope} {X : Cx} {s : Shared} {H : Hp} {C : Addr} {cl : List (Str × Addr)} {fp : List Addr} (nm : Str) (h : locB scope nm = true) :
    Loc (X.blk s H scope (compEnvC scope cl C X.env) fp).env.scope nm ∧ ((X.blk s H scope (compEnvC scope cl C X.env) fp).fn nm = true ∨ (X.blk s H scope (compEnvC scope cl C X.env) fp).env.scope.names.lookup nm = some .local) := by
  unfold locB at h
  have e : (X.blk s H scope (compEnvC scope cl C X.env) fp).env.scope = relS scope X.env.scope := rfl
  rw [e]
  rw [Bool.or_eq_true] at h
  rcases h with h | h
  · have h := of_decide_eq_true h
    have q := lookup_relS_keep (sc := X.env.scope) (by decide) h
    exact ⟨.inl q, .inr q⟩
  · have h := of_decide_eq_true h
    have q := lookup_relS_keep (sc := X.env.scope) (by decide) h
    refine ⟨.inr q, .inl ?_⟩
    show (scope.names.lookup nm == some .cell) = true
    rw [h]
    rfl
/-- an operand, by its matching -/
theorem sP_of {pe : PX} {sc : Scope} {e : Expr} {X : Cx} {W : WX} {c : Cn} (h : mE G N sc pe e = true) (hX : Ctx G F con N k c.toCb sc X) (he : PE X e (TvE x c W (evalE F con pe))) : PE X e (TvP x c W (pk pe (evalE F con pe))) := by
  cases pe with
  | slot i =>
    cases e with
    | Name nm p =>
      have h : (slotB N i nm && visB sc nm) = true := h
      rw [Bool.and_eq_true] at h
      exact r_slotP hX h.1 h.2
    | _ => exact (Bool.false_ne_true h).elim
  | _ => exact peekE he
theorem sI_set : ∀ (it : PIt) {sc : Scope} {tg e : Expr}, mI G N sc it tg e = true → isSet e = false
  | .seq p, sc, tg, e, h => by
    have h : (mE G N sc p e && !isSet e) = true := h
    have h2 := (Bool.and_eq_true_iff.mp h).2
    simpa using h2
  | .range1 p, sc, tg, e, h => by cases e <;> first | rfl | exact (Bool.false_ne_true h).elim
  | .range2 p q, sc, tg, e, h => by cases e <;> first | rfl | exact (Bool.false_ne_true h).elim
  | .enum p, sc, tg, e, h => by cases tg <;> cases e <;> first | rfl | exact (Bool.false_ne_true h).elim
  | .zip p q, sc, tg, e, h => by cases tg <;> cases e <;> first | rfl | exact (Bool.false_ne_true h).elim
theorem r_dct0 {c : Cn} {W : WX} {X : Cx} {pos : Pos} : PE X (.Dict [] [] pos) (TvE x c W (retR (.dct []))) := PEi pe_dnewK fun σ H Q ⟨s, a, p⟩ => fun q nq =>
  p (.ref q) _ (a.same (same_new nq)) (rch_same (same_new nq)) (.dct upd_same (a.hold.no nq) rfl (fun i p q e _ => by simp at e) (fun i p q e _ => by simp at e))
theorem r_call0 {c : Cn} {W : WX} {X : Cx} {i : Nat} {nm : Str} {sc : Scope} {pos pp : Pos} (hX : Ctx G F con N k c.toCb sc X) (hF : Fns x G F k c.fa X) (tk : Takes X W) (h1 : G.fns[i]? = some nm) (h2 : glB sc nm = true) :
    PE X (.Call (.Name nm pp) [] [] pos) (TvE x c W (bindR (retR []) fun ds => callR F i ds)) := by
  obtain ⟨g1, g2, _⟩ := gl_ok hX.scp h2
  obtain ⟨m1, m2, fd, m3, m4, _⟩ := hF.at_ i nm h1
  refine ⟨fun pins s σ H Q I q => ?_⟩
  obtain ⟨s0, a, p⟩ := q
  refine wpAny_Call_Name_kw (ld_glob I g1 m1 ?_ g2)
  exact PySem.W.callWith_K0 I.kIn m2 (run_fnS (us := []) m4 hX.room m3 (fun _ _ _ _ _ I c => passAt tk σ _ _ _ _ _ I c) I .nil (ret_call hX.bK a .nil p))
end
end PV

namespace PV
open PySem PySem.Spec PyProof.Rows L2
section
variable (x : Ex) (G : Gd) (F : FT) (con : Nat → D) (N : List Str) (k : Nat)
theorem and2 {a b : Bool} (h : (a && b) = true) : a = true ∧ b = true := Bool.and_eq_true_iff.mp h
theorem nott {b : Bool} (h : (!b) = true) : b = false := by cases b; rfl; cases h
theorem an0 {i : Int} (h : decide (i = 0) = true) : i = 0 := of_decide_eq_true h
theorem dctN_of {G : Gd} {F : FT} {con : Nat → D} {N : List Str} {k : Nat} {g : PTg} {i : Nat} {sc : Scope} {l : Expr} {ops : List CmpOp} {rs : List Expr} {pos : Pos} {X : Cx} {c : Cn} (h : mE G N sc (.dctN g i) (.Compare l ops rs pos) = true) (hX : Ctx G F con N k c.toCb sc X) :
    ∃ ee t nm np ifs scope lp p2, l = .ListComp ee [⟨t, .Name nm np, ifs, 0⟩] scope lp ∧ ops = [cpOf .eq] ∧ rs = [.List [] p2] ∧ BlkOk X.N X.env.scope scope (ownOf g t) ∧ slotB N i nm = true ∧ visB sc nm = true := by
  unfold mE at h
  split at h
  all_goals first | (cases h; done) | (cases ‹PX.dctN g i = PX.hole›; done) | skip
  all_goals (rename_i h1 h2; first | (cases h1; done) | (cases h2; done) | skip)
  cases h1
  cases h2
  obtain ⟨q1, q5⟩ := and2 h
  obtain ⟨q1, q4⟩ := and2 q1
  obtain ⟨q1, q3⟩ := and2 q1
  obtain ⟨q1, q2⟩ := and2 q1
  obtain rfl := of_decide_eq_true q1
  obtain rfl := an0 q2
  have bo := blkOk_by q3
  rw [← hX.nN, ← hX.scp] at bo
  exact ⟨_, _, _, _, _, _, _, _, rfl, rfl, rfl, bo, q4, q5⟩
theorem keys_names : ∀ {ps : PXs} {ks : List Str} {kws : List Keyword} {sc : Scope}, mKs G N sc ps ks kws = true → kws.map (·.arg) = ks.map some
  | .nil, [], [], _, _ => rfl
  | .cons p r, k :: ks, ⟨n, e, kp⟩ :: kws, sc, h => by
    have h : (decide (n = some k) && mE G N sc p e && mKs G N sc r ks kws) = true := h
    obtain ⟨h1, h2⟩ := and2 h
    obtain ⟨h3, _⟩ := and2 h1
    rw [List.map_cons, List.map_cons, keys_names h2, of_decide_eq_true h3]
  | .nil, [], _ :: _, _, h => (Bool.false_ne_true h).elim
  | .nil, _ :: _, _, _, h => (Bool.false_ne_true h).elim
  | .cons _ _, [], _, _, h => (Bool.false_ne_true h).elim
  | .cons _ _, _ :: _, [], _, h => (Bool.false_ne_true h).elim
  | .star _ _, _, _, _, h => (Bool.false_ne_true h).elim
theorem pes_ne {ps : PXs} {es : List Expr} {sc : Scope} (h : mEs G N sc ps es = true) (n : ps ≠ .nil) : es ≠ [] := fun e => by
  subst e
  cases ps with
  | nil => exact n rfl
  | _ => exact (Bool.false_ne_true h).elim
mutual
theorem sE : ∀ (pe : PX) {sc : Scope} {e : Expr} {X : Cx} {W : WX} {c : Cn}, mE G N sc pe e = true → Ctx G F con N k c.toCb sc X → Fns x G F k c.fa X → Takes X W → PE X e (TvE x c W (evalE F con pe))
  | .slot i, sc, e, X, W, c, h, hX, hF, tk => by
    cases e with
    | Name nm p => obtain ⟨h1, h2⟩ := and2 h; exact r_slot hX h1 h2
    | _ => exact (Bool.false_ne_true h).elim
  | .glob g, sc, e, X, W, c, h, hX, hF, tk => by
    cases e with
    | Name nm p => obtain ⟨h1, h2⟩ := and2 h; exact r_glob hX (of_decide_eq_true h1) h2
    | _ => exact (Bool.false_ne_true h).elim
  | .int i, sc, e, X, W, c, h, hX, hF, tk => by
    cases e with
    | Constant co _ _ =>
      cases co with
      | int j =>
        obtain rfl : i = j := of_decide_eq_true h
        exact r_const pe_int fun _ _ => .int i
      | _ => exact (Bool.false_ne_true h).elim
    | _ => exact (Bool.false_ne_true h).elim
  | .bl i, sc, e, X, W, c, h, hX, hF, tk => by
    cases e with
    | Constant co _ _ =>
      cases co with
      | bool j =>
        obtain rfl : i = j := eq_of_beq h
        exact r_const pe_bl fun _ _ => .bl i
      | _ => exact (Bool.false_ne_true h).elim
    | _ => exact (Bool.false_ne_true h).elim
  | .non, sc, e, X, W, c, h, hX, hF, tk => by
    cases e with
    | Constant co _ _ =>
      cases co with
      | none => exact r_const pe_non fun _ _ => .non
      | _ => exact (Bool.false_ne_true h).elim
    | _ => exact (Bool.false_ne_true h).elim
  | .str i, sc, e, X, W, c, h, hX, hF, tk => by
    cases e with
    | Constant co _ _ =>
      cases co with
      | str j =>
        obtain rfl : i = j := of_decide_eq_true h
        exact r_const pe_str fun _ _ => .str i
      | _ => exact (Bool.false_ne_true h).elim
    | _ => exact (Bool.false_ne_true h).elim
  | .tup es, sc, e, X, W, c, h, hX, hF, tk => by
    cases e with
    | Tuple l _ _ => exact r_tup (sEs es h hX hF tk)
    | _ => exact (Bool.false_ne_true h).elim
  | .lst es, sc, e, X, W, c, h, hX, hF, tk => by
    cases e with
    | List l _ => exact r_lst (sEs es h hX hF tk)
    | _ => exact (Bool.false_ne_true h).elim
  | .hole, sc, e, X, W, c, h, hX, hF, tk => ⟨fun pins s σ H Q I ⟨s0, a, p⟩ => p.elim⟩
  | .dct0, sc, e, X, W, c, h, hX, hF, tk => by
    cases e with
    | Dict ks vs _ =>
      cases ks with
      | nil =>
        cases vs with
        | nil => exact r_dct0
        | cons => exact (Bool.false_ne_true h).elim
      | cons => exact (Bool.false_ne_true h).elim
    | _ => exact (Bool.false_ne_true h).elim
  | .bin o a b, sc, e, X, W, c, h, hX, hF, tk => by
    cases e with
    | BinOp l op r _ =>
      obtain ⟨h1, h3⟩ := and2 h
      obtain ⟨h1, h2⟩ := and2 h1
      obtain rfl : op = opOf o := of_decide_eq_true h1
      exact r_bin o hX (sP_of h2 hX (sE a h2 hX hF tk)) (sP_of h3 hX (sE b h3 hX hF tk))
    | _ => exact (Bool.false_ne_true h).elim
  | .neg a, sc, e, X, W, c, h, hX, hF, tk => by
    cases e with
    | UnaryOp op l _ =>
      cases op with
      | USub => exact r_neg (sE a h hX hF tk)
      | _ => exact (Bool.false_ne_true h).elim
    | _ => exact (Bool.false_ne_true h).elim
  | .not a, sc, e, X, W, c, h, hX, hF, tk => by
    cases e with
    | UnaryOp op l _ =>
      cases op with
      | Not => exact r_not hX (sP_of h hX (sE a h hX hF tk))
      | _ => exact (Bool.false_ne_true h).elim
    | _ => exact (Bool.false_ne_true h).elim
  | .cmp o a b, sc, e, X, W, c, h, hX, hF, tk => by
    cases e with
    | Compare l ops rs _ =>
      match ops, rs, h with
      | [op], [r], h =>
        obtain ⟨h1, h3⟩ := and2 h
        obtain ⟨h1, h2⟩ := and2 h1
        obtain rfl : op = cpOf o := of_decide_eq_true h1
        exact r_cmp o hX (sP_of h2 hX (sE a h2 hX hF tk)) (sP_of h3 hX (sE b h3 hX hF tk)) (by cases o <;> exact nomark _)
      | [], _, h => exact (Bool.false_ne_true h).elim
      | [_], [], h => exact (Bool.false_ne_true h).elim
      | [_], _ :: _ :: _, h => exact (Bool.false_ne_true h).elim
      | _ :: _ :: _, _, h => exact (Bool.false_ne_true h).elim
    | _ => exact (Bool.false_ne_true h).elim
  | .chain o p a b d, sc, e, X, W, c, h, hX, hF, tk => by
    cases e with
    | Compare l ops rs _ =>
      match ops, rs, h with
      | [op, op2], [m, r], h =>
        obtain ⟨h1, h5⟩ := and2 h
        obtain ⟨h1, h4⟩ := and2 h1
        obtain ⟨h1, h3⟩ := and2 h1
        obtain ⟨h1, h2⟩ := and2 h1
        obtain rfl : op = cpOf o := of_decide_eq_true h1
        obtain rfl : op2 = cpOf p := of_decide_eq_true h2
        exact r_chain o p hX (sE a h3 hX hF tk) (sE b h4 hX hF tk) (sE d h5 hX hF tk) (by show behindInMarks (cpOf p) r = false; cases p <;> exact nomark _)
      | [], _, h => exact (Bool.false_ne_true h).elim
      | [_], _, h => exact (Bool.false_ne_true h).elim
      | [_, _], [], h => exact (Bool.false_ne_true h).elim
      | [_, _], [_], h => exact (Bool.false_ne_true h).elim
      | [_, _], _ :: _ :: _ :: _, h => exact (Bool.false_ne_true h).elim
      | _ :: _ :: _ :: _, _, h => exact (Bool.false_ne_true h).elim
    | _ => exact (Bool.false_ne_true h).elim
  | .bop kk es, sc, e, X, W, c, h, hX, hF, tk => by
    cases e with
    | BoolOp op l _ =>
      obtain ⟨h1, h2⟩ := and2 h
      have h1 := of_decide_eq_true h1
      rw [h1]
      exact sBs kk es h2 hX hF tk
    | _ => exact (Bool.false_ne_true h).elim
  | .ite t a b, sc, e, X, W, c, h, hX, hF, tk => by
    cases e with
    | IfExp l m r _ =>
      obtain ⟨h1, h3⟩ := and2 h
      obtain ⟨h1, h2⟩ := and2 h1
      exact r_ite (sT t h1 hX hF tk) (sE a h2 hX hF tk) (sE b h3 hX hF tk)
    | _ => exact (Bool.false_ne_true h).elim
  | .ix a i, sc, e, X, W, c, h, hX, hF, tk => by
    cases e with
    | Subscript l r _ =>
      obtain ⟨h1, h3⟩ := and2 h
      obtain ⟨h1, h2⟩ := and2 h1
      exact r_ix hX (sP_of h2 hX (sE a h2 hX hF tk)) (sE i h3 hX hF tk) (nott h1)
    | _ => exact (Bool.false_ne_true h).elim
  | .sl a, sc, e, X, W, c, h, hX, hF, tk => by
    cases e with
    | Subscript l r _ =>
      cases r with
      | Slice lo hi st _ =>
        cases lo <;> cases hi <;> cases st <;> first | exact (Bool.false_ne_true h).elim | exact r_sl hX (sP_of h hX (sE a h hX hF tk))
      | _ => exact (Bool.false_ne_true h).elim
    | _ => exact (Bool.false_ne_true h).elim
  | .rngL p, sc, e, X, W, c, h, hX, hF, tk => by
    cases e with
    | Call fn l kws _ =>
      cases fn with
      | Name nm _ =>
        match l, kws, h with
        | [.Call (.Name nm2 _) [e] [] _], [], h =>
          obtain ⟨h1, h6⟩ := and2 h
          obtain ⟨h1, h5⟩ := and2 h1
          obtain ⟨h1, h4⟩ := and2 h1
          obtain ⟨h1, h3⟩ := and2 h1
          obtain ⟨h1, h2⟩ := and2 h1
          exact r_rngL hX (of_decide_eq_true h1) h2 (of_decide_eq_true h3) h4 (nott h5) (sE p h6 hX hF tk)
      | _ => exact (Bool.false_ne_true h).elim
    | _ => exact (Bool.false_ne_true h).elim
  | .slRev a, sc, e, X, W, c, h, hX, hF, tk => by
    cases e with
    | Subscript l r _ =>
      cases r with
      | Slice lo hi st _ =>
        cases lo with
        | some _ => exact (Bool.false_ne_true h).elim
        | none =>
          cases hi with
          | some _ => exact (Bool.false_ne_true h).elim
          | none =>
            cases st with
            | none => exact (Bool.false_ne_true h).elim
            | some st =>
              cases st with
              | UnaryOp op v _ =>
                cases op with
                | USub =>
                  cases v with
                  | Constant co _ _ =>
                    cases co with
                    | int j =>
                      obtain ⟨h1, h2⟩ := and2 h
                      obtain rfl : j = 1 := of_decide_eq_true h1
                      exact r_rev hX (sP_of h2 hX (sE a h2 hX hF tk))
                    | _ => exact (Bool.false_ne_true h).elim
                  | _ => exact (Bool.false_ne_true h).elim
                | _ => exact (Bool.false_ne_true h).elim
              | _ => exact (Bool.false_ne_true h).elim
      | _ => exact (Bool.false_ne_true h).elim
    | _ => exact (Bool.false_ne_true h).elim
  | .dctN g i, sc, e, X, W, c, h, hX, hF, tk => by
    cases e with
    | Compare l ops rs _ =>
      obtain ⟨ee, t, nm, np, ifs, scope, lp, p2, rfl, rfl, rfl, bo, h4, h5⟩ := dctN_of h hX
      exact r_cmp .eq hX (peekE (r_dctE hX h4 h5 bo)) (peekE (r_lst r_nil)) (by exact nomark _)
    | _ => exact (Bool.false_ne_true h).elim
  | .slLo a b, sc, e, X, W, c, h, hX, hF, tk => by
    cases e with
    | Subscript l r _ =>
      cases r with
      | Slice lo hi st _ =>
        cases lo <;> cases hi <;> cases st <;> first | exact (Bool.false_ne_true h).elim | (obtain ⟨h1, h2⟩ := and2 h; exact r_slLo hX (sP_of h1 hX (sE a h1 hX hF tk)) (sE b h2 hX hF tk))
      | _ => exact (Bool.false_ne_true h).elim
    | _ => exact (Bool.false_ne_true h).elim
  | .slHi a b, sc, e, X, W, c, h, hX, hF, tk => by
    cases e with
    | Subscript l r _ =>
      cases r with
      | Slice lo hi st _ =>
        cases lo <;> cases hi <;> cases st <;> first | exact (Bool.false_ne_true h).elim | (obtain ⟨h1, h2⟩ := and2 h; exact r_slHi hX (sP_of h1 hX (sE a h1 hX hF tk)) (sE b h2 hX hF tk))
      | _ => exact (Bool.false_ne_true h).elim
    | _ => exact (Bool.false_ne_true h).elim
  | .slLH a b d, sc, e, X, W, c, h, hX, hF, tk => by
    cases e with
    | Subscript l r _ =>
      cases r with
      | Slice lo hi st _ =>
        cases lo <;> cases hi <;> cases st <;> first | exact (Bool.false_ne_true h).elim | (obtain ⟨h1, h3⟩ := and2 h; obtain ⟨h1, h2⟩ := and2 h1; exact r_slLH hX (sP_of h1 hX (sE a h1 hX hF tk)) (sE b h2 hX hF tk) (sE d h3 hX hF tk))
      | _ => exact (Bool.false_ne_true h).elim
    | _ => exact (Bool.false_ne_true h).elim
  | .call f args, sc, e, X, W, c, h, hX, hF, tk => by
    cases e with
    | Call fn l kws _ =>
      cases fn with
      | Name nm _ =>
        cases kws with
        | nil =>
          obtain ⟨q1, h4⟩ := and2 h
          obtain ⟨q2, h3⟩ := and2 q1
          obtain ⟨h1, h2⟩ := and2 q2
          by_cases ne : args = .nil
          · have e0 : l = [] := by
              subst ne
              cases l with
              | nil => rfl
              | cons => exact (Bool.false_ne_true h4).elim
            clear h4
            subst ne e0
            exact r_call0 hX hF tk (of_decide_eq_true h1) h2
          · exact r_call hX hF tk (of_decide_eq_true h1) h2 h3 (sEs args h4 hX hF tk) (pes_ne G N h4 ne)
        | cons => exact (Bool.false_ne_true h).elim
      | _ => exact (Bool.false_ne_true h).elim
    | _ => exact (Bool.false_ne_true h).elim
  | .callK f kws ks perm, sc, e, X, W, c, h, hX, hF, tk => by
    cases e with
    | Call fn l kwl _ =>
      cases fn with
      | Name nm _ =>
        cases l with
        | nil =>
          obtain ⟨h1, h4⟩ := and2 h
          obtain ⟨h1, h3⟩ := and2 h1
          obtain ⟨h1, h2⟩ := and2 h1
          exact r_callK hX hF tk (of_decide_eq_true h1) h2 (of_decide_eq_true h3) (keys_names G N h4) (sKs kws h4 hX hF tk)
        | cons => exact (Bool.false_ne_true h).elim
      | _ => exact (Bool.false_ne_true h).elim
    | _ => exact (Bool.false_ne_true h).elim
  | .blt o args, sc, e, X, W, c, h, hX, hF, tk => by
    cases e with
    | Call fn l kws _ =>
      cases fn with
      | Name nm _ =>
        cases kws with
        | nil =>
          obtain ⟨q1, h3⟩ := and2 h
          obtain ⟨h1, h2⟩ := and2 q1
          by_cases ne : l = []
          · have e0 : args = .nil := by
              subst ne
              cases args <;> first | rfl | exact (Bool.false_ne_true h3).elim
            clear h3
            subst e0
            exact ⟨fun pins s σ H Q I q => by obtain ⟨s0, a, p⟩ := q; cases o <;> exact p.elim⟩
          · exact r_blt hX h1 h2 (sPs args h3 hX hF tk) ne
        | cons => exact (Bool.false_ne_true h).elim
      | _ => exact (Bool.false_ne_true h).elim
    | _ => exact (Bool.false_ne_true h).elim
  | .isi a t, sc, e, X, W, c, h, hX, hF, tk => by
    cases e with
    | Call fn l kws _ =>
      cases fn with
      | Name nm _ =>
        match l, kws, h with
        | [l, .Name ty _], [], h =>
          obtain ⟨h1, h6⟩ := and2 h
          obtain ⟨h1, h5⟩ := and2 h1
          obtain ⟨h1, h4⟩ := and2 h1
          obtain ⟨h1, h3⟩ := and2 h1
          obtain ⟨h1, h2⟩ := and2 h1
          exact r_isi hX (of_decide_eq_true h1) h2 (nott h3) (sP_of h4 hX (sE a h4 hX hF tk)) (of_decide_eq_true h5) h6
        | [], _, h => exact (Bool.false_ne_true h).elim
        | [_], _, h => exact (Bool.false_ne_true h).elim
        | [_, e], kws, h => cases e <;> cases kws <;> first | exact (Bool.false_ne_true h).elim | skip
                            obtain ⟨h1, h6⟩ := and2 h
                            obtain ⟨h1, h5⟩ := and2 h1
                            obtain ⟨h1, h4⟩ := and2 h1
                            obtain ⟨h1, h3⟩ := and2 h1
                            obtain ⟨h1, h2⟩ := and2 h1
                            exact r_isi hX (of_decide_eq_true h1) h2 (nott h3) (sP_of h4 hX (sE a h4 hX hF tk)) (of_decide_eq_true h5) h6
        | _ :: b :: _ :: _, [], h => cases b <;> exact (Bool.false_ne_true h).elim
        | _ :: b :: _ :: _, _ :: _, h => cases b <;> exact (Bool.false_ne_true h).elim
      | _ => exact (Bool.false_ne_true h).elim
    | _ => exact (Bool.false_ne_true h).elim
  | .isiT a ts, sc, e, X, W, c, h, hX, hF, tk => by
    cases e with
    | Call fn l kws _ =>
      cases fn with
      | Name nm _ =>
        match l, kws, h with
        | [], _, h => exact (Bool.false_ne_true h).elim
        | [_], [], h => exact (Bool.false_ne_true h).elim
        | [_], _ :: _, h => exact (Bool.false_ne_true h).elim
        | [l, e], kws, h => cases e <;> cases kws <;> first | exact (Bool.false_ne_true h).elim | skip
                            obtain ⟨h1, h6⟩ := and2 h
                            obtain ⟨h1, h5⟩ := and2 h1
                            obtain ⟨h1, h4⟩ := and2 h1
                            obtain ⟨h1, h3⟩ := and2 h1
                            obtain ⟨h1, h2⟩ := and2 h1
                            have h6 := of_decide_eq_true h6
                            by_cases ne : ts = []
                            · exact (by rw [ne] at h6; exact absurd h6.1 (by decide) : False).elim
                            · exact r_isiT hX (of_decide_eq_true h1) h2 (nott h3) (sP_of h4 hX (sE a h4 hX hF tk)) h5 h6.2 ne
        | _ :: b :: _ :: _, [], h => cases b <;> exact (Bool.false_ne_true h).elim
        | _ :: b :: _ :: _, _ :: _, h => cases b <;> exact (Bool.false_ne_true h).elim
      | _ => exact (Bool.false_ne_true h).elim
    | _ => exact (Bool.false_ne_true h).elim
  | .items a, sc, e, X, W, c, h, hX, hF, tk => by
    cases e with
    | Call fn l kws _ =>
      cases fn with
      | Name nm _ =>
        match l, kws, h with
        | [], [], h => exact (Bool.false_ne_true h).elim
        | [], _ :: _, h => exact (Bool.false_ne_true h).elim
        | e :: r, kws, h =>
          cases e with
          | Call fn2 l2 kws2 p2 =>
            cases fn2 <;> cases l2 <;> cases kws2 <;> cases r <;> cases kws <;> first | exact (Bool.false_ne_true h).elim | skip
            obtain ⟨q1, h6⟩ := and2 h
            obtain ⟨q2, h5⟩ := and2 q1
            obtain ⟨q3, h4⟩ := and2 q2
            obtain ⟨q4, h3⟩ := and2 q3
            obtain ⟨h1, h2⟩ := and2 q4
            have h3 := of_decide_eq_true h3
            clear q1 q2 q3 q4 h
            subst h3
            exact r_items hX (of_decide_eq_true h1) h2 h4 (nott h5) (sE a h6 hX hF tk)
          | _ => cases r <;> cases kws <;> exact (Bool.false_ne_true h).elim
      | _ => exact (Bool.false_ne_true h).elim
    | _ => exact (Bool.false_ne_true h).elim
  | .comp elt g it, sc, e, X, W, c, h, hX, hF, tk => by
    cases e with
    | ListComp e gs scope pos =>
      match gs, h with
      | [], h => exact (Bool.false_ne_true h).elim
      | ⟨_, _, [], _⟩ :: _ :: _, h => exact (Bool.false_ne_true h).elim
      | ⟨_, _, [_], _⟩ :: _ :: _, h => exact (Bool.false_ne_true h).elim
      | ⟨_, _, _ :: _ :: _, _⟩ :: _ :: _, h => exact (Bool.false_ne_true h).elim
      | [⟨t, i, f :: fs, an⟩], h => exact (Bool.false_ne_true h).elim
      | [⟨t, i, [], an⟩], h =>
        obtain ⟨h1, h6⟩ := and2 h
        obtain ⟨h1, h5⟩ := and2 h1
        obtain ⟨h1, h4⟩ := and2 h1
        obtain ⟨h1, h3⟩ := and2 h1
        obtain ⟨h1, h2⟩ := and2 h1
        obtain rfl := an0 h1
        have bo := blkOk_by h2
        rw [← hX.nN, ← hX.scp] at bo
        have nd : X.N.Nodup := by rw [hX.nN]; exact hX.nd
        have hs := sI_set it h5
        have pi := sI it h5 hX hF tk
        have pg := fun s H C cl fp => pg_of (X := X.blk s H scope (compEnvC scope cl C X.env) fp) (mGc_mG h4) hX.nN hX.nd hX.calm (loc_blk (sc := sc))
        have ptt : ∀ (s : Shared) (H : Hp) (C : Addr) (cl : List (Str × Addr)) (fp : List Addr), PTs (X.blk s H scope (compEnvC scope cl C X.env) fp) [] (tAnyB x c.toCb (retR true)) := fun s H C cl fp =>
          ⟨fun pins s σ H Q I q => pts_nil.run pins s σ H Q I (by obtain ⟨W0, H0, s, a, p⟩ := q; exact p true H a .refl rfl)⟩
        have pel : ∀ (s : Shared) (H : Hp) (C : Addr) (cl : List (Str × Addr)) (fp : List Addr), PE (X.blk s H scope (compEnvC scope cl C X.env) fp) e (tAnyE x c.toCb (evalE F con elt)) := fun s H C cl fp =>
          ⟨fun pins s' σ H' Q I q => by obtain ⟨W0, H0, q⟩ := q; exact (sE elt (c := ⟨c.toCb, W0, H0⟩) h6 (hX.blk s H scope C cl fp) (hF.blk s H scope _ fp) blk_takes).run pins s' σ H' Q I q⟩
        exact PEi (pe_lc hX.calm nd pi bo pg ptt pel (fun v => not_set hs v)) (r_compG (pos := pos) hX pi bo (of_decide_eq_true h3) pg ptt pel (fun v => not_set hs v))
    | _ => exact (Bool.false_ne_true h).elim
  | .compIf elt g it cond, sc, e, X, W, c, h, hX, hF, tk => by
    cases e with
    | ListComp e gs scope pos =>
      match gs, h with
      | [], h => exact (Bool.false_ne_true h).elim
      | ⟨_, _, [], _⟩ :: _ :: _, h => exact (Bool.false_ne_true h).elim
      | ⟨_, _, [_], _⟩ :: _ :: _, h => exact (Bool.false_ne_true h).elim
      | ⟨_, _, _ :: _ :: _, _⟩ :: _ :: _, h => exact (Bool.false_ne_true h).elim
      | [⟨t, i, [], an⟩], h => exact (Bool.false_ne_true h).elim
      | [⟨t, i, _ :: _ :: _, an⟩], h => exact (Bool.false_ne_true h).elim
      | [⟨t, i, [f], an⟩], h =>
        obtain ⟨h1, h7⟩ := and2 h
        obtain ⟨h1, h6⟩ := and2 h1
        obtain ⟨h1, h5⟩ := and2 h1
        obtain ⟨h1, h4⟩ := and2 h1
        obtain ⟨h1, h3⟩ := and2 h1
        obtain ⟨h1, h2⟩ := and2 h1
        obtain rfl := an0 h1
        have bo := blkOk_by h2
        rw [← hX.nN, ← hX.scp] at bo
        have nd : X.N.Nodup := by rw [hX.nN]; exact hX.nd
        have hs := sI_set it h5
        have pi := sI it h5 hX hF tk
        have pg := fun s H C cl fp => pg_of (X := X.blk s H scope (compEnvC scope cl C X.env) fp) (mGc_mG h4) hX.nN hX.nd hX.calm (loc_blk (sc := sc))
        have pf : ∀ (s : Shared) (H : Hp) (C : Addr) (cl : List (Str × Addr)) (fp : List Addr), PT (X.blk s H scope (compEnvC scope cl C X.env) fp) f (tAnyB x c.toCb (evalT F con cond)) := fun s H C cl fp =>
          ⟨fun pins s' σ H' Q I q => by obtain ⟨W0, H0, q⟩ := q; exact (sT cond (c := ⟨c.toCb, W0, H0⟩) h7 (hX.blk s H scope C cl fp) (hF.blk s H scope _ fp) blk_takes).run pins s' σ H' Q I q⟩
        have ptt : ∀ (s : Shared) (H : Hp) (C : Addr) (cl : List (Str × Addr)) (fp : List Addr), PTs (X.blk s H scope (compEnvC scope cl C X.env) fp) [f] (tAnyB x c.toCb (evalT F con cond)) := fun s H C cl fp => pts_one (pf s H C cl fp)
        have pel : ∀ (s : Shared) (H : Hp) (C : Addr) (cl : List (Str × Addr)) (fp : List Addr), PE (X.blk s H scope (compEnvC scope cl C X.env) fp) e (tAnyE x c.toCb (evalE F con elt)) := fun s H C cl fp =>
          ⟨fun pins s' σ H' Q I q => by obtain ⟨W0, H0, q⟩ := q; exact (sE elt (c := ⟨c.toCb, W0, H0⟩) h6 (hX.blk s H scope C cl fp) (hF.blk s H scope _ fp) blk_takes).run pins s' σ H' Q I q⟩
        exact PEi (pe_lc hX.calm nd pi bo pg ptt pel (fun v => not_set hs v)) (r_compG (pos := pos) hX pi bo (of_decide_eq_true h3) pg ptt pel (fun v => not_set hs v))
    | _ => exact (Bool.false_ne_true h).elim
theorem sT : ∀ (pe : PTt) {sc : Scope} {e : Expr} {X : Cx} {W : WX} {c : Cn}, mT G N sc pe e = true → Ctx G F con N k c.toCb sc X → Fns x G F k c.fa X → Takes X W → PT X e (TvB x c W (evalT F con pe))
  | .val p, sc, e, X, W, c, h, hX, hF, tk => by
    by_cases hp : plainTest e = true
    · have h2 : mE G N sc p e = true := by
        cases e <;> first | exact (Bool.false_ne_true hp).elim | exact (and2 h).2
      exact r_val hX (sP_of h2 hX (sE p h2 hX hF tk)) hp
    · cases e <;> first | exact (hp rfl).elim | skip
      · exact (Bool.false_ne_true h).elim
      · exact (Bool.false_ne_true h).elim
      · exact (Bool.false_ne_true h).elim
      · rename_i l ops rs pos
        have h : mE G N sc p (.Compare l ops rs pos) = true := h
        cases p with
        | cmp o a b =>
          match ops, rs, h with
          | [op], [r], h =>
            obtain ⟨h1, h3⟩ := and2 h
            obtain ⟨h1, h2⟩ := and2 h1
            obtain rfl : op = cpOf o := of_decide_eq_true h1
            exact r_cmpT o hX (sP_of h2 hX (sE a h2 hX hF tk)) (sP_of h3 hX (sE b h3 hX hF tk)) (by cases o <;> exact nomark _)
          | [], _, h => exact (Bool.false_ne_true h).elim
          | [_], [], h => exact (Bool.false_ne_true h).elim
          | [_], _ :: _ :: _, h => exact (Bool.false_ne_true h).elim
          | _ :: _ :: _, _, h => exact (Bool.false_ne_true h).elim
        | chain o p a b d =>
          match ops, rs, h with
          | [op, op2], [m, r], h =>
            obtain ⟨h1, h5⟩ := and2 h
            obtain ⟨h1, h4⟩ := and2 h1
            obtain ⟨h1, h3⟩ := and2 h1
            obtain ⟨h1, h2⟩ := and2 h1
            obtain rfl : op = cpOf o := of_decide_eq_true h1
            obtain rfl : op2 = cpOf p := of_decide_eq_true h2
            exact r_chainT o p hX (sE a h3 hX hF tk) (sE b h4 hX hF tk) (sE d h5 hX hF tk) (by show behindInMarks (cpOf p) r = false; cases p <;> exact nomark _)
          | [], _, h => exact (Bool.false_ne_true h).elim
          | [_], _, h => exact (Bool.false_ne_true h).elim
          | [_, _], [], h => exact (Bool.false_ne_true h).elim
          | [_, _], [_], h => exact (Bool.false_ne_true h).elim
          | [_, _], _ :: _ :: _ :: _, h => exact (Bool.false_ne_true h).elim
          | _ :: _ :: _ :: _, _, h => exact (Bool.false_ne_true h).elim
        | hole => exact ⟨fun pins s σ H Q I q => by
            obtain ⟨s0, a, p⟩ := q
            exact False.elim p⟩
        | dctN g i =>
          obtain ⟨ee, t, nm, np, ifs, scope, lp, p2, rfl, rfl, rfl, bo, h4, h5⟩ := dctN_of h hX
          exact r_cmpT .eq hX (peekE (r_dctE hX h4 h5 bo)) (peekE (r_lst r_nil)) (by exact nomark _)
        | _ => exact (Bool.false_ne_true h).elim
  | .not a, sc, e, X, W, c, h, hX, hF, tk => by
    cases e with
    | UnaryOp op l _ =>
      cases op with
      | Not => exact r_notT (sT a h hX hF tk)
      | _ => exact (Bool.false_ne_true h).elim
    | _ => exact (Bool.false_ne_true h).elim
  | .bop kk es, sc, e, X, W, c, h, hX, hF, tk => by
    cases e with
    | BoolOp op l _ =>
      obtain ⟨h1, h2⟩ := and2 h
      have h1 := of_decide_eq_true h1
      rw [h1]
      exact (sTs kk es h2 hX hF tk).pt
    | _ => exact (Bool.false_ne_true h).elim
theorem sTs (kk : Bool) : ∀ (ps : PTts) {sc : Scope} {es : List Expr} {X : Cx} {W : WX} {c : Cn} {pos : Pos}, mTs G N sc ps es = true → Ctx G F con N k c.toCb sc X → Fns x G F k c.fa X → Takes X W → PW X (.BoolOp (if kk then BoolOp.And else .Or) es pos) (TvB x c W (evalTB F con kk ps))
  | .nil, sc, es, X, W, c, pos, h, hX, hF, tk => (Bool.false_ne_true h).elim
  | .cons t .nil, sc, es, X, W, c, pos, h, hX, hF, tk => by
    match es, h with
    | [], h => exact (Bool.false_ne_true h).elim
    | [e], h => cases kk with
      | true => exact r_and1 (sT t h hX hF tk)
      | false => exact r_or1 (sT t h hX hF tk)
    | e :: e2 :: es, h => exact (Bool.false_ne_true (and2 h).2).elim
  | .cons t (.cons t2 r), sc, es, X, W, c, pos, h, hX, hF, tk => by
    match es, h with
    | [], h => exact (Bool.false_ne_true h).elim
    | [e], h => exact (Bool.false_ne_true h).elim
    | e :: e2 :: es, h =>
      obtain ⟨h1, h2⟩ := and2 h
      have q := sTs kk (.cons t2 r) (pos := pos) h2 hX hF tk
      cases kk with
      | true => exact r_and (sT t h1 hX hF tk) q
      | false => exact r_or (sT t h1 hX hF tk) q
theorem sBs (kk : Bool) : ∀ (ps : PXs) {sc : Scope} {es : List Expr} {X : Cx} {W : WX} {c : Cn} {pos : Pos}, mBs G N sc ps es = true → Ctx G F con N k c.toCb sc X → Fns x G F k c.fa X → Takes X W → PE X (.BoolOp (if kk then BoolOp.And else .Or) es pos) (TvE x c W (evalB F con kk ps))
  | .nil, sc, es, X, W, c, pos, h, hX, hF, tk => (Bool.false_ne_true h).elim
  | .star _ _, sc, es, X, W, c, pos, h, hX, hF, tk => (Bool.false_ne_true h).elim
  | .cons t .nil, sc, es, X, W, c, pos, h, hX, hF, tk => by
    match es, h with
    | [], h => exact (Bool.false_ne_true h).elim
    | [e], h => exact pe_one (sE t h hX hF tk)
    | e :: e2 :: es, h => exact (Bool.false_ne_true (and2 h).2).elim
  | .cons t (.cons t2 r), sc, es, X, W, c, pos, h, hX, hF, tk => by
    match es, h with
    | [], h => exact (Bool.false_ne_true h).elim
    | [e], h => exact (Bool.false_ne_true h).elim
    | e :: e2 :: es, h =>
      obtain ⟨h1, h2⟩ := and2 h
      have q := sBs kk (.cons t2 r) (pos := pos) h2 hX hF tk
      cases kk with
      | true => exact r_andV hX (sE t h1 hX hF tk) q
      | false => exact r_orV hX (sE t h1 hX hF tk) q
  | .cons t (.star t2 r), sc, es, X, W, c, pos, h, hX, hF, tk => by
    match es, h with
    | [], h => exact (Bool.false_ne_true h).elim
    | [e], h => exact (Bool.false_ne_true h).elim
    | e :: e2 :: es, h => exact (Bool.false_ne_true (and2 h).2).elim
theorem sEs : ∀ (ps : PXs) {sc : Scope} {es : List Expr} {X : Cx} {W : WX} {c : Cn}, mEs G N sc ps es = true → Ctx G F con N k c.toCb sc X → Fns x G F k c.fa X → Takes X W → PA X es (TvL x c W (evalEs F con ps))
  | .nil, sc, es, X, W, c, h, hX, hF, tk => by
    cases es with
    | nil => exact r_nil
    | cons => exact (Bool.false_ne_true h).elim
  | .cons p r, sc, es, X, W, c, h, hX, hF, tk => by
    cases es with
    | nil => exact (Bool.false_ne_true h).elim
    | cons e es =>
      obtain ⟨h1, h3⟩ := and2 h
      obtain ⟨h1, h2⟩ := and2 h1
      exact r_cons (sE p h2 hX hF tk) (sEs r h3 hX hF tk) (nott h1)
  | .star p r, sc, es, X, W, c, h, hX, hF, tk => by
    cases es with
    | nil => exact (Bool.false_ne_true h).elim
    | cons e es =>
      cases e with
      | Starred e _ =>
        obtain ⟨h1, h2⟩ := and2 h
        exact r_star hX (sP_of h1 hX (sE p h1 hX hF tk)) (sEs r h2 hX hF tk)
      | _ => exact (Bool.false_ne_true h).elim
theorem sPs : ∀ (ps : PXs) {sc : Scope} {es : List Expr} {X : Cx} {W : WX} {c : Cn}, mPs G N sc ps es = true → Ctx G F con N k c.toCb sc X → Fns x G F k c.fa X → Takes X W → PA X es (TvQ x c W (evalPs F con ps))
  | .nil, sc, es, X, W, c, h, hX, hF, tk => by
    cases es with
    | nil => exact r_nilQ
    | cons => exact (Bool.false_ne_true h).elim
  | .cons p r, sc, es, X, W, c, h, hX, hF, tk => by
    cases es with
    | nil => exact (Bool.false_ne_true h).elim
    | cons e es =>
      obtain ⟨h1, h3⟩ := and2 h
      obtain ⟨h1, h2⟩ := and2 h1
      exact r_consQ (sP_of h2 hX (sE p h2 hX hF tk)) (sPs r h3 hX hF tk) (nott h1)
  | .star p r, sc, es, X, W, c, h, hX, hF, tk => (Bool.false_ne_true h).elim
theorem sKs : ∀ (ps : PXs) {sc : Scope} {ks : List Str} {kws : List Keyword} {X : Cx} {W : WX} {c : Cn}, mKs G N sc ps ks kws = true → Ctx G F con N k c.toCb sc X → Fns x G F k c.fa X → Takes X W → PK X kws (TvL x c W (evalEs F con ps))
  | .nil, sc, ks, kws, X, W, c, h, hX, hF, tk => by
    cases ks <;> cases kws <;> first | exact pk_nilL | exact (Bool.false_ne_true h).elim
  | .cons p r, sc, ks, kws, X, W, c, h, hX, hF, tk => by
    cases ks with
    | nil => exact (Bool.false_ne_true h).elim
    | cons k ks =>
      cases kws with
      | nil => exact (Bool.false_ne_true h).elim
      | cons q kws =>
        obtain ⟨n, e, kp⟩ := q
        obtain ⟨h1, h3⟩ := and2 h
        obtain ⟨h1, h2⟩ := and2 h1
        exact pk_consL (sE p h2 hX hF tk) (sKs r h3 hX hF tk)
  | .star p r, sc, ks, kws, X, W, c, h, hX, hF, tk => (Bool.false_ne_true h).elim
theorem sI : ∀ (it : PIt) {sc : Scope} {tg e : Expr} {X : Cx} {W : WX} {c : Cn}, mI G N sc it tg e = true → Ctx G F con N k c.toCb sc X → Fns x G F k c.fa X → Takes X W → PI X tg e (TvI x c W (evalI F con it))
  | .seq p, sc, tg, e, X, W, c, h, hX, hF, tk => r_seq hX (sE p (and2 h).1 hX hF tk)
  | .range1 p, sc, tg, e, X, W, c, h, hX, hF, tk => by
    cases e with
    | Call fn l kws _ =>
      cases fn with
      | Name nm _ =>
        match l, kws, h with
        | [e], [], h =>
          obtain ⟨h1, h4⟩ := and2 h
          obtain ⟨h1, h3⟩ := and2 h1
          obtain ⟨h1, h2⟩ := and2 h1
          exact r_range1 hX (of_decide_eq_true h1) h2 (nott h3) (sE p h4 hX hF tk)
        | [], _, h => exact (Bool.false_ne_true h).elim
        | [_], _ :: _, h => exact (Bool.false_ne_true h).elim
        | _ :: _ :: _, _, h => exact (Bool.false_ne_true h).elim
      | _ => exact (Bool.false_ne_true h).elim
    | _ => exact (Bool.false_ne_true h).elim
  | .range2 p q, sc, tg, e, X, W, c, h, hX, hF, tk => by
    cases e with
    | Call fn l kws _ =>
      cases fn with
      | Name nm _ =>
        match l, kws, h with
        | [e, f], [], h =>
          obtain ⟨h1, h6⟩ := and2 h
          obtain ⟨h1, h5⟩ := and2 h1
          obtain ⟨h1, h4⟩ := and2 h1
          obtain ⟨h1, h3⟩ := and2 h1
          obtain ⟨h1, h2⟩ := and2 h1
          exact r_range2 hX (of_decide_eq_true h1) h2 (nott h3) (nott h4) (sE p h5 hX hF tk) (sE q h6 hX hF tk)
        | [], _, h => exact (Bool.false_ne_true h).elim
        | [_], _, h => exact (Bool.false_ne_true h).elim
        | [_, _], _ :: _, h => exact (Bool.false_ne_true h).elim
        | _ :: b :: _ :: _, [], h => cases b <;> exact (Bool.false_ne_true h).elim
        | _ :: b :: _ :: _, _ :: _, h => cases b <;> exact (Bool.false_ne_true h).elim
      | _ => exact (Bool.false_ne_true h).elim
    | _ => exact (Bool.false_ne_true h).elim
  | .enum p, sc, tg, e, X, W, c, h, hX, hF, tk => by
    cases tg with
    | Tuple elts kk tpos =>
      cases e with
      | Call fn l kws _ =>
        cases fn with
        | Name nm _ =>
          match l, kws, h with
          | [e], [], h =>
            obtain ⟨h1, h4⟩ := and2 h
            obtain ⟨h1, h3⟩ := and2 h1
            obtain ⟨h1, h2⟩ := and2 h1
            exact r_enum hX (of_decide_eq_true h1) h2 (nott h3) (sE p h4 hX hF tk)
          | [], _, h => exact (Bool.false_ne_true h).elim
          | [_], _ :: _, h => exact (Bool.false_ne_true h).elim
          | _ :: _ :: _, _, h => exact (Bool.false_ne_true h).elim
        | _ => exact (Bool.false_ne_true h).elim
      | _ => exact (Bool.false_ne_true h).elim
    | _ => exact (Bool.false_ne_true h).elim
  | .zip p q, sc, tg, e, X, W, c, h, hX, hF, tk => by
    cases tg with
    | Tuple elts kk tpos =>
      cases e with
      | Call fn l kws _ =>
        cases fn with
        | Name nm _ =>
          match l, kws, h with
          | [e, f], [], h =>
            obtain ⟨h1, h6⟩ := and2 h
            obtain ⟨h1, h5⟩ := and2 h1
            obtain ⟨h1, h4⟩ := and2 h1
            obtain ⟨h1, h3⟩ := and2 h1
            obtain ⟨h1, h2⟩ := and2 h1
            exact r_zip hX (of_decide_eq_true h1) h2 (nott h3) (nott h4) (sE p h5 hX hF tk) (sE q h6 hX hF tk)
          | [], _, h => exact (Bool.false_ne_true h).elim
          | [_], _, h => exact (Bool.false_ne_true h).elim
          | [_, _], _ :: _, h => exact (Bool.false_ne_true h).elim
          | _ :: _ :: _ :: _, _, h => exact (Bool.false_ne_true h).elim
        | _ => exact (Bool.false_ne_true h).elim
      | _ => exact (Bool.false_ne_true h).elim
    | _ => exact (Bool.false_ne_true h).elim
end
end
end PV

namespace PV
open PySem PySem.Spec PyProof.Rows L2
/-! ### what a statement leaves -/
def PostS (x : Ex) (c : Cn) (W : WX) (σ : Sg) (H : Hp) (s : S) (r : RS) (D : Ends) : Prop := match r with
  | .next s' => ∀ σ' H', SR c σ' H' s' → Mv c σ H s σ' H' s' → D.nx σ' H'
  | .brk s' => ∀ σ' H', SR c σ' H' s' → Mv c σ H s σ' H' s' → D.bk σ' H'
  | .cont s' => ∀ σ' H', SR c σ' H' s' → Mv c σ H s σ' H' s' → D.ct σ' H'
  | .ret d b => ∀ v H', Gr c.bx c.H0 H' → H' c.bx = some (boxHO b) → Rp c.toCb c.W0 H' v d → D.rt v H'
  | .exc e fs s' => ∀ dx σ' H', SR c σ' H' s' → Mv c σ H s σ' H' s' → ExAt x c.toCb (Wn c σ' s'.env) H' dx e fs → W (.ref (x.cls e)) (some dx) σ' H'
  | .bad => False
def TvS (x : Ex) (c : Cn) (W : WX) (f : S → RS) : TS := fun D σ H => ∃ s, SR c σ H s ∧ PostS x c W σ H s (f s) D
theorem PSi {X : Cx} {st : Stmt} {t t' : TS} (h : PS X st t) (k : ∀ D σ H, t' D σ H → t D σ H) : PS X st t' := ⟨fun pins s σ H D I q => h.run pins s σ H D I (k D σ H q)⟩
theorem PSsi {X : Cx} {st : List Stmt} {t t' : TS} (h : PSs X st t) (k : ∀ D σ H, t' D σ H → t D σ H) : PSs X st t' := ⟨fun pins s σ H D I q => h.run pins s σ H D I (k D σ H q)⟩
section
variable {α β : Type} {rel : Rel α β} {x : Ex} {c : Cn} {W : WX} {σ σ1 : Sg} {H H1 : Hp} {s s1 : S} {D : Ends}
theorem PostS.lift {r : RS} (m : Mv c σ H s σ1 H1 s1) (h : PostS x c W σ H s r D) : PostS x c W σ1 H1 s1 r D := by
  cases r with
  | next s' => exact fun σ' H' a q => h σ' H' a (m.trans q)
  | brk s' => exact fun σ' H' a q => h σ' H' a (m.trans q)
  | cont s' => exact fun σ' H' a q => h σ' H' a (m.trans q)
  | ret d b => exact h
  | exc e fs s' => exact fun dx σ' H' a q => h dx σ' H' a (m.trans q)
  | bad => exact h
/-- an expression first -/
theorem Tv.toS {f : S → R α} {g : α → S → RS} {Q : β → Hp → Prop} (h : TvS x c W (bindS f g) D σ H)
    (k : ∀ v H1 d s s1, SR c σ H s → SR c σ H1 s1 → Rch c σ H s H1 s1 → rel (Wn c σ s1.env) H1 v d → PostS x c W σ H1 s1 (g d s1) D → Q v H1) : Tv rel x c W f σ H Q := by
  obtain ⟨s, a, p⟩ := h
  refine ⟨s, a, ?_⟩
  unfold bindS at p
  cases e : f s with
  | ok d s' =>
    rw [e] at p
    exact fun v H' a' rc r => k v H' d s s' a a' rc r (PostS.lift (rc.mv a) p)
  | exc en fs s' =>
    rw [e] at p
    exact fun dx H' a' rc ea => p dx σ H' a' (rc.mv a) ea
  | bad => rw [e] at p; exact p
/-- .. and again -/
theorem Tv.toS1 {f : S → R α} {g : α → S → RS} {Q : β → Hp → Prop} (a : SR c σ H s) (p : PostS x c W σ H s (bindS f g s) D)
    (k : ∀ v H1 d s1, SR c σ H1 s1 → Rch c σ H s H1 s1 → rel (Wn c σ s1.env) H1 v d → PostS x c W σ H1 s1 (g d s1) D → Q v H1) : Tv rel x c W f σ H Q := by
  refine ⟨s, a, ?_⟩
  unfold bindS at p
  cases e : f s with
  | ok d s' =>
    rw [e] at p
    exact fun v H' a' rc r => k v H' d s' a' rc r (PostS.lift (rc.mv a) p)
  | exc en fs s' =>
    rw [e] at p
    exact fun dx H' a' rc ea => p dx σ H' a' (rc.mv a) ea
  | bad => rw [e] at p; exact p
end
section
variable {x : Ex} {c : Cn} {W : WX} {X : Cx} {G : Gd} {F : FT} {con : Nat → D} {N : List Str} {k : Nat} {sc : Scope} {e : Expr} {fe : S → R D} {f g : S → RS} {pos p pp : Pos} {st : Stmt} {rest a b : List Stmt}
theorem s_nil : PSs X [] (TvS x c W fun s => .next s) := PSsi pss_nil fun D σ H ⟨s, a, p⟩ => p σ H a .refl
theorem s_cons (h1 : PS X st (TvS x c W f)) (h2 : PSs X rest (TvS x c W g)) : PSs X (st :: rest) (TvS x c W fun s => match f s with | .next s' => g s' | q => q) := PSsi (pss_cons h1 h2) fun D σ H ⟨s, a, p⟩ => by
  refine ⟨s, a, ?_⟩
  dsimp only at p
  cases e : f s with
  | next s' => rw [e] at p; exact fun σ' H' a' m => ⟨s', a', PostS.lift m p⟩
  | brk s' => rw [e] at p; exact p
  | cont s' => rw [e] at p; exact p
  | ret d b => rw [e] at p; exact p
  | exc en fs s' => rw [e] at p; exact p
  | bad => rw [e] at p; exact p
theorem s_pass : PS X (.Pass pos) (TvS x c W fun s => .next s) := PSi ps_pass fun D σ H ⟨s, a, p⟩ => p σ H a .refl
theorem s_brk : PS X (.Break pos) (TvS x c W fun s => .brk s) := PSi ps_break fun D σ H ⟨s, a, p⟩ => p σ H a .refl
theorem s_cont : PS X (.Continue pos) (TvS x c W fun s => .cont s) := PSi ps_continue fun D σ H ⟨s, a, p⟩ => p σ H a .refl
theorem s_ret (h : PE X e (TvE x c W fe)) : PS X (.Return (some e) pos) (TvS x c W (bindS fe fun d s => .ret d s.bx)) := PSi (ps_ret h) fun D σ H q => Tv.toS (rel := RE c) q fun v H1 d s s1 a a1 rc r p =>
  p v H1 a1.ext a1.box (r.to fun q o e n => ⟨e, fun z => n (.inl z)⟩)
theorem s_retN : PS X (.Return none pos) (TvS x c W fun s => .ret .non s.bx) := PSi ps_retN fun D σ H ⟨s, a, p⟩ => p .non H a.ext a.box .non
theorem s_expr (h : PE X e (TvE x c W fe)) (hs : swapsWith e none pos.line X.env = pure false) : PS X (.Expr e pos) (TvS x c W (bindS fe fun _ s => .next s)) := PSi (ps_expr h hs) fun D σ H q => Tv.toS (rel := RE c) q fun v H1 d s s1 a a1 rc r p =>
  p σ H1 a1 .refl
theorem s_if {t : Expr} {ft : S → R Bool} (h : PT X t (TvB x c W ft)) (ha : PSs X a (TvS x c W f)) (hb : PSs X b (TvS x c W g)) : PS X (.If t a b pos) (TvS x c W (bindS ft fun k => if k then f else g)) := PSi (ps_if h ha hb) fun D σ H q =>
  Tv.toS (rel := RB) q fun v H1 d s s1 a a1 rc r p => by
    obtain rfl : v = d := r
    cases v with
    | true => exact ⟨s1, a1, p⟩
    | false => exact ⟨s1, a1, p⟩
theorem mv_same {σ : Sg} {H H' : Hp} {s : S} (k : Same H H') : Mv c σ H s σ H' s := ⟨fun a o e _ => k a o e, fun a h => .inl h⟩
theorem s_for {t : PTg} {tg iter : Expr} {body : List Stmt} {fi : S → R (List D)} {fb : S → RS} (hX : Ctx G F con N k c.toCb sc X) (hp : PassesOwn (model X.prog X.w) X.A X.env X.xe) (hi : PI X tg iter (TvI x c W fi)) (hg : PG X tg (gT X.K t)) (hb : PSs X body (TvS x c W fb))
    (hs : ∀ v, foldedSetIterable iter X.env v = pure v) : PS X (.For tg iter body [] pos) (TvS x c W (bindS fi fun xs => loopF t fb xs)) := by
  refine PSi (ps_for hp hX.calm hi hg hb hs) fun D σ H q => Tv.toS (rel := RI c) q fun J H1 xs s s1 a a1 rc j p => ?_
  refine ⟨fun i m σ' H' => m = xs.length - i ∧ i ≤ xs.length ∧ ∃ s', SR c σ' H' s' ∧ Mv c σ H1 s1 σ' H' s' ∧ PostS x c W σ' H' s' (loopF t fb (xs.drop i) s') D, ⟨xs.length, by simp, Nat.zero_le _, s1, a1, .refl, by rw [List.drop_zero]; exact p⟩, ?_⟩
  rintro i m σ' H' ⟨rfl, hle, s', a', mv, p'⟩
  obtain ⟨go, stop⟩ := j _ H' mv.Kp a'.hold
  by_cases hi : i < xs.length
  · right
    have ex : xs[i]? = some xs[i] := List.getElem?_eq_getElem hi
    obtain ⟨g1, g2⟩ := go i _ ex
    rw [List.drop_eq_getElem_cons hi] at p'
    refine ⟨g1, fun σ2 H2 => ∃ s2, SR c σ2 H2 s2 ∧ Mv c σ H1 s1 σ2 H2 s2 ∧ PostS x c W σ2 H2 s2 (loopF t fb (xs.drop (i + 1)) s2) D, fun σ2 H2 ⟨s2, b1, b2, b3⟩ => ⟨xs.length - (i + 1), by omega, rfl, hi, s2, b1, b2, b3⟩, fun v H3 y => ?_⟩
    obtain ⟨sm, r⟩ := g2 v H3 y
    unfold loopF at p'
    cases ea : asgT t xs[i] s' with
    | none => rw [ea] at p'; exact p'.elim
    | some s4 =>
      rw [ea] at p'
      dsimp only at p'
      refine asg_ok hX.bK (a'.same sm) ea r fun σ4 a4 sh _ => ⟨s4, a4, ?_⟩
      have m4 : Mv c σ' H' s' σ4 H3 s4 := (mv_same sm).trans ⟨fun q o e _ => e, fun q h => .inl (sh q h)⟩
      cases eb : fb s4 with
      | next s5 =>
        rw [eb] at p'
        exact fun σ5 H5 a5 m5 => ⟨s5, a5, mv.trans (m4.trans m5), PostS.lift (m4.trans m5) p'⟩
      | cont s5 =>
        rw [eb] at p'
        exact fun σ5 H5 a5 m5 => ⟨s5, a5, mv.trans (m4.trans m5), PostS.lift (m4.trans m5) p'⟩
      | brk s5 =>
        rw [eb] at p'
        exact fun σ5 H5 a5 m5 => PostS.lift m4 p' σ5 H5 a5 m5
      | ret d b' =>
        rw [eb] at p'
        exact p'
      | exc en fs s5 =>
        rw [eb] at p'
        exact fun dx σ5 H5 a5 m5 => PostS.lift m4 p' dx σ5 H5 a5 m5
      | bad => rw [eb] at p'; exact p'
  · left
    have e : xs.drop i = [] := List.drop_eq_nil_of_le (by omega)
    rw [e] at p'
    unfold loopF at p'
    exact ⟨stop i (by omega), p' σ' H' a' .refl⟩
theorem s_while {t : Expr} {body : List Stmt} {ft : S → R Bool} {fb : S → RS} {fw : Nat} (hp : PassesOwn (model X.prog X.w) X.A X.env X.xe) (ht : PT X t (TvB x c W ft)) (hb : PSs X body (TvS x c W fb)) : PS X (.While t body [] pos) (TvS x c W (loopW ft fb fw)) := by
  refine PSi (ps_while hp ht hb) fun D σ H q => ?_
  refine ⟨fun m σ' H' => TvS x c W (loopW ft fb m) D σ' H', ⟨fw, q⟩, ?_⟩
  intro m σ' H' q
  cases m with
  | zero => obtain ⟨s, a, p⟩ := q; exact p.elim
  | succ m =>
    refine Tv.toS (rel := RB) (f := ft) (g := fun k s1 => if k then (match fb s1 with
      | .next s2 => loopW ft fb m s2
      | .cont s2 => loopW ft fb m s2
      | .brk s2 => .next s2
      | r => r) else .next s1) q fun v H1 d s s1 a a1 rc r p => ?_
    obtain rfl : v = d := r
    cases v with
    | false => exact p σ' H1 a1 .refl
    | true =>
      refine ⟨fun σ2 H2 => TvS x c W (loopW ft fb m) D σ2 H2, fun σ2 H2 q2 => ⟨m, Nat.lt_succ_self m, q2⟩, s1, a1, ?_⟩
      simp only [if_true] at p
      cases eb : fb s1 with
      | next s5 => rw [eb] at p; exact fun σ5 H5 a5 m5 => ⟨s5, a5, PostS.lift m5 p⟩
      | cont s5 => rw [eb] at p; exact fun σ5 H5 a5 m5 => ⟨s5, a5, PostS.lift m5 p⟩
      | brk s5 => rw [eb] at p; exact p
      | ret d b' => rw [eb] at p; exact p
      | exc en fs s5 => rw [eb] at p; exact p
      | bad => rw [eb] at p; exact p
/-! ### a plain assignment -/
theorem asg_S {t : PTg} {D : Ends} {σ : Sg} {H : Hp} (hX : Ctx G F con N k c.toCb sc X) (q : TvS x c W (bindS fe fun d s => match asgT t d s with | some s' => .next s' | none => .bad) D σ H) : tAsg (TvE x c W fe) (gT X.K t) D σ H :=
  Tv.toS (rel := RE c) q fun v H1 d s s1 a a1 rc r p => by
    cases ea : asgT t d s1 with
    | none => rw [ea] at p; exact p.elim
    | some s4 =>
      rw [ea] at p
      exact asg_ok hX.bK a1 ea r fun σ4 a4 sh _ => p σ4 H1 a4 ⟨fun q o e _ => e, fun q h => .inl (sh q h)⟩
/-! ### lists of one's own that are changed -/
theorem rps_setN {c : Cb} {W : Addr → Prop} {H : Hp} {vs : List V} {ds : List D} {v : V} {d : D} {n : Nat} (h : Rps c W H vs ds) (r : Rp c W H v d) : Rps c W H (vs.set n v) (ds.set n d) := h.set n r
theorem SR.boxS (a : SR c σ H s) {b' : Bx} : SR c σ (L2.upd H c.bx (boxHO b')) { s with bx := b' } ∧ Mv c σ H s σ (L2.upd H c.bx (boxHO b')) { s with bx := b' } := by
  have g : Gr c.bx H (L2.upd H c.bx (boxHO b')) := fun a o e n => by rw [upd_ne n]; exact e
  refine ⟨a.gr g upd_same, fun q o e n => g q o e fun z => n (.inl (by rw [z]; exact a.wbx)), fun q h => .inl h⟩
theorem slotP_same {i : Nat} {s : S} {d : D} {s' : S} (h : slotP i s = .ok d s') : s' = s ∧ (s.env[i]? = some (.v d) ∨ ∃ xs, s.env[i]? = some (.own xs)) := by
  unfold slotP at h
  cases e : s.env[i]? with
  | none => rw [e] at h; cases h
  | some sl =>
    rw [e] at h
    cases sl with
    | no => cases h
    | v d' => cases h; exact ⟨rfl, .inl rfl⟩
    | own xs => cases h; exact ⟨rfl, .inr ⟨xs, rfl⟩⟩
theorem peek_S {i : Nat} {g : S → RS} {D : Ends} {σ : Sg} {H : Hp} {s : S} (a : SR c σ H s) (p : PostS x c W σ H s (bindS (slotP i) (fun _ => g) s) D) : (∃ u, σ[i]? = some (some u)) ∧ PostS x c W σ H s (g s) D := by
  unfold bindS at p
  cases e : slotP i s with
  | ok d s' =>
    rw [e] at p
    obtain ⟨rfl, h⟩ := slotP_same e
    rcases h with h | ⟨xs, h⟩
    · obtain ⟨u, e1, _⟩ := a.env i _ h
      exact ⟨⟨u, e1⟩, p⟩
    · obtain ⟨q, vs, e1, _⟩ := a.env i _ h
      exact ⟨⟨_, e1⟩, p⟩
  | exc en fs s' =>
    unfold slotP at e
    split at e <;> cases e
  | bad => rw [e] at p; exact p.elim
theorem set_S {i : Nat} {fx : S → R D} {D : Ends} {σ : Sg} {H : Hp} (q : TvS x c W (bindS fe fun d => bindS (slotP i) fun _ => bindS fx fun j s => (match j with | .int j => setSl i j d s | _ => .bad)) D σ H) : tAsg (TvE x c W fe) (gSub (tVar i) (TvE x c W fx) rSetL) D σ H :=
  Tv.toS (rel := RE c) q fun v H1 d s s1 a a1 rc r p => by
    obtain ⟨⟨u, eu⟩, p⟩ := peek_S a1 p
    refine ⟨u, eu, Tv.toS1 (rel := RE c) a1 p fun w H2 j s2 a2 rc2 r2 p2 => ?_⟩
    cases j with
    | int j =>
      replace p2 : PostS x c W σ H2 s2 (setSl i j d s2) D := p2
      have r3 := rc2.rp a1 r
      unfold setSl at p2
      cases es : s2.env[i]? with
      | none => rw [es] at p2; exact p2.elim
      | some sl =>
        rw [es] at p2
        cases r2
        cases sl with
        | no => exact p2.elim
        | own xs =>
          obtain ⟨pa, vs, e1, n0, nb, nw, e2, rr⟩ := a2.env i _ es
          rw [eu] at e1
          cases e1
          dsimp only at p2
          cases ei : ixN xs.length j with
          | none => rw [ei] at p2; exact p2.elim
          | some n =>
            rw [ei] at p2
            obtain ⟨a3, m3⟩ := a2.chg es eu (rr.set n r3)
            exact ⟨pa, vs, j, n, rfl, rfl, e2, by rw [rr.1]; exact ei, p2 σ _ a3 m3⟩
        | v dd =>
          cases dd with
          | box =>
            obtain ⟨u', e1, rr⟩ := a2.env i _ es
            rw [eu] at e1
            cases e1
            cases rr
            dsimp only at p2
            split at p2
            · cases r3
              have q := p2 σ _ a2.boxS.1 a2.boxS.2
              exact ⟨c.bx, _, 0, 0, rfl, rfl, a2.box, rfl, q⟩
            · cases r3
              have q := p2 σ _ a2.boxS.1 a2.boxS.2
              exact ⟨c.bx, _, 3, 3, rfl, rfl, a2.box, rfl, q⟩
            · exact p2.elim
          | _ => exact p2.elim
    | _ => exact p2.elim
theorem append_S {i : Nat} {D : Ends} {σ : Sg} {H : Hp} {K : PySem.W.Frag} (q : TvS x c W (fun s => match s.env[i]? with
    | some (.own _) => bindS fe (fun d s => appSl i d s) s
    | _ => .bad) D σ H) : tDrop (tBM K "list" rAppend (tVar i) (tCons (TvE x c W fe) tNil)) D σ H := by
  obtain ⟨s, a, p⟩ := q
  dsimp only at p
  split at p
  case h_2 => exact p.elim
  rename_i ys eo
  obtain ⟨po, ws, eu, _, _, _, eh, _⟩ := a.env i _ eo
  refine ⟨_, eu, .inl ⟨rfl, ws, .of eh⟩, ?_⟩
  refine Tv.toS1 (rel := RE c) a p fun v H1 d s1 a1 rc r p => ?_
  have p : PostS x c W σ H1 s1 (appSl i d s1) D := p
  unfold appSl at p
  cases es : s1.env[i]? with
  | none => rw [es] at p; exact p.elim
  | some sl =>
    rw [es] at p
    cases sl with
    | own xs =>
      obtain ⟨pa, vs, e1, n0, nb, nw, e2, rr⟩ := a1.env i _ es
      rw [eu] at e1
      cases e1
      dsimp only at p
      split at p
      · rename_i hl
        obtain ⟨a3, m3⟩ := a1.chg es eu (rr.append (.cons r .nil))
        exact ⟨po, vs, v, rfl, rfl, e2, by rw [rr.1, sizeLine_eq]; unfold big at hl; omega, p σ _ a3 m3⟩
      · exact p.elim
    | _ => exact p.elim
end
end PV

namespace PV
open PySem PySem.Spec PyProof.Rows L2
/-! ### new lists of one's own -/
def cP (c : Cn) (p : Addr) : Cn := { c with W0 := fun q => c.W0 q ∨ q = p }
section
variable {x : Ex} {c : Cn} {W : WX} {σ : Sg} {H H' : Hp} {s s' : S} {p : Addr}
theorem wn_cP {e : List Sl} {q : Addr} : Wn (cP c p) σ e q ↔ Wn c σ e q ∨ q = p := by
  constructor
  · intro h
    rcases h with (h | h) | h
    · exact .inl (.inl h)
    · exact .inr h
    · exact .inl (.inr h)
  · intro h
    rcases h with (h | h) | h
    · exact .inl (.inl h)
    · exact .inr h
    · exact .inl (.inr h)
theorem SlOk.unP {W' : Addr → Prop} {v : Option (Option V)} {y : Sl} (h : SlOk (cP c p) W' H v y) : SlOk c W' H v y := by
  cases y with
  | no => trivial
  | v d => exact h
  | own xs =>
    obtain ⟨a, vs, e, n0, nb, nw, e2, r⟩ := h
    exact ⟨a, vs, e, n0, nb, fun z => nw (.inl z), e2, r⟩
theorem SR.unP (a : SR (cP c p) σ H s) (w : c.W0 c.bx) : SR c σ H s where
  ext := a.ext
  len := a.len
  env := fun i y e => ((a.env i y e).to (fun q o e n => ⟨e, fun z => n (wn_cP.mpr (.inl z))⟩) .refl).unP
  apart := a.apart
  box := a.box
  there := fun q h => a.there q (.inl h)
  wbx := w
theorem SR.noOwn (a : SR (cP c p) σ H s) {i : Nat} {xs : List D} (e : s.env[i]? = some (.own xs)) : σ[i]? ≠ some (some (.ref p)) := fun z => by
  obtain ⟨q, vs, e1, _, _, nw, _⟩ := a.env i _ e
  rw [z] at e1
  cases e1
  exact nw (.inr rfl)
/-- a held list becomes a slot's own -/
theorem SR.release (a : SR (cP c p) σ H s) (w : c.W0 c.bx) {i : Nat} {vs : List V} {ds : List D} (hi : i < s.env.length) (e : H p = some (.lst vs)) (n0 : c.H0 p = none) (nb : p ≠ c.bx) (nw : ¬ c.W0 p)
    (r : Rps c.toCb (Wn (cP c p) σ s.env) H vs ds) :
    SR c (σ.set i (some (.ref p))) H { s with env := s.env.set i (.own ds) } ∧ ∀ q, Wn c (σ.set i (some (.ref p))) (s.env.set i (.own ds)) q → Wn (cP c p) σ s.env q := by
  have nW : ¬ Wn c σ s.env p := fun z => by
    rcases z with z | ⟨j, ys, e1, e2⟩
    · exact nw z
    · exact a.noOwn e1 e2
  obtain ⟨b1, b2⟩ := (a.unP w).putOwn hi e n0 nb nW (r.to fun q o e n => ⟨e, fun z => n (wn_cP.mpr z)⟩) fun j y hj ej => ((a.env j y ej).to (fun q o e n => ⟨e, fun z => n (wn_cP.mpr z)⟩) .refl).unP
  exact ⟨b1, fun q h => wn_cP.mpr (b2 q h)⟩
end
/-- values of which some are new lists: P holds these -/
def ParV (σ : Sg) (H' : Hp) (s' : S) (P : Addr → Prop) : Cn → List Bool → List V → List D → Prop
  | c, [], [], [] => SR c σ H' s'
  | c, false :: fl, v :: vs, d :: ds => Rp c.toCb (fun q => Wn c σ s'.env q ∨ P q) H' v d ∧ ParV σ H' s' P c fl vs ds
  | c, true :: fl, v :: vs, d :: ds => ∃ p us xs, v = .ref p ∧ d = .lst xs ∧ P p ∧ c.H0 p = none ∧ p ≠ c.bx ∧ ¬ c.W0 p ∧ H' p = some (.lst us) ∧ Rps c.toCb (fun q => Wn c σ s'.env q ∨ P q) H' us xs ∧ ParV σ H' s' P (cP c p) fl vs ds
  | _, _, _, _ => False
section
variable {x : Ex} {c : Cn} {W : WX} {σ : Sg} {H H' : Hp} {s s' : S} {p : Addr} {P P' : Addr → Prop}
theorem ParV.wide : ∀ {fl : List Bool} {c : Cn} {vs : List V} {ds : List D}, (∀ q, P' q → P q ∨ c.W0 q) → (∀ q, P q → P' q) → ParV σ H' s' P c fl vs ds → ParV σ H' s' P' c fl vs ds
  | [], c, [], [], _, _, h => h
  | false :: fl, c, v :: vs, d :: ds, h1, h2, ⟨r, h⟩ => ⟨r.to fun q o e n => ⟨e, fun z => n (z.elim .inl fun z => (h1 q z).elim .inr fun z => .inl (.inl z))⟩, ParV.wide h1 h2 h⟩
  | true :: fl, c, v :: vs, d :: ds, h1, h2, ⟨p, us, xs, e1, e2, e3, e4, e5, e6, e7, r, h⟩ =>
    ⟨p, us, xs, e1, e2, h2 p e3, e4, e5, e6, e7, r.to fun q o e n => ⟨e, fun z => n (z.elim .inl fun z => (h1 q z).elim .inr fun z => .inl (.inl z))⟩, ParV.wide (c := cP c p) (fun q z => (h1 q z).elim .inl fun z => .inr (.inl z)) h2 h⟩
  | [], _, _ :: _, _, _, _, h => h.elim
  | [], _, [], _ :: _, _, _, h => h.elim
  | false :: _, _, [], _, _, _, h => h.elim
  | true :: _, _, [], _, _, _, h => h.elim
  | false :: _, _, _ :: _, [], _, _, h => h.elim
  | true :: _, _, _ :: _, [], _, _, h => h.elim
theorem ParV.noOwn : ∀ {fl : List Bool} {c : Cn} {vs : List V} {ds : List D}, ParV σ H' s' P (cP c p) fl vs ds → ∀ {i : Nat} {xs : List D}, s'.env[i]? = some (.own xs) → σ[i]? ≠ some (some (.ref p))
  | [], c, [], [], h, i, xs, e => SR.noOwn (show SR (cP c p) σ H' s' from h) e
  | false :: fl, c, v :: vs, d :: ds, ⟨r, h⟩, i, xs, e => ParV.noOwn (fl := fl) h e
  | true :: fl, c, v :: vs, d :: ds, ⟨q, us, ys, e1, e2, e3, e4, e5, e6, e7, r, h⟩, i, xs, e => by
    have sw : ∀ {fl : List Bool} {vs : List V} {ds : List D} {c1 c2 : Cn}, c1.toCb = c2.toCb → c1.H0 = c2.H0 → (∀ q, c1.W0 q ↔ c2.W0 q) → ParV σ H' s' P c1 fl vs ds → ParV σ H' s' P c2 fl vs ds := fun {fl vs ds c1 c2} a b d h => by
      have : c1 = c2 := by
        obtain ⟨c1a, c1b, c1c⟩ := c1
        obtain ⟨c2a, c2b, c2c⟩ := c2
        obtain rfl : c1a = c2a := a
        obtain rfl : c1c = c2c := b
        obtain rfl : c1b = c2b := funext fun q => propext (d q)
        rfl
      rw [← this]; exact h
    exact ParV.noOwn (c := cP c q) (fl := fl) (sw (c1 := cP (cP c p) q) (c2 := cP (cP c q) p) rfl rfl (fun z => ⟨fun h => h.elim (fun h => h.elim (fun h => .inl (.inl h)) .inr) fun h => .inl (.inr h), fun h => h.elim (fun h => h.elim (fun h => .inl (.inl h)) .inr) fun h => .inl (.inr h)⟩) h) e
  | [], _, _ :: _, _, h, _, _, _ => h.elim
  | [], _, [], _ :: _, h, _, _, _ => h.elim
  | false :: _, _, [], _, h, _, _, _ => h.elim
  | true :: _, _, [], _, h, _, _, _ => h.elim
  | false :: _, _, _ :: _, [], h, _, _, _ => h.elim
  | true :: _, _, _ :: _, [], h, _, _, _ => h.elim
def storeV : List Nat → List V → Sg → Sg
  | i :: is, v :: vs, σ => (storeV is vs σ).set i (some v)
  | _, _, σ => σ
theorem par_store : ∀ {l : List (Nat × Bool)} {c : Cn} {vs : List V} {ds : List D} {env' : List Sl}, c.W0 c.bx → ParV σ H' s' P c (l.map (·.2)) vs ds → storeL l ds s'.env = some env' →
    SR c (storeV (l.map (·.1)) vs σ) H' { s' with env := env' } ∧ ∀ q, Wn c (storeV (l.map (·.1)) vs σ) env' q → Wn c σ s'.env q ∨ P q
  | [], c, [], [], env', w, h, e => by
    cases e
    exact ⟨h, fun q z => .inl z⟩
  | (i, false) :: l, c, v :: vs, d :: ds, env', w, ⟨r, h⟩, e => by
    unfold storeL at e
    cases es : storeL l ds s'.env with
    | none => rw [es] at e; cases e
    | some e1 =>
      rw [es] at e
      obtain ⟨a1, b1⟩ := par_store w h es
      dsimp only at e
      split at e
      case isFalse => cases e
      rename_i hi
      cases e
      obtain ⟨a2, m2⟩ := a1.put hi (r.to fun q o e n => ⟨e, fun z => n (b1 q z)⟩)
      refine ⟨a2, fun q z => ?_⟩
      rcases m2.sh q z with y | y
      · exact b1 q y
      · obtain ⟨o, z2⟩ := a2.hold q z
        rw [y] at z2; cases z2
  | (i, true) :: l, c, v :: vs, d :: ds, env', w, ⟨p, us, xs, e1, e2, e3, e4, e5, e6, e7, r, h⟩, e => by
    subst e1 e2
    unfold storeL at e
    cases es : storeL l ds s'.env with
    | none => rw [es] at e; cases e
    | some e1 =>
      rw [es] at e
      obtain ⟨a1, b1⟩ := par_store (c := cP c p) (.inl w) h es
      dsimp only at e
      split at e
      case isFalse => cases e
      rename_i hi
      cases e
      have sub : ∀ q, Wn (cP c p) (storeV (l.map (·.1)) vs σ) e1 q → Wn c σ s'.env q ∨ P q := fun q z => (b1 q z).elim (fun z => (wn_cP.mp z).elim .inl fun z => .inr (z ▸ e3)) .inr
      obtain ⟨a2, m2⟩ := a1.release w hi e7 e4 e5 e6 (r.to fun q o e n => ⟨e, fun z => n (sub q z)⟩)
      exact ⟨a2, fun q z => sub q (m2 q z)⟩
  | [], _, _ :: _, _, _, _, h, _ => h.elim
  | [], _, [], _ :: _, _, _, h, _ => h.elim
  | (_, false) :: _, _, [], _, _, _, h, _ => h.elim
  | (_, true) :: _, _, [], _, _, _, h, _ => h.elim
  | (_, false) :: _, _, _ :: _, [], _, _, h, _ => h.elim
  | (_, true) :: _, _, _ :: _, [], _, _, h, _ => h.elim
end
/-! ### readings -/
def PostF (x : Ex) (c : Cn) (W : WX) (σ : Sg) (H : Hp) (s : S) (r : R D) (Q : V → Hp → Prop) : Prop := match r with
  | .ok d s' => ∀ p us xs H', d = .lst xs → SR (cP c p) σ H' s' → Rch c σ H s H' s' → H p = none → c.H0 p = none → p ≠ c.bx → ¬ c.W0 p → H' p = some (.lst us) → Rps c.toCb (Wn (cP c p) σ s'.env) H' us xs → Q (.ref p) H'
  | .exc e fs s' => ∀ dx H', SR c σ H' s' → Rch c σ H s H' s' → ExAt x c.toCb (Wn c σ s'.env) H' dx e fs → W (.ref (x.cls e)) (some dx) σ H'
  | .bad => False
/-- an expression that makes a list -/
def TvF (x : Ex) (c : Cn) (W : WX) (f : S → R D) : TE := fun σ H Q => ∃ s, SR c σ H s ∧ PostF x c W σ H s (f s) Q
def PostW (x : Ex) (c : Cn) (W : WX) (fl : List Bool) (σ : Sg) (H : Hp) (s : S) (r : R (List D)) (Q : List V → Hp → Prop) : Prop := match r with
  | .ok ds s' => ∀ vs H' P, ParV σ H' s' P c fl vs ds → (∀ q, P q → H q = none) → Rch c σ H s H' s' → Q vs H'
  | .exc e fs s' => ∀ dx H', SR c σ H' s' → Rch c σ H s H' s' → ExAt x c.toCb (Wn c σ s'.env) H' dx e fs → W (.ref (x.cls e)) (some dx) σ H'
  | .bad => False
def TvW (x : Ex) (c : Cn) (W : WX) (fl : List Bool) (f : S → R (List D)) : TA := fun σ H Q => ∃ s, SR c σ H s ∧ PostW x c W fl σ H s (f s) Q
def tAnyW (x : Ex) (b : Cb) (W : WX) (fl : List Bool) (f : S → R (List D)) : TA := fun σ H Q => ∃ W0 H0, TvW x ⟨b, W0, H0⟩ W fl f σ H Q
section
variable {x : Ex} {c : Cn} {W : WX} {X : Cx} {G : Gd} {F : FT} {con : Nat → D} {N : List Str} {k : Nat} {sc : Scope} {e : Expr} {es : List Expr} {fe : S → R D} {fs : S → R (List D)} {f g : S → RS} {pos p pp : Pos} {st : Stmt} {rest a b : List Stmt} {σ : Sg} {H H1 H2 : Hp} {s s1 s2 : S}
theorem rch_unP {q : Addr} (r : Rch (cP c q) σ H s H1 s1) (no : ∀ {i : Nat} {xs : List D}, s1.env[i]? = some (.own xs) → σ[i]? ≠ some (some (.ref q))) (nw : ¬ c.W0 q) : Rch c σ H s H1 s1 := ⟨r.gr, fun a h => by
  rcases wn_cP.mp (r.sh a (wn_cP.mpr (.inl h))) with z | z
  · exact z
  · subst z
    rcases h with h | ⟨i, xs, e1, e2⟩
    · exact (nw h).elim
    · exact (no e1 e2).elim⟩
theorem pn_back {P : Addr → Prop} (a : SR c σ H s) (r : Rch c σ H s H1 s1) (a1 : ∃ o, H1 c.bx = some o) (h : ∀ q, P q → H1 q = none) : ∀ q, P q → H q = none := fun q z => by
  cases e : H q with
  | none => rfl
  | some o =>
    have n := h q z
    by_cases hq : q = c.bx
    · obtain ⟨o', e'⟩ := a1
      rw [hq, e'] at n; cases n
    · rw [r.gr q o e hq] at n; cases n
theorem w_nil : PA X [] (TvW x c W [] (retR [])) := PAi pa_nil fun σ H Q ⟨s, a, p⟩ => p [] H (fun _ => False) a (fun _ z => z.elim) .refl
theorem w_cons {fl : List Bool} (h : PE X e (TvE x c W fe)) (hr : PA X es (tAnyW x c.toCb W fl fs)) (hs : starred e = false) : PA X (e :: es) (TvW x c W (false :: fl) (bindR fe fun d => bindR fs fun ds => retR (d :: ds))) :=
  PAi (pa_cons h hr (star_each hs)) fun σ H Q ⟨s, a, p⟩ => by
    refine ⟨s, a, ?_⟩
    unfold bindR at p
    cases e1 : fe s with
    | bad => rw [e1] at p; exact p
    | exc en gs s1 => rw [e1] at p; exact p
    | ok d s1 =>
      rw [e1] at p
      intro v H1 a1 rc r
      refine ⟨c.W0, c.H0, s1, a1, ?_⟩
      dsimp only at p
      cases e2 : fs s1 with
      | bad => rw [e2] at p; exact p
      | exc en gs s2 =>
        rw [e2] at p
        exact fun dx H' a' rc' ea => p dx H' a' (rc.trans rc') ea
      | ok ds s2 =>
        rw [e2] at p
        intro vs H2 P pv pn rc2
        exact p (v :: vs) H2 P ⟨r.to fun q o e n => ⟨(rc2.kp a1.wbx q o e n).1, fun z => z.elim (rc2.kp a1.wbx q o e n).2 fun z => by rw [pn q z] at e; cases e⟩, pv⟩ (pn_back a rc ⟨_, a1.box⟩ pn) (rc.trans rc2)
theorem w_consF {fl : List Bool} (h : PE X e (TvF x c W fe)) (hr : PA X es (tAnyW x c.toCb W fl fs)) (hs : starred e = false) : PA X (e :: es) (TvW x c W (true :: fl) (bindR fe fun d => bindR fs fun ds => retR (d :: ds))) :=
  PAi (pa_cons h hr (star_each hs)) fun σ H Q ⟨s, a, p⟩ => by
    refine ⟨s, a, ?_⟩
    unfold bindR at p
    cases e1 : fe s with
    | bad => rw [e1] at p; exact p
    | exc en gs s1 => rw [e1] at p; exact p
    | ok d s1 =>
      rw [e1] at p
      intro pa us xs H1 ed a1 rc n0 n1 n2 n3 eh r
      refine ⟨(cP c pa).W0, c.H0, s1, a1, ?_⟩
      dsimp only at p
      cases e2 : fs s1 with
      | bad => rw [e2] at p; exact p
      | exc en gs s2 =>
        rw [e2] at p
        exact fun dx H' a' rc' ea => p dx H' (SR.unP a' a.wbx) (rc.trans (rch_unP rc' (fun e => SR.noOwn a' e) n3)) (by
          obtain ⟨vs, h1, h2, h3⟩ := ea
          exact ⟨vs, h1, h2, h3.to fun q o e n => ⟨e, fun z => n (wn_cP.mpr (.inl z))⟩⟩)
      | ok ds s2 =>
        rw [e2] at p
        intro vs H2 P pv pn rc2
        have rc2 : Rch (cP c pa) σ H1 s1 H2 s2 := rc2
        have pv : ParV σ H2 s2 P (cP c pa) fl vs ds := pv
        refine p (.ref pa :: vs) H2 (fun q => P q ∨ q = pa) ⟨pa, us, xs, rfl, ed, .inr rfl, n1, n2, n3, rc2.gr pa _ eh n2, r.to fun q o e n => ⟨(rc2.kp a1.wbx q o e n).1, fun z => ?_⟩, pv.wide (c := cP c pa) (fun q z => z.elim .inl fun z => .inr (.inr z)) (fun q z => .inl z)⟩ (fun q z => z.elim (fun z => pn_back a rc ⟨_, a1.box⟩ pn q z) fun z => z ▸ n0) (rc.trans (rch_unP rc2 (fun e => pv.noOwn e) n3))
        rcases z with z | z | z
        · exact (rc2.kp a1.wbx q o e n).2 (wn_cP.mpr (.inl z))
        · rw [pn q z] at e; cases e
        · exact n (wn_cP.mpr (.inr z))
theorem w_any {b : Cb} {fl : List Bool} (h : ∀ c : Cn, c.toCb = b → PA X es (TvW x c W fl fs)) : PA X es (tAnyW x b W fl fs) := ⟨fun pos pins s σ H Q I ⟨W0, H0, q⟩ => (h ⟨b, W0, H0⟩ rfl).run pos pins s σ H Q I q⟩
/-- a display -/
theorem f_lst {f : S → R (List D)} (h : PA X es (TvL x c W f)) : PE X (.List es pos) (TvF x c W (bindR f fun ds => if ds.length ≤ big then retR (.lst ds) else badR)) :=
  PEi (pe_lst h) fun σ H Q ⟨s, a, p⟩ => by
    refine ⟨s, a, ?_⟩
    unfold bindR at p
    cases e1 : f s with
    | bad => rw [e1] at p; exact p
    | exc en gs s1 => rw [e1] at p; exact p
    | ok ds s1 =>
      rw [e1] at p
      intro vs H1 a1 rc r
      dsimp only at p
      split at p
      case isFalse => exact p.elim
      rename_i hl
      refine ⟨by rw [r.1]; exact big_line hl, fun q nq => ?_⟩
      have sm := same_new (o := .lst vs) nq
      have n0 : H q = none := pn_back a rc ⟨_, a1.box⟩ (P := fun z => z = q) (fun z e => e ▸ nq) q rfl
      have nb : q ≠ c.bx := fun z => by rw [z, a.box] at n0; cases n0
      have n1 : c.H0 q = none := by
        cases e : c.H0 q with
        | none => rfl
        | some o => rw [a.ext q o e nb] at n0; cases n0
      have n2 : ¬ c.W0 q := fun z => by
        obtain ⟨o, e⟩ := a.there q z
        rw [n0] at e; cases e
      have nw : ¬ Wn c σ s1.env q := fun z => by
        obtain ⟨o, e⟩ := a1.hold q z
        rw [nq] at e; cases e
      have kp : Kp (Wn c σ s1.env) (Wn (cP c q) σ s1.env) H1 (L2.upd H1 q (.lst vs)) := fun z o e n => ⟨sm z o e, fun y => (wn_cP.mp y).elim n fun y => by rw [y, nq] at e; cases e⟩
      refine p q vs ds _ rfl ⟨?_, a1.len, fun i y e => ?_, a1.apart, sm _ _ a1.box, fun z hz => ?_, .inl a1.wbx⟩ (rc.trans (rch_same sm)) n0 n1 nb n2 upd_same (r.to kp)
      · exact (a1.same sm).ext
      · have h := (a1.env i y e).to kp (gr_same sm)
        cases y with
        | no => trivial
        | v d => exact h
        | own ys =>
          obtain ⟨a', vs', e', n0', nb', nw', e2', r'⟩ := h
          exact ⟨a', vs', e', n0', nb', fun z => z.elim nw' fun z => nw (.inr ⟨i, ys, e, by rw [e', z]⟩), e2', r'⟩
      · rcases hz with hz | hz
        · exact (a1.same sm).there z hz
        · exact ⟨_, by rw [hz]; exact upd_same⟩
/-- .. put in a slot -/
theorem own_S {i : Nat} {D : Ends} (q : TvS x c W (bindS fe fun d s => ownSl i d s) D σ H) : tAsg (TvF x c W fe) (gName i) D σ H := by
  obtain ⟨s, a, p⟩ := q
  refine ⟨s, a, ?_⟩
  unfold bindS at p
  cases e1 : fe s with
  | bad => rw [e1] at p; exact p
  | exc en gs s1 => rw [e1] at p; exact fun dx H' a' rc ea => p dx σ H' a' (rc.mv a) ea
  | ok d s1 =>
    rw [e1] at p
    intro pa us xs H1 ed a1 rc n0 n1 n2 n3 eh r
    subst ed
    have p : PostS x c W σ H s (if i < s1.env.length then .next { s1 with env := s1.env.set i (.own xs) } else .bad) D := p
    split at p
    case isFalse => exact p.elim
    rename_i hi
    obtain ⟨a2, m2⟩ := a1.release a.wbx hi eh n1 n2 n3 r
    refine p _ H1 a2 ⟨fun q o e n => (rc.kp a.wbx q o e n).1, fun q h => ?_⟩
    rcases wn_cP.mp (m2 q h) with z | z
    · exact .inl (rc.sh q z)
    · exact .inr (z ▸ n0)
theorem par_S {l : List (Nat × Bool)} {D : Ends} (q : TvS x c W (bindS fs fun ds s => (match storeL l ds s.env with | some e => .next { s with env := e } | none => .bad)) D σ H) :
    TvW x c W (l.map (·.2)) fs σ H fun vs H1 => vs.length = l.length ∧ D.nx (storeV (l.map (·.1)) vs σ) H1 := by
  obtain ⟨s, a, p⟩ := q
  refine ⟨s, a, ?_⟩
  unfold bindS at p
  cases e1 : fs s with
  | bad => rw [e1] at p; exact p
  | exc en gs s1 => rw [e1] at p; exact fun dx H' a' rc ea => p dx σ H' a' (rc.mv a) ea
  | ok ds s1 =>
    rw [e1] at p
    intro vs H1 P pv pn rc
    dsimp only at p
    have hl : ∀ {fl : List Bool} {c : Cn} {vs : List V} {ds : List PV.D}, ParV σ H1 s1 P c fl vs ds → vs.length = fl.length := by
      intro fl
      induction fl with
      | nil =>
        intro c vs ds h
        cases vs with
        | nil => rfl
        | cons => exact h.elim
      | cons o fl ih =>
        intro c vs ds h
        cases vs with
        | nil => cases o <;> exact h.elim
        | cons v vs =>
          cases ds with
          | nil => cases o <;> exact h.elim
          | cons d ds =>
            cases o with
            | false => rw [List.length_cons, List.length_cons, ih h.2]
            | true =>
              obtain ⟨_, _, _, _, _, _, _, _, _, _, _, h⟩ := h
              rw [List.length_cons, List.length_cons, ih h]
    refine ⟨by rw [hl pv, List.length_map], ?_⟩
    cases es : storeL l ds s1.env with
    | none => rw [es] at p; exact p.elim
    | some e' =>
      rw [es] at p
      obtain ⟨a2, m2⟩ := par_store a.wbx pv es
      exact p _ H1 a2 ⟨fun q o e n => (rc.kp a.wbx q o e n).1, fun q h => (m2 q h).elim (fun z => .inl (rc.sh q z)) fun z => .inr (pn q z)⟩
end
end PV

namespace PV
open PySem PySem.Spec PyProof.Rows L2
section
variable {x : Ex} {c : Cn} {W : WX} {X : Cx} {G : Gd} {F : FT} {con : Nat → D} {N : List Str} {k : Nat} {sc : Scope}
/-- .. as a list of its own -/
theorem r_compF {t : PTg} {tg elt iter : Expr} {ifs : List Expr} {scope : Scope} {own : List (Str × Nat)} {pos : Pos} {fi : S → R (List D)} {cond : S → R Bool} {felt : S → R D} (hX : Ctx G F con N k c.toCb sc X)
    (hi : PI X tg iter (TvI x c W fi)) (ok : BlkOk X.N X.env.scope scope own) (hv : own.map (·.2) = t.slots)
    (hg : ∀ (s : Shared) (H : Hp) (C : Addr) (cl : List (Str × Addr)) (fp : List Addr), PG (X.blk s H scope (compEnvC scope cl C X.env) fp) tg (gT X.K t))
    (ht : ∀ (s : Shared) (H : Hp) (C : Addr) (cl : List (Str × Addr)) (fp : List Addr), PTs (X.blk s H scope (compEnvC scope cl C X.env) fp) ifs (tAnyB x c.toCb cond))
    (he : ∀ (s : Shared) (H : Hp) (C : Addr) (cl : List (Str × Addr)) (fp : List Addr), PE (X.blk s H scope (compEnvC scope cl C X.env) fp) elt (tAnyE x c.toCb felt))
    (hs : ∀ v, foldedSetIterable iter X.env v = pure v) : ∀ σ H (Q : VK), TvF x c W (bindR fi fun xs => compR t cond felt xs) σ H Q → tLc (TvI x c W fi) (gT X.K t) (tAnyB x c.toCb cond) (tAnyE x c.toCb felt) (own.map (·.2)) σ H Q := by
  intro σ H Q q
  obtain ⟨s, a, p⟩ := q
  refine ⟨s, a, ?_⟩
  unfold bindR at p
  cases ef : fi s with
  | bad => rw [ef] at p; exact p
  | exc en gs s1 => rw [ef] at p; exact p
  | ok xs s1 =>
  rw [ef] at p
  intro J H1 a1 rc j
  dsimp only at p
  intro D hD
  unfold compR at p
  split at p
  case isFalse => exact p.elim
  rename_i hcond
  rw [Bool.and_eq_true] at hcond
  have hplain := hcond.1
  have hlen := of_decide_eq_true hcond.2
  cases e : compL t cond felt xs s1 with
  | exc a b s' => rw [e] at p; exact p.elim
  | bad => rw [e] at p; exact p.elim
  | ok ds se =>
  rw [e] at p
  rw [hv]
  have nb : D ≠ c.bx := ne_of_none a1.box hD |>.symm
  have nW : ¬ Wn c σ s1.env D := a1.hold.no hD
  have n0 : c.H0 D = none := by
    cases z : c.H0 D with
    | none => rfl
    | some o => rw [a1.ext D o z nb] at hD; cases hD
  refine ⟨fun i m Hi => m = xs.length - i ∧ i ≤ xs.length ∧ ∃ (si : S) (acc : List V) (dacc rest : List PV.D), SR (c.plus D) (L2.wipe σ t.slots) Hi (wp t.slots si) ∧ compL t cond felt (xs.drop i) si = .ok rest se ∧ ds = dacc ++ rest ∧
    Hi D = some (.lst acc) ∧ Rps c.toCb (Wn (c.plus D) (L2.wipe σ t.slots) (wipeE t.slots si.env)) Hi acc dacc ∧ acc.length ≤ i ∧ Gr c.bx H1 Hi ∧ (∀ q, Wn (c.plus D) (L2.wipe σ t.slots) (wipeE t.slots si.env) q → Wn c σ s1.env q ∨ q = D),
    ⟨xs.length, by simp, Nat.zero_le _, s1, [], [], ds, ?_, e, rfl, upd_same, .nil, Nat.le_refl _, Gr.upd hD, fun q h => ?_⟩, ?_⟩
  · exact a1.wipe.plus hD
  · rcases wn_plus (s := wp t.slots s1) h with h | h
    · exact .inl (wn_wipe h)
    · exact .inr h
  rintro i m Hi ⟨rfl, hle, si, acc, dacc, rest, sr, ec, rfl, eD, racc, hacc, gr, sh⟩
  have kp : Kp (Wn c σ s1.env) (Wn (c.plus D) (L2.wipe σ t.slots) (wipeE t.slots si.env)) H1 Hi := fun q o eo n =>
    ⟨gr q o eo fun z => n (.inl (by rw [z]; exact a1.wbx)), fun z => (sh q z).elim n (ne_of_none eo hD)⟩
  obtain ⟨jgo, jst⟩ := j _ Hi kp sr.hold
  by_cases hlt : i < xs.length
  · -- a turn
    have ex : xs[i]? = some xs[i] := List.getElem?_eq_getElem hlt
    obtain ⟨go, yl⟩ := jgo i _ ex
    rw [List.drop_eq_getElem_cons hlt] at ec
    obtain ⟨sa, b, sb, ea, eb, hb⟩ := compL_cons ec
    refine .inr ⟨go, fun H' => xs.length - (i + 1) = xs.length - (i + 1) ∧ i + 1 ≤ xs.length ∧ ∃ (si : S) (acc : List V) (dacc' rest' : List PV.D), SR (c.plus D) (L2.wipe σ t.slots) H' (wp t.slots si) ∧ compL t cond felt (xs.drop (i + 1)) si = .ok rest' se ∧ dacc ++ rest = dacc' ++ rest' ∧
      H' D = some (.lst acc) ∧ Rps c.toCb (Wn (c.plus D) (L2.wipe σ t.slots) (wipeE t.slots si.env)) H' acc dacc' ∧ acc.length ≤ i + 1 ∧ Gr c.bx H1 H' ∧ (∀ q, Wn (c.plus D) (L2.wipe σ t.slots) (wipeE t.slots si.env) q → Wn c σ s1.env q ∨ q = D),
      fun H' h => ⟨xs.length - (i + 1), by omega, h⟩, fun v H' y => ?_⟩
    obtain ⟨sm, rv⟩ := yl v H' y
    have sr1 := sr.same sm
    refine asg_ok (c := c.plus D) hX.bK sr1 ea rv fun σ2 sr2 sh2 wq => ?_
    have ew : L2.wipe σ2 t.slots = L2.wipe σ t.slots := by rw [wq t.slots fun i hi => hi, wipe_wipe]
    refine ⟨ew, (c.plus D).W0, c.H0, sa, sr2, ?_⟩
    show Post RB x (c.plus D) noW σ2 H' sa (cond sa) _
    rw [eb]
    intro vb H3 sr3 rc3 rb
    subst rb
    have gr3 : Gr c.bx Hi H3 := (gr_same sm).trans rc3.gr
    have sh3 : ∀ q, Wn (c.plus D) σ2 sb.env q → Wn (c.plus D) (L2.wipe σ t.slots) (wipeE t.slots si.env) q := fun q h => sh2 q (rc3.sh q h)
    have wD : Wn (c.plus D) (L2.wipe σ t.slots) (wipeE t.slots si.env) D := .inl (.inr rfl)
    rcases hb with ⟨rfl, e5⟩ | ⟨rfl, d', sd, r', e5, e6, rfl⟩
    · rw [if_neg Bool.false_ne_true]
      have sw := sr3.wipe (vs := t.slots)
      rw [ew] at sw
      have shw : ∀ q, Wn (c.plus D) (L2.wipe σ t.slots) (wipeE t.slots sb.env) q → Wn (c.plus D) (L2.wipe σ t.slots) (wipeE t.slots si.env) q := fun q h => sh3 q (wn_wipe (σ := σ2) (by rw [ew]; exact h))
      exact ⟨rfl, hlt, sb, acc, dacc, rest, sw, e5, rfl, gr3 _ _ eD nb, racc.to fun q o eo n => ⟨gr3 q o eo fun z => n (.inl (.inl (by rw [z]; exact a1.wbx))), fun z => n (shw q z)⟩, by omega, gr.trans gr3, fun q h => sh q (shw q h)⟩
    · rw [if_pos rfl]
      refine ⟨(c.plus D).W0, c.H0, sb, sr3, ?_⟩
      show Post (RE (c.plus D)) x (c.plus D) noW σ2 H3 sb (felt sb) _
      rw [e5]
      intro y4 H4 sr4 rc4 ry
      have gr4 : Gr c.bx Hi H4 := gr3.trans rc4.gr
      have sh4 : ∀ q, Wn (c.plus D) σ2 sd.env q → Wn (c.plus D) (L2.wipe σ t.slots) (wipeE t.slots si.env) q := fun q h => sh3 q (rc4.sh q h)
      have sw := (sr4.upd (p := D) (o := .lst (acc ++ [y4])) (.inr rfl) n0 nb).wipe (vs := t.slots)
      rw [ew] at sw
      have shw : ∀ q, Wn (c.plus D) (L2.wipe σ t.slots) (wipeE t.slots sd.env) q → Wn (c.plus D) σ2 sd.env q := fun q h => wn_wipe (σ := σ2) (by rw [ew]; exact h)
      have nD : ∀ {q : Addr} {Z : Addr → Prop}, Z D → ¬ Z q → q ≠ D := fun hz n z => n (by rw [z]; exact hz)
      refine ⟨acc, gr4 _ _ eD nb, ?_, rfl, hlt, sd, acc ++ [y4], dacc ++ [d'], r', sw, e6, by simp, upd_same, ?_, by rw [List.length_append]; simp; omega, ?_, fun q h => sh q (sh4 q (shw q h))⟩
      · exact Nat.lt_of_lt_of_le (Nat.lt_of_le_of_lt hacc hlt) (big_line hlen)
      · refine Rps.append (racc.to fun q o eo n => ⟨by rw [upd_ne (nD wD n)]; exact gr4 q o eo fun z => n (.inl (.inl (by rw [z]; exact a1.wbx))), fun z => n (sh4 q (shw q z))⟩) (Rps.cons (ry.to fun q o eo n => ⟨by rw [upd_ne (nD (Z := Wn (c.plus D) σ2 sd.env) (.inl (.inr rfl)) n)]; exact eo, fun z => n (shw q z)⟩) .nil)
      · exact fun q o eo n => by rw [upd_ne (ne_of_none eo hD)]; exact (gr.trans gr4) q o eo n
  · -- the end
    have ei : i = xs.length := by omega
    subst ei
    refine .inl ⟨jst _ (Nat.le_refl _), ?_⟩
    rw [List.drop_length] at ec
    unfold compL at ec
    cases ec
    rw [List.append_nil] at p
    have srm := sr.minus a1.wbx
    have nD : ¬ Wn c (L2.wipe σ t.slots) (wipeE t.slots se.env) D := fun h => by
      rcases h with h | ⟨i, ys, e1, e2⟩
      · exact nW (.inl h)
      · obtain ⟨q, vs, e3, _, _, nw, _⟩ := sr.env i _ e1
        rw [e2] at e3
        cases e3
        exact nw (.inr rfl)
    have shm : ∀ q, Wn c (L2.wipe σ t.slots) (wipeE t.slots se.env) q → Wn c σ s1.env q := fun q h => (sh q (plus_wn (s := wp t.slots se) h)).elim id fun z => by
      rw [z] at h; exact (nD h).elim
    obtain ⟨sb, shb⟩ := a1.back hplain srm gr shm
    have hH : H D = none := pn_back a rc ⟨_, a1.box⟩ (P := fun z => z = D) (fun z e => e ▸ hD) D rfl
    have grp : Gr c.bx (L2.upd H1 D (.lst acc)) Hi := fun q o eo n => by
      by_cases hq : q = D
      · subst hq
        rw [upd_same] at eo
        cases eo
        exact eD
      · rw [upd_ne hq] at eo
        exact gr q o eo n
    obtain ⟨sb2, shb2⟩ := (a1.plus (o := .lst acc) hD).back (c := c.plus D) hplain sr grp fun q h => (sh q h).elim (fun z => plus_wn z) fun z => .inl (.inr z)
    exact p D acc dacc Hi rfl sb2 (rc.trans ⟨gr, fun q h => shm q (shb q h)⟩) hH n0 (Ne.symm nb |> Ne.symm) (fun z => nW (.inl z)) eD (racc.to fun q o eo n => ⟨eo, fun z => n (shb2 q z)⟩)
end
end PV

/-! lists of one's own, by + and * -/
namespace PV
open PySem PySem.Spec PyProof.Rows L2
/-- only lists -/
def lstR (m : S → R D) : S → R D := fun s => match m s with
  | .ok (.lst xs) s' => .ok (.lst xs) s'
  | .exc e fs s' => .exc e fs s'
  | _ => .bad
section
variable {x : Ex} {c : Cn} {W : WX} {X : Cx} {G : Gd} {F : FT} {con : Nat → D} {N : List Str} {k : Nat} {sc : Scope} {e a b : Expr} {fe fa fb : S → R D} {pos : Pos} {σ : Sg} {H H1 H2 : Hp} {s s1 s2 : S}
theorem f_lstR {v : Expr} (h : PE X v (TvF x c W fe)) : PE X v (TvF x c W (lstR fe)) := PEi h fun σ H Q ⟨s, a, p⟩ => by
  refine ⟨s, a, ?_⟩
  unfold lstR at p
  cases e1 : fe s with
  | bad => rw [e1] at p; exact p
  | exc en gs s1 => rw [e1] at p; exact p
  | ok d s1 =>
    rw [e1] at p
    cases d <;> first | exact p | exact p.elim
theorem postF_new {us : List V} {xs : List D} {q : Addr} {Q : V → Hp → Prop} (p : PostF x c W σ H s (.ok (.lst xs) s1) Q) (a : SR c σ H s) (rc : Rch c σ H s H1 s1) (a1 : SR c σ H1 s1) (nq : H1 q = none) (r : Rps c.toCb (Wn c σ s1.env) H1 us xs) : Q (.ref q) (L2.upd H1 q (.lst us)) := by
  have n0 : H q = none := pn_back a rc ⟨_, a1.box⟩ (P := fun z => z = q) (fun z e => e ▸ nq) q rfl
  have nb : q ≠ c.bx := fun z => by rw [z, a.box] at n0; cases n0
  have n1 : c.H0 q = none := by
    cases e : c.H0 q with
    | none => rfl
    | some o => rw [a.ext q o e nb] at n0; cases n0
  have n2 : ¬ c.W0 q := fun z => by
    obtain ⟨o, e⟩ := a.there q z
    rw [n0] at e; cases e
  have nw : ¬ Wn c σ s1.env q := fun z => by
    obtain ⟨o, e⟩ := a1.hold q z
    rw [nq] at e; cases e
  exact p q us xs _ rfl (a1.plus nq) (rc.trans (rch_same (same_new nq))) n0 n1 nb n2 upd_same (r.to fun q' o e n => ⟨same_new nq q' o e, fun z => (wn_cP.mp z).elim n fun y => by rw [y, nq] at e; cases e⟩)
theorem f_rngL {nm nm2 : Str} {pp p2 p3 : Pos} (hX : Ctx G F con N k c.toCb sc X) (h1 : nm = "list") (h2 : freeB G sc nm = true) (h3 : nm2 = "range") (h4 : freeB G sc nm2 = true) (hs : starred a = false) (ha : PE X a (TvE x c W fa)) :
    PE X (.Call (.Name nm pp) [.Call (.Name nm2 p2) [a] [] p3] [] pos) (TvF x c W (bindR fa fun d => bindR (intR d) fun i => if decide (-1000000 ≤ i) && decide (i ≤ 1000000) then retR (.lst (rangeD 0 i)) else badR)) := by
  obtain ⟨g1, m, g2, g3⟩ := free_ok hX h2
  obtain ⟨g1', m', g2', g3'⟩ := free_ok hX h4
  subst h1 h3
  refine PEi (L2.pe_listRg hX.calm g1 m (L2.prg_1 g1' m' ha (star_each hs))) fun σ H Q ⟨s, a0, p⟩ => ?_
  refine ⟨s, a0, ?_⟩
  unfold bindR at p
  cases e1 : fa s with
  | bad => rw [e1] at p; exact p
  | exc en gs s1 => rw [e1] at p; exact p
  | ok d s1 =>
    rw [e1] at p
    intro v H1 a1 rc r
    dsimp only at p
    cases d with
    | int i =>
      dsimp only [intR] at p
      split at p
      case isFalse => exact p.elim
      rename_i hr
      rw [Bool.and_eq_true, decide_eq_true_eq, decide_eq_true_eq] at hr
      exact ⟨i, by rw [r.t.int], ⟨by omega, by omega, by omega, by omega, by omega⟩, fun q nq => postF_new p a0 rc a1 nq rps_rg⟩
    | _ => exact p.elim
theorem f_list {nm : Str} {pp : Pos} {es : List Expr} {fs : S → R (List D)} (hX : Ctx G F con N k c.toCb sc X) (h1 : nm = "list") (h2 : freeB G sc nm = true) (hs : es.all (fun e => !starred e) = true) (ha : PA X es (TvQ x c W fs)) (he : es ≠ []) :
    PE X (.Call (.Name nm pp) es [] pos) (TvF x c W (bindR fs fun ds => optR (bltD .list ds))) := by
  cases es with
  | nil => exact (he rfl).elim
  | cons e es =>
    rw [List.all_cons, Bool.and_eq_true] at hs
    have z : starred e = false := by simpa using hs.1
    obtain ⟨g1, m, g2, g3⟩ := free_ok hX h2
    subst h1
    have sa := star_each (es := es) (env := X.env) z
    have sb := no_star (env := X.env) (pos := pos) hs.2
    refine PEi (pe_callTy call_list_of g1 m (boot_blt .list rfl) ha g3 g2 sa sb) fun σ H Q ⟨s, a0, p⟩ => ?_
    refine ⟨s, a0, ?_⟩
    unfold bindR at p
    cases e1 : fs s with
    | bad => rw [e1] at p; exact p
    | exc en gs s1 => rw [e1] at p; exact p
    | ok ds s1 =>
      rw [e1] at p
      intro vs H1 a1 rc r
      dsimp only at p
      unfold optR bltD at p
      split at p
      case h_2 => exact p.elim
      rename_i d' e3
      split at e3 <;> try (cases e3; done)
      all_goals (rename_i h1; try (cases h1; done))
      · cases e3
        obtain ⟨v, rfl, hv⟩ := r.one
        obtain ⟨a, vs, rfl, h1, r1⟩ := hv.lst
        exact ⟨a, vs, rfl, .inl (.of h1), fun q nq => postF_new p a0 rc a1 nq r1⟩
      · cases e3
        obtain ⟨v, rfl, hv⟩ := r.one
        obtain ⟨a, vs, rfl, h1, r1⟩ := hv.tup
        exact ⟨a, vs, rfl, .inr (hX.bK ▸ h1.sq), fun q nq => postF_new p a0 rc a1 nq r1⟩
theorem add_lst {da db : D} {zs : List D} (h : binD .add da db = some (.lst zs)) : ∃ xs ys, da = .lst xs ∧ db = .lst ys ∧ xs.length + ys.length ≤ big ∧ zs = xs ++ ys := by
  cases da <;> cases db <;> simp only [binD] at h <;> try (cases h; done)
  · split at h <;> cases h
  · split at h
    · rename_i hc
      cases h
      exact ⟨_, _, rfl, rfl, hc, rfl⟩
    · cases h
theorem mul_lst {da db : D} {zs : List D} (h : binD .mul da db = some (.lst zs)) : ∃ xs k, da = .lst xs ∧ db = .int k ∧ (0 ≤ k ∧ k ≤ 1000000 ∧ xs.length * k.toNat ≤ big) ∧ zs = (List.replicate k.toNat xs).flatten := by
  cases da <;> cases db <;> simp only [binD] at h <;> try (cases h; done)
  · split at h <;> cases h
  · split at h <;> cases h
  · split at h
    · rename_i hc
      cases h
      exact ⟨_, _, rfl, rfl, hc, rfl⟩
    · cases h
theorem f_add (ha : PE X a (TvP x c W fa)) (hb : PE X b (TvP x c W fb)) : PE X (.BinOp a .Add b pos) (TvF x c W (lstR (bindR fa fun v => bindR fb fun w => optR (binD .add v w)))) :=
  PEi (pe_op op_cat ha hb) fun σ H Q ⟨s, a0, p⟩ => by
    refine ⟨s, a0, ?_⟩
    unfold lstR bindR at p
    cases e1 : fa s with
    | bad => rw [e1] at p; exact p
    | exc en gs s1 => rw [e1] at p; exact p
    | ok da s1 =>
      rw [e1] at p
      intro v H1 a1 rc r
      refine ⟨s1, a1, ?_⟩
      dsimp only at p
      cases e2 : fb s1 with
      | bad => rw [e2] at p; exact p
      | exc en gs s2 => rw [e2] at p; exact fun dx H' a' rc' ea => p dx H' a' (rc.trans rc') ea
      | ok db s2 =>
        rw [e2] at p
        intro w H2 a2 rc2 r2
        have rd := rc2.rpT a1 r
        dsimp only at p
        unfold optR at p
        cases e3 : binD .add da db with
        | none => rw [e3] at p; exact p.elim
        | some d =>
          rw [e3] at p
          cases d with
          | lst zs =>
            obtain ⟨xs, ys, rfl, rfl, hle, rfl⟩ := add_lst e3
            obtain ⟨l1, vs, e4, h1, r1⟩ := rd.lst
            obtain ⟨l2, vs2, e5, h2, r3⟩ := r2.lst
            exact ⟨l1, l2, vs, vs2, e4, e5, h1, h2, by rw [r1.1, r3.1]; exact big_line hle, fun q nq => postF_new p a0 (rc.trans rc2) a2 nq (r1.append r3)⟩
          | _ => exact p.elim
theorem f_mul (ha : PE X a (TvP x c W fa)) (hb : PE X b (TvP x c W fb)) : PE X (.BinOp a .Mult b pos) (TvF x c W (lstR (bindR fa fun v => bindR fb fun w => optR (binD .mul v w)))) :=
  PEi (pe_op op_rep ha hb) fun σ H Q ⟨s, a0, p⟩ => by
    refine ⟨s, a0, ?_⟩
    unfold lstR bindR at p
    cases e1 : fa s with
    | bad => rw [e1] at p; exact p
    | exc en gs s1 => rw [e1] at p; exact p
    | ok da s1 =>
      rw [e1] at p
      intro v H1 a1 rc r
      refine ⟨s1, a1, ?_⟩
      dsimp only at p
      cases e2 : fb s1 with
      | bad => rw [e2] at p; exact p
      | exc en gs s2 => rw [e2] at p; exact fun dx H' a' rc' ea => p dx H' a' (rc.trans rc') ea
      | ok db s2 =>
        rw [e2] at p
        intro w H2 a2 rc2 r2
        have rd := rc2.rpT a1 r
        dsimp only at p
        unfold optR at p
        cases e3 : binD .mul da db with
        | none => rw [e3] at p; exact p.elim
        | some d =>
          rw [e3] at p
          cases d with
          | lst zs =>
            obtain ⟨xs, k, rfl, rfl, hc, rfl⟩ := mul_lst e3
            obtain ⟨l1, vs, e4, h1, r1⟩ := rd.lst
            have rr : ∀ n : Nat, Rps c.toCb (Wn c σ s2.env) H2 (List.replicate n vs).flatten (List.replicate n xs).flatten := fun n => by
              induction n with
              | zero => exact .nil
              | succ n ih => rw [List.replicate_succ, List.replicate_succ, List.flatten_cons, List.flatten_cons]; exact r1.append ih
            exact ⟨l1, k, vs, e4, r2.int, h1, by omega, by omega, by rw [r1.1]; exact big_line hc.2.2, fun q nq => postF_new p a0 (rc.trans rc2) a2 nq (rr _)⟩
          | _ => exact p.elim
theorem own_S2 {i : Nat} {D : Ends} (q : TvS x c W (bindS fe fun d s => ownSl i d s) D σ H) : tAsg (TvF x c W (lstR fe)) (gName i) D σ H := by
  refine own_S (fe := lstR fe) ?_
  obtain ⟨s, a, p⟩ := q
  refine ⟨s, a, ?_⟩
  unfold bindS at p ⊢
  unfold lstR
  cases e1 : fe s with
  | bad => rw [e1] at p; exact p
  | exc en gs s1 => rw [e1] at p; exact p
  | ok d s1 =>
    rw [e1] at p
    cases d <;> first | exact p | exact p.elim
end
end PV

/-! several except clauses, each with a name or without -/
namespace PV
open PySem PySem.Spec PyProof.Rows L2
abbrev TSx := Addr → Value → Option Addr → TS
def putX (a : Addr) (σ : Sg) : Option Nat → Sg
  | some i => σ.set i (some (.ref a))
  | none => σ
def endX (D : Ends) : Option Nat → Ends
  | some i => { nx := fun σ' H' => D.nx (σ'.set i none) H', rt := D.rt, bk := fun σ' H' => D.bk (σ'.set i none) H', ct := fun σ' H' => D.ct (σ'.set i none) H' }
  | none => D
/-- what the clauses wish of an exception of the body -/
def wManyA (K : PySem.W.Frag) (Wout : WX) (D : Ends) : List (Value × Option Nat × TSx) → WX
  | [] => Wout
  | (c, i, ts) :: r => fun cls d σ H => ∃ b, PySem.W.exmOne K cls c = some b ∧ (b = true → ∀ a, H a = none → ts a cls d (endX D i) (putX a σ i) H) ∧ (b = false → wManyA K Wout D r cls d σ H)
inductive HdsA (X : Cx) : List ExceptHandler → List (Value × Option Nat × TSx) → Prop
  | nil : HdsA X [] []
  | cons {x : Str} {c : Value} {n : Option Str} {i : Option Nat} {ts : TSx} {b₀ : Stmt} {suite : List Stmt} {np pos' : Pos} {hds : List ExceptHandler} {l : List (Value × Option Nat × TSx)} (hc : Names X x c)
      (hn : ∀ m, n = some m → ∃ j, i = some j ∧ X.N[j]? = some m ∧ X.env.kindOf m = some .local) (hn0 : n = none → i = none)
      (hsu : ∀ (a : Addr) (oe : Obj) (cls : Value) (d : Option Addr) (pn : List (Addr × Obj)), Zc cls d oe → (∃ vs, oe.data = .fields vs) → PSs (X.suite a ((a, oe) :: pn)) (b₀ :: suite) (ts a cls d)) (r : HdsA X hds l) :
      HdsA X (.ExceptHandler (some (.Name x np)) n (b₀ :: suite) pos' :: hds) ((c, i, ts) :: l)
section
variable {X : Cx} {body : List Stmt} {h₀ : ExceptHandler} {hds : List ExceptHandler} {l : List (Value × Option Nat × TSx)} {pos : Pos} {tb : WX → TS} {Wout : WX}
theorem ps_tryA (hs : X.stack = X.env :: X.outer) (hf : X.env.frame = some X.env.locals) (hN : X.N.Nodup) (tk : Takes X Wout)
    (hb : ∀ (W : WX) (pn : List (Addr × Obj)) (xe : Value → Shared → Prop), Takes (X.tr pn xe) W → PassesOwn (model X.prog X.w) X.A X.env xe → PSs (X.tr pn xe) body (tb W))
    (hh : HdsA X (h₀ :: hds) l) : PS X (.Try body (h₀ :: hds) [] [] pos) (fun D σ H => tb (wManyA X.K Wout D l) D σ H) := by
  refine ⟨fun pins s σ H D I h => ?_⟩
  have ok := I.ok
  have hfr : X.A.frames = some (X.env :: X.outer) := by rw [ok.frames, hs]
  refine wpAny_Try_except ?_
  refine wpAny_mono ((hb (wManyA X.K Wout D l) (X.pn ++ pins) (fun e s₁ => wpAny (model X.prog X.w) X.A (noteFrame e X.env) (fun _ s₂ => wpAny (model X.prog X.w) X.A (setFlight e none) (fun _ s₃ =>
    wpAny (model X.prog X.w) X.A (handleBy e X.env (h₀ :: hds)) (SP X pins D) X.xe s₃) X.xe s₂) X.xe s₁) (fun u s' xx => ?_) PassesOwn.looking).run [] s σ H D (I.toTry _) h) (fun f s1 hsp => ?_) (fun e s1 he => he)
  · obtain ⟨a, B, sI, pins', σ', H', cls, d, rfl, J', nb, up, sky, na, os, ag, w⟩ := xx
    have J : Inv X pins σ' H' sI := J'.ofTry ok
    have sky' : Sky B (X.env :: X.outer) a (Zc cls d) X.env.locals s'.heap := by rw [← hs]; exact sky
    show wpAny (model X.prog X.w) X.A (noteFrame (.ref a) X.env) _ _ _
    refine Sky.land Zc.steady hfr hf sky' fun h3 fl3 up3 => ?_
    have J3 : Inv X pins σ' H' { s' with heap := h3 } := J.landed nb fl3.1 (up.trans up3) os ag
    obtain ⟨oe3, vs3, he3, hz3, hd3⟩ := fl3.there
    have notFr : ∀ {h : Heap} {o : Obj} {vs : Array Value}, h.FunFrames B (X.env :: X.outer) → h.get? a = some o → o.data = .fields vs → a ∉ frs (X.env :: X.outer) := fun {h o vs} ff e dd hm => by
      obtain ⟨_, o', e', hnf⟩ := ff.mem hm
      rw [e] at e'; cases e'
      exact hnf _ dd
    have nfr := notFr fl3.2.2.1 he3 hd3
    have nL : a ≠ X.env.locals := fun z => nfr (List.mem_filterMap.mpr ⟨X.env, List.mem_cons_self, by rw [hf, z]⟩)
    have nF : a ∉ X.fs := fun hm => by
      obtain ⟨e, he, q⟩ := List.mem_filterMap.mp hm
      exact nfr (List.mem_filterMap.mpr ⟨e, List.mem_cons_of_mem _ he, q⟩)
    have S3 := J3.suite he3 hd3 na nL nF
    have go : ∀ {hds' : List ExceptHandler} {l' : List (Value × Option Nat × TSx)}, HdsA X hds' l' → wManyA X.K Wout D l' cls d σ' H' →
        wpAny (model X.prog X.w) X.A (handleBy (.ref a) X.env hds') (SP X pins D) X.xe { s' with heap := h3 } := by
      intro hds' l' hk
      induction hk with
      | nil =>
        intro w
        refine wpAny_handleBy_nil ?_
        obtain ⟨k1, k2, k3, oe, vs, T, oT, ts', he, hz, hd, h1, hr⟩ := id fl3
        unfold PySem.passOn
        refine wpAny_bind (wpAny_field he hd h1 ?_)
        rw [if_neg (show ¬ ((Value.ref T == Value.none) = true) from by simp)]
        have fin : wpAny (model X.prog X.w) X.A (setFlight (.ref a) X.env.frame) (fun _ s4 => wpAny (model X.prog X.w) X.A (throw (.ref a) : Sem Flow) (SP X pins D) X.xe s4) X.xe { s' with heap := h3 } := by
          rw [hf]
          refine HandSPX.setFlight_upZ fl3 fun h4 hh4 up4 => wpAny_throw (tk _ _ ?_)
          exact ⟨a, B, sI, pins, σ', H', cls, d, rfl, J, nb, (up.trans up3).trans up4, .inr (.inr (by rw [hs]; exact hh4)), na, os, ag, w⟩
        first
          | exact wpAny_bind (wpAny_pure (wpAny_bind fin))
          | exact wpAny_bind fin
      | @cons x c n i ts b₀ suite np pos' hds2 l2 hc hn hn0 hsu r ih =>
        intro w
        obtain ⟨b, hb1, hyes, hno⟩ := w
        refine wpAny_handleBy_cons (codeAny_handlers_test ?_) (by intro q; cases q)
        have LT : PySem.W.Looks (model X.prog X.w) h3 (typeOf (.ref a)) cls := fun A Q E s k q => wpAny_typeOf_ref (k _ _ he3) (by rw [hz3.1]; exact q)
        have LM := PySem.W.exm_one (M := model X.prog X.w) (J3.kIn) LT hb1
        have test : ∀ {Q : Value → Shared → Prop} {E : Value → Shared → Prop}, Q c { s' with heap := h3 } → wpAny (model X.prog X.w) (X.A.mark (some (.ref a))) (eval (.Name x np) X.env) Q E { s' with heap := h3 } := fun {Q E} q => by
          obtain ⟨hg, hdbg, hm | ⟨hm, hv, hnn⟩⟩ := hc
          · exact ld_glob (X := X.suite a ((a, oe3) :: (X.pn ++ pins))) S3 hg hm q hdbg
          · exact ld_blt (X := X.suite a ((a, oe3) :: (X.pn ++ pins))) S3 hg hm hv q hnn hdbg
        refine test (LM.here ?_)
        cases b with
        | false =>
          show wpAny _ X.A (handleBy (.ref a) X.env hds2) _ _ _
          exact ih (hno rfl)
        | true =>
          cases n with
          | none =>
            obtain rfl := hn0 rfl
            refine codeAny_handlers_suite ?_
            refine HandSPX.lands_againZ fl3 fun h4 fl4 up4 => ?_
            have J4 : Inv X pins σ' H' { s' with heap := h4 } := J.landed nb fl4.1 ((up.trans up3).trans up4) os ag
            obtain ⟨oe4, vs4, he4, hz4, hd4⟩ := fl4.there
            have S4 := J4.suite he4 hd4 na nL nF
            refine wpAny_mono ((hsu a oe4 cls d (X.pn ++ pins) hz4 ⟨_, hd4⟩).run [] _ _ H' _ S4 (hyes rfl a na)) (fun f s6 hsp => ?_) (fun _ _ z => False.elim z)
            cases f with
            | next =>
              obtain ⟨σ6, H6, S6, q6⟩ := hsp
              exact ⟨_, _, S6.unsuite ok, q6⟩
            | brk =>
              obtain ⟨σ6, H6, S6, q6⟩ := hsp
              exact ⟨_, _, S6.unsuite ok, q6⟩
            | cont =>
              obtain ⟨σ6, H6, S6, q6⟩ := hsp
              exact ⟨_, _, S6.unsuite ok, q6⟩
            | ret u =>
              obtain ⟨v6, σ6, H6, S6, r6, q6⟩ := hsp
              exact ⟨_, _, _, S6.unsuite ok, r6, q6⟩
          | some m =>
            obtain ⟨j, rfl, hi, hln⟩ := hn m rfl
            have hloc : Loc X.env.scope m := .inl hln
            refine codeAny_handlers_suite_as ?_
            refine HandSPX.lands_againZ fl3 fun h4 fl4 up4 => ?_
            have J4 : Inv X pins σ' H' { s' with heap := h4 } := J.landed nb fl4.1 ((up.trans up3).trans up4) os ag
            obtain ⟨oe4, vs4, he4, hz4, hd4⟩ := fl4.there
            have S4 := J4.suite he4 hd4 na nL nF
            refine store_ok (X := X.suite a ((a, oe4) :: (X.pn ++ pins))) (v := .ref a) S4 hN hi hloc rfl (fun s5 S5 => ?_) (.inr hln)
            refine wpAny_mono ((hsu a oe4 cls d (X.pn ++ pins) hz4 ⟨_, hd4⟩).run [] s5 _ H' _ S5 (hyes rfl a na)) (fun f s6 hsp => ?_) (fun _ _ z => False.elim z)
            have end_ : ∀ {σ6 : L2.St} {H6 : Hp} {Q : Shared → Prop}, Inv (X.suite a ((a, oe4) :: (X.pn ++ pins))) [] σ6 H6 s6 → (∀ s7, Inv X pins (σ6.set j none) H6 s7 → Q s7) →
                wpAny (model X.prog X.w) X.A (do bindName X.env m .none; unbindBehindTheSuite X.env m pos') (fun _ s7 => Q s7) X.xe s6 := fun {σ6 H6 Q} S6 hq => gone_ok (S6.unsuite ok) hN hi hln hq
            cases f with
            | next =>
              obtain ⟨σ6, H6, S6, q6⟩ := hsp
              exact end_ S6 fun s7 J7 => ⟨_, _, J7, q6⟩
            | brk =>
              obtain ⟨σ6, H6, S6, q6⟩ := hsp
              exact end_ S6 fun s7 J7 => ⟨_, _, J7, q6⟩
            | cont =>
              obtain ⟨σ6, H6, S6, q6⟩ := hsp
              exact end_ S6 fun s7 J7 => ⟨_, _, J7, q6⟩
            | ret u =>
              obtain ⟨v6, σ6, H6, S6, r6, q6⟩ := hsp
              exact end_ S6 fun s7 J7 => ⟨_, _, _, J7, r6, q6⟩
    exact go hh w
  · cases f with
    | next =>
      obtain ⟨σ', H', J', q⟩ := hsp
      exact wpAny_execs_nil ⟨σ', H', J'.ofTry ok, q⟩
    | brk =>
      obtain ⟨σ', H', J', q⟩ := hsp
      exact ⟨σ', H', J'.ofTry ok, q⟩
    | cont =>
      obtain ⟨σ', H', J', q⟩ := hsp
      exact ⟨σ', H', J'.ofTry ok, q⟩
    | ret u =>
      obtain ⟨v, σ', H', J', r, q⟩ := hsp
      exact ⟨v, σ', H', J'.ofTry ok, r, q⟩
end
end PV

/-! raise, except suites -/
namespace PV
open PySem PySem.Spec PyProof.Rows L2
/-- what C's __init__ promises (the fields in the order last to first) -/
def spI (K : PySem.W.Frag) (C : Addr) (flds : List Str) : Sp := fun ws H Q E => ∃ (a : Addr) (vs : List V), ws = .ref a :: vs ∧ vs.length = flds.length ∧ H a = some (exo a C none) ∧ OexC K C ∧ (∀ f ∈ flds, PySem.W.findIn K (.ref C) f = some none) ∧
  ∀ d, H d = none → d ≠ a → Q .non (L2.upd (L2.upd H d (exd d (flds.zip vs.reverse))) a (exo a C (some d)))
/-- the own exception classes -/
structure Exs (x : Ex) (G : Gd) (X : Cx) : Prop where
  fld : ∀ c, c < G.exs.length → x.fld c = G.flds c
  mg : ∀ (c : Nat) (nm : Str), G.exs[c]? = some nm → X.mg nm = some (.ref (x.cls c))
  exm : ∀ e c, e < G.exs.length → c < G.exs.length → PySem.W.exmOne X.K (.ref (x.cls e)) (.ref (x.cls c)) = some (decide (e = c))
  base : ∀ nm ∈ G.bases, ∃ v, X.mg nm = some v ∧ ∀ e, e < G.exs.length → PySem.W.exmOne X.K (.ref (x.cls e)) v = some true
  xf : ∀ c, c < G.exs.length → XfC X.K (x.cls c) ∧ ∀ f ∈ G.flds c, PySem.W.findIn X.K (.ref (x.cls c)) f = some none
  nd : ∀ c, c < G.exs.length → (G.flds c).Nodup ∧ (G.flds c).length ≤ 900
  mkx : ∀ c, c < G.exs.length → OexC X.K (x.cls c) ∧ ∃ (fI : Addr) (fd : FuncData) (ps : List Str), PySem.W.findIn X.K (.ref (x.cls c)) "__init__" = some (some (.ref fI)) ∧ PySem.W.typeIn X.K (.ref fI) = some (.type "function") ∧
    Binds X.K fd ps [] ∧ FnOk X.prog X.w X.K X.mg X.base (L2.CX X.prog X.w) 1 fI fd ps (spI X.K (x.cls c) (G.flds c))
section
variable {x : Ex} {c : Cn} {W : WX} {X : Cx} {G : Gd} {F : FT} {con : Nat → D} {N : List Str} {k : Nat} {sc : Scope} {e : Expr} {es : List Expr} {fe : S → R D} {fs : S → R (List D)} {f g : S → RS} {pos p pp : Pos} {st : Stmt} {rest : List Stmt} {σ : Sg} {H H1 H2 : Hp} {s s1 s2 : S}
theorem Rps.snoc {b : Cb} {W : Addr → Prop} {H : Hp} {vs : List V} {ds : List D} {v : V} {d : D} (h : Rps b W H vs ds) (r : Rp b W H v d) : Rps b W H (vs ++ [v]) (ds ++ [d]) := h.append (.cons r .nil)
theorem Rps.rev {b : Cb} {W : Addr → Prop} {H : Hp} : ∀ {vs : List V} {ds : List D}, Rps b W H vs ds → Rps b W H vs.reverse ds.reverse
  | [], [], h => h
  | v :: vs, d :: ds, h => by
    rw [List.reverse_cons, List.reverse_cons]
    exact (Rps.rev h.tail).snoc h.head
  | [], _ :: _, h => absurd h.1 (by simp)
  | _ :: _, [], h => absurd h.1 (by simp)
theorem s_raise {cc : Nat} {nm : Str} {cpos : Pos} (hX : Ctx G F con N k c.toCb sc X) (hE : Exs x G X) (hk : 2 ≤ k) (tk : Takes X W) (h1 : G.exs[cc]? = some nm) (h2 : glB sc nm = true) (hs : es.all (fun e => !starred e) = true) (he : es ≠ []) (hl : es.length = (G.flds cc).length) (ha : PA X es (TvL x c W fs)) :
    PS X (.Raise (some (.Call (.Name nm p) es [] cpos)) none pos) (TvS x c W (bindS fs fun ds s => if ds.length = es.length then .exc cc ds.reverse s else .bad)) := by
  obtain ⟨g1, g2, _⟩ := gl_ok hX.scp h2
  have hc : cc < G.exs.length := (List.getElem?_eq_some_iff.mp h1).1
  obtain ⟨T, fI, fd, ps, iC, tI, hb, F1⟩ := hE.mkx cc hc
  have fl := hE.fld cc hc
  cases es with
  | nil => exact (he rfl).elim
  | cons e es =>
    rw [List.all_cons, Bool.and_eq_true] at hs
    have z : starred e = false := by simpa using hs.1
    have rm : Room (1 + 1) X.A := hX.room.mono hk
    have pm : PMk X (.Call (.Name nm p) (e :: es) [] cpos) (tMkO (x.cls cc) (spI X.K (x.cls cc) (G.flds cc)) [] (TvL x c W fs)) := pmk_oex (ds := []) T iC tI F1 rm hb .nil passL g1 (hE.mg cc nm h1) ha g2 (star_each z) (no_star hs.2)
    refine PSi (ps_raise hX.calm tk pm) fun D σ H q => ?_
    refine Tv.toS (rel := RL c) q fun vs H1 ds s s1 a a1 rc r p => ?_
    split at p
    case isFalse => exact p.elim
    rename_i hlen
    rw [hl] at hlen
    have hv : vs.length = (G.flds cc).length := r.1.trans hlen
    refine ⟨?_, fun ea nea => ?_⟩
    · have := (hE.nd cc hc).2
      omega
    refine ⟨ea, vs, by rw [List.append_nil], hv, upd_same, T, (hE.xf cc hc).2, fun d nd nda => ?_⟩
    have H1d : H1 d = none := by rw [upd_ne nda] at nd; exact nd
    refine ⟨rfl, d, (G.flds cc).zip vs.reverse, upd_same, by rw [upd_ne nda, upd_same], H1d, ?_⟩
    let H3 : Hp := L2.upd (del (L2.upd (L2.upd (L2.upd H1 ea (exo ea (x.cls cc) none)) d (exd d ((G.flds cc).zip vs.reverse))) ea (exo ea (x.cls cc) (some d))) ea) d (.xd ((G.flds cc).zip vs.reverse))
    have sm : Same H1 H3 := fun b o eb => by
      have n1 : b ≠ d := fun z => by rw [z, H1d] at eb; cases eb
      have n2 : b ≠ ea := fun z => by rw [z, nea] at eb; cases eb
      show L2.upd _ d _ b = _
      rw [upd_ne n1, del_ne n2, upd_ne n2, upd_ne n1, upd_ne n2]
      exact eb
    exact p d σ H3 (a1.same sm) (mv_same sm) ⟨vs.reverse, by rw [List.length_reverse, hv, fl], by rw [fl]; exact upd_same, (r.rev).to fun q o e n => ⟨sm q o e, n⟩⟩
/-! ### suites -/
/-- where the caught exception stands -/
def Ze (a : Addr) (cls : Value) (d : Option Addr) (C : Addr) (i : Option Nat) (flds : List Str) (vs : List V) (σ : Sg) (H : Hp) : Prop :=
  (flds = [] ∧ vs = []) ∨ ((∀ j, i = some j → σ[j]? = some (some (.ref a))) ∧ cls = .ref C ∧ vs.length = flds.length ∧ ∃ dd, d = some dd ∧ H dd = some (.xd (flds.zip vs)))
def qV (vs : List V) : PQ → Option V
  | .str x => some (.str x)
  | .fld j => vs[j]?
  | .non => some .non
  | .bl b => some (.bl b)
  | .int i => some (.int i)
def qVs (vs : List V) : List PQ → Option (List V)
  | [] => some []
  | q :: r => match qV vs q, qVs vs r with
    | some d, some ds => some (d :: ds)
    | _, _ => none
def tQ (a : Addr) (cls : Value) (d : Option Addr) (C : Addr) (i : Option Nat) (flds : List Str) (q : PQ) : TE := fun σ H Q => ∃ vs v, Ze a cls d C i flds vs σ H ∧ qV vs q = some v ∧ Q v H
def tQs (a : Addr) (cls : Value) (d : Option Addr) (C : Addr) (i : Option Nat) (flds : List Str) (q : List PQ) : TA := fun σ H Q => ∃ vs ws, Ze a cls d C i flds vs σ H ∧ qVs vs q = some ws ∧ Q ws H
/-- how a suite's item is matched -/
def mQ (N : List Str) (sc : Scope) (i : Option Nat) (flds : List Str) : PQ → Expr → Bool
  | .str x, .Constant (.str y) _ _ => decide (x = y)
  | .non, .Constant .none _ _ => true
  | .bl b, .Constant (.bool j) _ _ => b == j
  | .int i, .Constant (.int j) _ _ => decide (i = j)
  | .fld j, .Attribute (.Name nm _) n _ => (match i with | some l => slotB N l nm | none => false) && visB sc nm && decide (flds[j]? = some n)
  | _, _ => false
def mQs (N : List Str) (sc : Scope) (i : Option Nat) (flds : List Str) : List PQ → List Expr → Bool
  | [], [] => true
  | q :: r, e :: es => !starred e && mQ N sc i flds q e && mQs N sc i flds r es
  | _, _ => false
def mH (N : List Str) (sc : Scope) (i : Option Nat) (flds : List Str) : PH → List Stmt → Bool
  | .lst l, [.Return (some (.List es _)) _] => mQs N sc i flds l es
  | .tup l, [.Return (some (.Tuple es _ _)) _] => mQs N sc i flds l es
  | .one q, [.Return (some e) _] => mQ N sc i flds q e
  | _, _ => false
theorem lookup_zip {vs : List V} : ∀ {fl : List Str} {vs : List V} {j : Nat} {n : Str} {v : V}, fl.Nodup → fl[j]? = some n → vs[j]? = some v → (fl.zip vs).lookup n = some v
  | [], _, j, n, v, _, h, _ => by simp at h
  | f :: fl, [], j, n, v, _, _, h => by simp at h
  | f :: fl, w :: vs, 0, n, v, nd, h, h2 => by
    simp at h h2
    subst h h2
    rw [List.zip_cons_cons, List.lookup_cons, beq_self_eq_true]
  | f :: fl, w :: vs, j + 1, n, v, nd, h, h2 => by
    have h' : fl[j]? = some n := by simpa using h
    have h2' : vs[j]? = some v := by simpa using h2
    rw [List.nodup_cons] at nd
    have ne : n ≠ f := fun z => nd.1 (z ▸ List.mem_of_getElem? h')
    rw [List.zip_cons_cons, List.lookup_cons, beq_false_of_ne ne]
    exact lookup_zip (vs := vs) nd.2 h' h2'
variable {a C : Addr} {oe : Obj} {cls : Value} {d : Option Addr} {pn : List (Addr × Obj)} {i : Option Nat} {flds : List Str}
theorem q_pe (hN : X.N = N) (hsc : X.env.scope = sc) (T : flds ≠ [] → XfC X.K C) (hno : ∀ f ∈ flds, PySem.W.findIn X.K (.ref C) f = some none) (hnd : flds.Nodup) (hz : Zc cls d oe) (hf : ∃ vs, oe.data = .fields vs) {q : PQ} {e : Expr} (h : mQ N sc i flds q e = true) :
    PE (X.suite a ((a, oe) :: pn)) e (tQ a cls d C i flds q) := by
  cases q with
  | str x =>
    cases e with
    | Constant co _ _ =>
      cases co with
      | str y =>
        obtain rfl : x = y := of_decide_eq_true h
        exact PEi pe_str fun σ H Q ⟨vs, v, z, e, q⟩ => by cases e; exact q
      | _ => exact (Bool.false_ne_true h).elim
    | _ => exact (Bool.false_ne_true h).elim
  | non =>
    cases e with
    | Constant co _ _ =>
      cases co with
      | none => exact PEi pe_non fun σ H Q ⟨vs, v, z, e, q⟩ => by cases e; exact q
      | _ => exact (Bool.false_ne_true h).elim
    | _ => exact (Bool.false_ne_true h).elim
  | bl b =>
    cases e with
    | Constant co _ _ =>
      cases co with
      | bool y =>
        obtain rfl : b = y := eq_of_beq h
        exact PEi pe_bl fun σ H Q ⟨vs, v, z, e, q⟩ => by cases e; exact q
      | _ => exact (Bool.false_ne_true h).elim
    | _ => exact (Bool.false_ne_true h).elim
  | int b =>
    cases e with
    | Constant co _ _ =>
      cases co with
      | int y =>
        obtain rfl : b = y := of_decide_eq_true h
        exact PEi pe_int fun σ H Q ⟨vs, v, z, e, q⟩ => by cases e; exact q
      | _ => exact (Bool.false_ne_true h).elim
    | _ => exact (Bool.false_ne_true h).elim
  | fld j =>
    cases e with
    | Attribute o n apos =>
      cases o with
      | Name nm np =>
        cases i with
        | none => exact (Bool.false_ne_true h).elim
        | some l =>
          obtain ⟨h1, h3⟩ := and2 h
          obtain ⟨h1, h2⟩ := and2 h1
          have h3 := of_decide_eq_true h3
          obtain ⟨v1, v2, v3⟩ := vis_ok h2
          have hv : PE (X.suite a ((a, oe) :: pn)) (.Name nm np) (tVar l) := pe_var (X := X.suite a ((a, oe) :: pn)) (by show X.N[l]? = _; rw [hN]; exact slot_ix h1) (by show Vis X.env.scope _; rw [hsc]; exact v1) v2 v3
          have hb : attributeBase (.Name nm np) n X.env (eval (.Name nm np) X.env) = eval (.Name nm np) X.env := by
            unfold attributeBase
            rfl
          have px : PE (X.suite a ((a, oe) :: pn)) (.Attribute (.Name nm np) n apos) (tXf a cls d C n (tVar l)) := pe_xf (X := X) (T fun z => by rw [z] at h3; cases h3) (hno n (List.mem_of_getElem? h3)) hz hf hv hb
          refine PEi px fun σ H Q ⟨vs, v, zz, ev, q⟩ => ?_
          rcases zz with ⟨z1, _⟩ | ⟨z1, z2, z3, dd, z4, z5⟩
          · rw [z1] at h3; cases h3
          exact ⟨.ref a, z1 l rfl, rfl, z2, dd, _, v, z4, z5, lookup_zip (vs := vs) hnd h3 ev, q⟩
      | _ => exact (Bool.false_ne_true h).elim
    | _ => exact (Bool.false_ne_true h).elim
theorem qs_pa (hN : X.N = N) (hsc : X.env.scope = sc) (T : flds ≠ [] → XfC X.K C) (hno : ∀ f ∈ flds, PySem.W.findIn X.K (.ref C) f = some none) (hnd : flds.Nodup) (hz : Zc cls d oe) (hf : ∃ vs, oe.data = .fields vs) : ∀ {q : List PQ} {es : List Expr}, mQs N sc i flds q es = true →
    PA (X.suite a ((a, oe) :: pn)) es (tQs a cls d C i flds q)
  | [], [], h => PAi pa_nil fun σ H Q ⟨vs, ws, z, e, q⟩ => by cases e; exact q
  | q :: r, e :: es, h => by
    obtain ⟨h1, h3⟩ := and2 h
    obtain ⟨h1, h2⟩ := and2 h1
    refine PAi (pa_cons (q_pe hN hsc T hno hnd hz hf h2) (qs_pa hN hsc T hno hnd hz hf h3) (star_each (nott h1))) fun σ H Q ⟨vs, ws, z, e, p⟩ => ?_
    unfold qVs at e
    cases e1 : qV vs q with
    | none => rw [e1] at e; cases e
    | some v =>
      cases e2 : qVs vs r with
      | none => rw [e1, e2] at e; cases e
      | some w2 =>
        rw [e1, e2] at e
        cases e
        exact ⟨vs, v, z, e1, vs, w2, z, e2, p⟩
  | [], _ :: _, h => (Bool.false_ne_true h).elim
  | _ :: _, [], h => (Bool.false_ne_true h).elim
theorem q_rp {b : Cb} {W : Addr → Prop} {H : Hp} {vs : List V} {gs : List D} (r : Rps b W H vs gs) {q : PQ} {d : D} (h : pqD gs q = some d) : ∃ v, qV vs q = some v ∧ Rp b W H v d := by
  cases q with
  | str x => cases h; exact ⟨_, rfl, .str _⟩
  | non => cases h; exact ⟨_, rfl, .non⟩
  | bl x => cases h; exact ⟨_, rfl, .bl _⟩
  | int x => cases h; exact ⟨_, rfl, .int _⟩
  | fld j => exact r.get h
theorem qs_rps {b : Cb} {W : Addr → Prop} {H : Hp} {vs : List V} {gs : List D} (r : Rps b W H vs gs) : ∀ {q : List PQ} {ds : List D}, pqsD gs q = some ds → ∃ ws, qVs vs q = some ws ∧ Rps b W H ws ds ∧ ws.length = q.length
  | [], ds, h => by cases h; exact ⟨[], rfl, .nil, rfl⟩
  | q :: l, ds, h => by
    unfold pqsD at h
    cases e1 : pqD gs q with
    | none => rw [e1] at h; cases h
    | some d =>
      cases e2 : pqsD gs l with
      | none => rw [e1, e2] at h; cases h
      | some ds' =>
        rw [e1, e2] at h
        cases h
        obtain ⟨v, e3, r3⟩ := q_rp r e1
        obtain ⟨ws, e4, r4, l4⟩ := qs_rps r e2
        exact ⟨v :: ws, by unfold qVs; rw [e3, e4], .cons r3 r4, by rw [List.length_cons, l4, List.length_cons]⟩
/-- a suite's reading -/
def tH (a : Addr) (cls : Value) (d : Option Addr) (C : Addr) (i : Option Nat) (flds : List Str) : PH → TS
  | .lst l => tRet (tLst (tQs a cls d C i flds l))
  | .tup l => tRet (tTup (tQs a cls d C i flds l))
  | .one q => tRet (tQ a cls d C i flds q)
theorem h_pss (hN : X.N = N) (hsc : X.env.scope = sc) (T : flds ≠ [] → XfC X.K C) (hno : ∀ f ∈ flds, PySem.W.findIn X.K (.ref C) f = some none) (hnd : flds.Nodup) (hz : Zc cls d oe) (hf : ∃ vs, oe.data = .fields vs) {h : PH} {su : List Stmt} (m : mH N sc i flds h su = true) :
    PSs (X.suite a ((a, oe) :: pn)) su (tH a cls d C i flds h) := by
  cases su with
  | nil => cases h <;> exact (Bool.false_ne_true m).elim
  | cons st su =>
    cases su with
    | cons st2 su =>
      cases h with
      | lst l => cases st <;> first | exact (Bool.false_ne_true m).elim | (rename_i v _; cases v <;> first | exact (Bool.false_ne_true m).elim | (rename_i v; cases v <;> exact (Bool.false_ne_true m).elim))
      | tup l => cases st <;> first | exact (Bool.false_ne_true m).elim | (rename_i v _; cases v <;> first | exact (Bool.false_ne_true m).elim | (rename_i v; cases v <;> exact (Bool.false_ne_true m).elim))
      | one l => cases st <;> first | exact (Bool.false_ne_true m).elim | (rename_i v _; cases v <;> first | exact (Bool.false_ne_true m).elim | (rename_i v; cases v <;> exact (Bool.false_ne_true m).elim))
    | nil =>
      cases st with
      | Return v _ =>
        cases v with
        | none => cases h <;> exact (Bool.false_ne_true m).elim
        | some e =>
          cases h with
          | lst l =>
            cases e with
            | List es _ => exact pss_one (ps_ret (pe_lst (qs_pa hN hsc T hno hnd hz hf m)))
            | _ => exact (Bool.false_ne_true m).elim
          | tup l =>
            cases e with
            | Tuple es _ _ => exact pss_one (ps_ret (pe_tup (qs_pa hN hsc T hno hnd hz hf m)))
            | _ => exact (Bool.false_ne_true m).elim
          | one q => exact pss_one (ps_ret (q_pe hN hsc T hno hnd hz hf m))
      | _ => cases h <;> exact (Bool.false_ne_true m).elim
/-- .. and what it hands back -/
theorem h_ret {D : Ends} {σ : Sg} {H : Hp} {s : S} {gs : List PV.D} {dv : PV.D} {h : PH} {vs : List V} {dd : Addr} (sr : SR c σ H s) (hi : slotIn s i = true) (e : phD gs h = some dv) (hl : (flds = [] ∧ vs = []) ∨ (cls = .ref C ∧ d = some dd ∧ vs.length = flds.length ∧ H dd = some (.xd (flds.zip vs)))) (r : Rps c.toCb (Wn c σ s.env) H vs gs)
    (p : ∀ v H', Gr c.bx c.H0 H' → H' c.bx = some (boxHO s.bx) → Rp c.toCb c.W0 H' v dv → D.rt v H') : tH a cls d C i flds h (endX D i) (putX a σ i) H := by
  have z : Ze a cls d C i flds vs (putX a σ i) H := by
    rcases hl with hl | ⟨h1, h2, h3, h4⟩
    · exact .inl hl
    refine .inr ⟨fun j ej => ?_, h1, h3, dd, h2, h4⟩
    subst ej
    have hj : j < s.env.length := of_decide_eq_true hi
    exact List.getElem?_set_self (by rw [sr.len]; exact hj)
  have rt : (endX D i).rt = D.rt := by cases i <;> rfl
  have w0 : ∀ {H' : Hp} {v : V} {d : PV.D}, Rp c.toCb (Wn c σ s.env) H' v d → Rp c.toCb c.W0 H' v d := fun r => r.to fun q o e n => ⟨e, fun z => n (.inl z)⟩
  cases h with
  | lst l =>
    replace e : (if l.length ≤ big then (pqsD gs l).map PV.D.lst else none) = some dv := e
    split at e
    case isFalse => cases e
    rename_i hb
    cases e1 : pqsD gs l with
    | none => rw [e1] at e; cases e
    | some ds =>
      rw [e1] at e
      cases e
      obtain ⟨ws, e2, r2, l2⟩ := qs_rps r e1
      refine ⟨vs, ws, z, e2, by rw [l2]; exact big_line hb, fun q nq => ?_⟩
      rw [rt]
      have sm := same_new (o := .lst ws) nq
      exact p _ _ (sr.same sm).ext (sr.same sm).box (w0 (.newL sr.hold nq r2))
  | tup l =>
    replace e : (if l.length ≤ big then (pqsD gs l).map PV.D.tup else none) = some dv := e
    split at e
    case isFalse => cases e
    rename_i hb
    cases e1 : pqsD gs l with
    | none => rw [e1] at e; cases e
    | some ds =>
      rw [e1] at e
      cases e
      obtain ⟨ws, e2, r2, l2⟩ := qs_rps r e1
      refine ⟨vs, ws, z, e2, by rw [l2]; exact big_line hb, fun q nq => ?_⟩
      rw [rt]
      have sm := same_new (o := .tup ws) nq
      exact p _ _ (sr.same sm).ext (sr.same sm).box (w0 (.newT sr.hold nq r2))
  | one q =>
    obtain ⟨v, e2, r2⟩ := q_rp r e
    refine ⟨vs, v, z, e2, ?_⟩
    rw [rt]
    exact p _ _ sr.ext sr.box (w0 r2)
end
end PV

/-! the matching of statements -/
namespace PV
open PySem PySem.Spec PyProof.Rows L2
def freshX : PX → Bool
  | .lst _ => true
  | .comp _ _ _ => true
  | .compIf _ _ _ _ => true
  | .rngL _ => true
  | .blt .list _ => true
  | _ => false
/-- .. also by + and * -/
def freshO : PX → Bool
  | .bin .add _ _ => true
  | .bin .mul _ _ => true
  | e => freshX e
def lcSwap (sc : Scope) (y : Str) (py : Pos) : Expr → Bool
  | .ListComp _ _ scope pos => decide (sc.names.lookup y = some .local) && (py.line == pos.line) && !(scope.names.any fun (n, k) => n == y && (k == .local || k == .cell))
  | _ => false
def compB : Expr → Bool
  | .ListComp .. => true | .SetComp .. => true | .DictComp .. => true
  | _ => false
/-- no stores in swapped order -/
def locName (sc : Scope) : Expr → Bool
  | .Name x _ => decide (sc.names.lookup x = some .local)
  | _ => false
def swNone (sc : Scope) : Expr → Expr → Bool
  | .Tuple ts _ _, .Tuple vs _ _ => !(ts.length == 2 || ts.length == 3) || vs.length != ts.length || vs.all (foldedForSure 8) || !(ts.all (locName sc))
  | _, _ => true
def mN (N : List Str) (sc : Scope) : List (Nat × Bool) → List Expr → Bool
  | [], [] => true
  | (i, _) :: l, .Name x _ :: es => slotB N i x && decide (sc.names.lookup x = some .local) && mN N sc l es
  | _, _ => false
def sameLine : List Expr → Bool
  | [.Name _ p, .Name _ q] => q.line == p.line
  | [.Name _ p, .Name _ q, .Name _ r] => q.line == p.line && r.line == p.line
  | _ => false
def parSw (ts vs : List Expr) : Bool := sameLine ts && (vs.length == ts.length) && decide ((nmsOf ts).Nodup) && vs.all (fun e => !starred e) && !(vs.all (foldedForSure 8)) && !(vs.all (constantsAlone 8))
section
variable (G : Gd) (N : List Str)
def mWs (sc : Scope) : List (Nat × Bool) → PXs → List Expr → Bool
  | [], .nil, [] => true
  | (_, o) :: l, .cons e r, v :: vs => !starred v && mE G N sc e v && (!o || freshX e) && mWs sc l r vs
  | _, _, _ => false
def mHs (sc : Scope) : List (Option Nat × Option Nat × PH) → List ExceptHandler → Bool
  | [], [] => true
  | (c, i, h) :: r, .ExceptHandler (some (.Name x _)) nm (s0 :: su) _ :: hds => glB sc x && (match c with | none => decide (x ∈ G.bases) | some c => decide (G.exs[c]? = some x)) &&
      (match i, nm with | none, none => true | some j, some m => slotB N j m && decide (sc.names.lookup m = some .local) | _, _ => false) && mH N sc i (match c with | none => [] | some c => G.flds c) h (s0 :: su) && mHs sc r hds
  | _, _ => false
mutual
def mS (sc : Scope) : PSt → Stmt → Bool
  | .asg t e, .Assign [tg] v _ => mG N sc t tg && mE G N sc e v && swNone sc tg v
  | .own i e, .Assign [.Name y _] v _ => slotB N i y && locB sc y && freshO e && mE G N sc e v
  | .par l es, .Assign [.Tuple ts _ _] (.Tuple vs _ _) _ => mN N sc l ts && decide ((l.map (·.1)).Nodup) && parSw ts vs && mWs G N sc l es vs
  | .set i x e, .Assign [.Subscript (.Name nm _) ix _] v _ => slotB N i nm && visB sc nm && mE G N sc x ix && mE G N sc e v && !isSlice ix
  | .append i e, .Expr (.Call (.Attribute (.Name nm _) n apos) [a] [] cpos) _ => decide (n = "append") && slotB N i nm && visB sc nm && !starred a && mE G N sc e a && (apos.endLine == cpos.line)
  | .iff t a b, .If c p q _ => mT G N sc t c && mSs sc a p && mSs sc b q
  | .for t it b, .For tg iter body [] _ => mG N sc t tg && mI G N sc it tg iter && mSs sc b body
  | .whil t b, .While c body [] _ => mT G N sc t c && mSs sc b body
  | .ret e, .Return (some v) _ => mE G N sc e v
  | .retN, .Return none _ => true
  | .raise c n args, .Raise (some (.Call (.Name nm _) l [] _)) none _ => decide (G.exs[c]? = some nm) && glB sc nm && l.all (fun e => !starred e) && decide (l.length = n) && decide (l.length = (G.flds c).length) && !l.isEmpty && mEs G N sc args l
  | .tryy n b hs, .Try body (h0 :: hds) [] [] _ => decide (n = G.exs.length) && mSs sc b body && mHs G N sc hs (h0 :: hds)
  | .expr e, .Expr v _ => mE G N sc e v && !compB v
  | .pass, .Pass _ => true
  | .pass, .Expr (.Constant (.str _) _ _) _ => true
  | .brk, .Break _ => true
  | .cont, .Continue _ => true
  | .hole, _ => true
  | _, _ => false
def mSs (sc : Scope) : PSts → List Stmt → Bool
  | .nil, [] => true
  | .cons a r, st :: sts => mS sc a st && mSs sc r sts
  | _, _ => false
end
end
/-! ### swaps -/
structure Tp (sc : Scope) (X : Cx) : Prop where
  st : X.stack = X.env :: X.outer
  fr : X.env.frame = some X.env.locals
  kd : sc.kind = .function
  fn : ∀ nm, X.fn nm = true
section
variable {x : Ex} {c : Cn} {W : WX} {X : Cx} {G : Gd} {F : FT} {con : Nat → D} {N : List Str} {k : Nat} {sc : Scope} {e v tg : Expr} {env : Env} {pe : PX}
theorem bk_fun (hs : env.scope = sc) (hk : sc.kind = .function) : env.blockKind = .function := by
  unfold Env.blockKind
  rw [hs, hk]
  rfl
theorem sw_f {y : Str} {py : Pos} {l : Nat} (hs : env.scope = sc) (hk : sc.kind = .function) (hm : mE G N sc pe v = true) (h : lcSwap sc y py v = false) : swapsWith v (some (.Name y py)) l env = pure false := by
  have ky : env.kindOf y = sc.names.lookup y := by rw [← hs]; rfl
  have hb := bk_fun hs hk
  cases v with
  | ListComp e gs scope pos =>
    unfold lcSwap at h
    unfold swapsWith
    simp only [hb, ky]
    show pure _ = pure false
    congr 1
    rw [Bool.and_eq_false_iff, Bool.and_eq_false_iff] at h
    rcases h with (h | h) | h
    · have h : ¬ (sc.names.lookup y = some .local) := of_decide_eq_false h
      have : (sc.names.lookup y == some NameKind.local) = false := by simpa using h
      rw [this]
      simp
    · replace h : (py.line == (Expr.ListComp e gs scope pos).pos.line) = false := h
      rw [h]; simp
    · rw [h]; simp
  | SetComp => cases pe <;> exact (Bool.false_ne_true hm).elim
  | DictComp => cases pe <;> exact (Bool.false_ne_true hm).elim
  | _ => rfl
theorem sw_t {y : Str} {py : Pos} {l : Nat} {elt : Expr} {gs : List Comprehension} {scope : Scope} {pos : Pos} (hs : env.scope = sc) (hk : sc.kind = .function) (h : lcSwap sc y py (.ListComp elt gs scope pos) = true) :
    swapsWith (.ListComp elt gs scope pos) (some (.Name y py)) l env = pure true ∧ env.scope.names.lookup y = some .local := by
  obtain ⟨h1, h3⟩ := and2 h
  obtain ⟨h1, h2⟩ := and2 h1
  have h1 := of_decide_eq_true h1
  rw [← hs] at h1 hk
  exact ⟨sw_true hk h1 h2 (nott h3), h1⟩
theorem sw_tup {ts : List Expr} {kk : Nat} {tp : Pos} {l : Nat} (hm : mE G N sc pe v = true) : swapsWith v (some (.Tuple ts kk tp)) l env = pure false := by
  cases v <;> rfl
theorem fm_len {α β : Type} {f : α → Option β} : ∀ {l : List α}, (l.filterMap f).length = l.length → ∀ a ∈ l, ∃ b, f a = some b
  | [], _, a, h => by cases h
  | x :: l, e, a, h => by
    have le := List.length_filterMap_le f l
    rw [List.filterMap_cons] at e
    cases ex : f x with
    | none =>
      rw [ex] at e
      have e : (l.filterMap f).length = l.length + 1 := e
      omega
    | some b =>
      rw [ex] at e
      have e : (l.filterMap f).length + 1 = l.length + 1 := e
      rcases List.mem_cons.mp h with h | h
      · exact ⟨b, by rw [h, ex]⟩
      · exact fm_len (by omega) a h
theorem sw_none {t : PTg} (hs : env.scope = sc) (h : mG N sc t tg = true) (h2 : swNone sc tg v = true) : swappedStores [tg] v env = pure none := by
  cases tg with
  | Name => cases v <;> rfl
  | Tuple ts _ _ =>
    cases v with
    | Tuple vs _ _ =>
      have h2 : (!(ts.length == 2 || ts.length == 3) || vs.length != ts.length || vs.all (foldedForSure 8) || !(ts.all (locName sc))) = true := h2
      unfold swappedStores
      dsimp only
      rw [Bool.or_eq_true, Bool.or_eq_true] at h2
      rcases h2 with (h2 | h2) | h2
      · have h2 : (!(ts.length == 2 || ts.length == 3) || vs.length != ts.length || env.blockKind != .function) = true := by rw [h2]; rfl
        rw [if_pos h2]
      · split
        · rfl
        · split
          · rfl
          · split
            · rfl
            · first | rfl | rw [if_pos h2]
      · split
        · rfl
        · split
          · rfl
          · split
            · rfl
            · rename_i hn
              exfalso
              rw [Bool.not_eq_true, Bool.or_eq_false_iff] at hn
              have hl := hn.1
              rw [bne_eq_false_iff_eq] at hl
              have al := fm_len hl
              have : ts.all (locName sc) = true := by
                rw [List.all_eq_true]
                intro a ha
                obtain ⟨b, eb⟩ := al a ha
                cases a with
                | Name y p =>
                  dsimp only at eb
                  split at eb
                  · rename_i hc
                    have hk := (and2 hc).1
                    have hk : env.kindOf y = some .local := eq_of_beq hk
                    have : sc.names.lookup y = some .local := by rw [← hs]; exact hk
                    exact decide_eq_true this
                  · cases eb
                | _ => cases eb
              rw [this] at h2
              exact Bool.false_ne_true h2
    | _ => rfl
  | _ => cases t <;> exact (Bool.false_ne_true h).elim
theorem nd_dups2 {a b : Str} (h : [a, b].Nodup) : [a, b].eraseDups.length = 2 := by
  have n : a ≠ b := by simpa using h
  simp [List.eraseDups_cons, n, Ne.symm n]
theorem nd_dups3 {a b d : Str} (h : [a, b, d].Nodup) : [a, b, d].eraseDups.length = 3 := by
  simp only [List.nodup_cons, List.mem_cons, List.not_mem_nil, or_false, not_or, not_false_eq_true, List.nodup_nil, and_true] at h
  obtain ⟨⟨n1, n2⟩, n3⟩ := h
  simp [List.eraseDups_cons, n1, n2, n3, Ne.symm n1, Ne.symm n2, Ne.symm n3]
theorem sw_some2 {a b : Expr} {y z : Str} {py pz tp tp2 : Pos} {k1 k2 : Nat} (hs : env.scope = sc) (hk : sc.kind = .function) (hy : sc.names.lookup y = some .local) (hz : sc.names.lookup z = some .local) (h : parSw [.Name y py, .Name z pz] [a, b] = true) :
    swappedStores [.Tuple [.Name y py, .Name z pz] k1 tp] (.Tuple [a, b] k2 tp2) env = pure (some [y, z]) := by
  have ky : env.kindOf y = some .local := by rw [← hy, ← hs]; rfl
  have kz : env.kindOf z = some .local := by rw [← hz, ← hs]; rfl
  have hb := bk_fun hs hk
  obtain ⟨h, h6⟩ := and2 h
  obtain ⟨h, h5⟩ := and2 h
  obtain ⟨h, h4⟩ := and2 h
  obtain ⟨h1, h3⟩ := and2 h
  obtain ⟨h1, h2⟩ := and2 h1
  have h1 : (pz.line == py.line) = true := h1
  have h3 : [y, z].Nodup := of_decide_eq_true h3
  have h4 : ([a, b].all fun e => !starred e) = true := h4
  simp only [List.all_cons, List.all_nil, Bool.and_true, Bool.and_eq_true, Bool.not_eq_true'] at h4
  unfold swappedStores
  dsimp only
  rw [if_neg (by rw [hb]; simp)]
  refine (if_neg fun z => ?_).trans ?_
  · simp only [List.any_cons, List.any_nil, Bool.or_false, Bool.or_eq_true] at z
    rcases z with z | z
    · cases a <;> first | (cases z; done) | exact (Bool.false_ne_true h4.1.symm).elim
    · cases b <;> first | (cases z; done) | exact (Bool.false_ne_true h4.2.symm).elim
  simp only [List.filterMap_cons, List.filterMap_nil, ky, kz, List.head?_cons, Option.map_some, Option.getD_some, Expr.pos, h1, beq_self_eq_true, Bool.and_self, if_true]
  rw [if_neg (by rw [nd_dups2 h3]; simp), if_neg (by rw [nott h5]; decide), if_neg (by rw [nott h6]; decide)]
theorem sw_some3 {a b d : Expr} {y z u : Str} {py pz pu tp tp2 : Pos} {k1 k2 : Nat} (hs : env.scope = sc) (hk : sc.kind = .function) (hy : sc.names.lookup y = some .local) (hz : sc.names.lookup z = some .local) (hu : sc.names.lookup u = some .local) (h : parSw [.Name y py, .Name z pz, .Name u pu] [a, b, d] = true) :
    swappedStores [.Tuple [.Name y py, .Name z pz, .Name u pu] k1 tp] (.Tuple [a, b, d] k2 tp2) env = pure (some [y, z, u]) := by
  have ky : env.kindOf y = some .local := by rw [← hy, ← hs]; rfl
  have kz : env.kindOf z = some .local := by rw [← hz, ← hs]; rfl
  have ku : env.kindOf u = some .local := by rw [← hu, ← hs]; rfl
  have hb := bk_fun hs hk
  obtain ⟨h, h6⟩ := and2 h
  obtain ⟨h, h5⟩ := and2 h
  obtain ⟨h, h4⟩ := and2 h
  obtain ⟨h1, h3⟩ := and2 h
  obtain ⟨h1, h2⟩ := and2 h1
  have h1 : (pz.line == py.line && pu.line == py.line) = true := h1
  obtain ⟨h1, h7⟩ := and2 h1
  have h3 : [y, z, u].Nodup := of_decide_eq_true h3
  have h4 : ([a, b, d].all fun e => !starred e) = true := h4
  simp only [List.all_cons, List.all_nil, Bool.and_true, Bool.and_eq_true, Bool.not_eq_true'] at h4
  unfold swappedStores
  dsimp only
  rw [if_neg (by rw [hb]; simp)]
  refine (if_neg fun z => ?_).trans ?_
  · simp only [List.any_cons, List.any_nil, Bool.or_false, Bool.or_eq_true] at z
    rcases z with z | z | z
    · cases a <;> first | (cases z; done) | exact (Bool.false_ne_true h4.1.symm).elim
    · cases b <;> first | (cases z; done) | exact (Bool.false_ne_true h4.2.1.symm).elim
    · cases d <;> first | (cases z; done) | exact (Bool.false_ne_true h4.2.2.symm).elim
  simp only [List.filterMap_cons, List.filterMap_nil, ky, kz, ku, List.head?_cons, Option.map_some, Option.getD_some, Expr.pos, h1, h7, beq_self_eq_true, Bool.and_self, if_true]
  rw [if_neg (by rw [nd_dups3 h3]; simp), if_neg (by rw [nott h5]; decide), if_neg (by rw [nott h6]; decide)]
end
end PV

/-! the soundness of statements -/
namespace PV
open PySem PySem.Spec PyProof.Rows L2
section
variable (x : Ex) (G : Gd) (F : FT) (con : Nat → D) (N : List Str) (k : Nat)
/-- a comprehension's parts -/
theorem sLc (pe : PX) {sc : Scope} {e : Expr} {gs : List Comprehension} {scope : Scope} {pos : Pos} {X : Cx} {W : WX} {c : Cn} (h : mE G N sc pe (.ListComp e gs scope pos) = true) (hX : Ctx G F con N k c.toCb sc X) (hF : Fns x G F k c.fa X) (tk : Takes X W) :
    ∃ tg iter ifs, gs = [⟨tg, iter, ifs, 0⟩] ∧ ∃ (wi : TI) (g : TG) (tt : TT) (te : TE) (own : List (Str × Nat)), PI X tg iter wi ∧ BlkOk X.N X.env.scope scope own ∧ (∀ (s : Shared) (H : Hp) (C : Addr) (cl : List (Str × Addr)) (fp : List Addr), PG (X.blk s H scope (compEnvC scope cl C X.env) fp) tg g) ∧
      (∀ (s : Shared) (H : Hp) (C : Addr) (cl : List (Str × Addr)) (fp : List Addr), PTs (X.blk s H scope (compEnvC scope cl C X.env) fp) ifs tt) ∧ (∀ (s : Shared) (H : Hp) (C : Addr) (cl : List (Str × Addr)) (fp : List Addr), PE (X.blk s H scope (compEnvC scope cl C X.env) fp) e te) ∧
      (∀ v, foldedSetIterable iter X.env v = pure v) ∧ (∀ σ H (Q : VK), TvE x c W (evalE F con pe) σ H Q → tLc wi g tt te (own.map (·.2)) σ H Q) ∧ ∀ σ H (Q : VK), TvF x c W (evalE F con pe) σ H Q → tLc wi g tt te (own.map (·.2)) σ H Q := by
  cases pe with
  | comp elt g it =>
      match gs, h with
      | [], h => exact (Bool.false_ne_true h).elim
      | ⟨_, _, [], _⟩ :: _ :: _, h => exact (Bool.false_ne_true h).elim
      | ⟨_, _, [_], _⟩ :: _ :: _, h => exact (Bool.false_ne_true h).elim
      | ⟨_, _, _ :: _ :: _, _⟩ :: _ :: _, h => exact (Bool.false_ne_true h).elim
      | [⟨t, i, f :: fs, an⟩], h => exact (Bool.false_ne_true h).elim
      | [⟨t, i, [], an⟩], h =>
        obtain ⟨h1, h6⟩ := and2 h
        obtain ⟨h1, h5⟩ := and2 h1
        obtain ⟨h1, h4⟩ := and2 h1
        obtain ⟨h1, h3⟩ := and2 h1
        obtain ⟨h1, h2⟩ := and2 h1
        obtain rfl := an0 h1
        have bo := blkOk_by h2
        rw [← hX.nN, ← hX.scp] at bo
        have nd : X.N.Nodup := by rw [hX.nN]; exact hX.nd
        have hs := sI_set it h5
        have pi := sI x G F con N k it h5 hX hF tk
        have pg := fun s H C cl fp => pg_of (X := X.blk s H scope (compEnvC scope cl C X.env) fp) (mGc_mG h4) hX.nN hX.nd hX.calm (loc_blk (sc := sc))
        have ptt : ∀ (s : Shared) (H : Hp) (C : Addr) (cl : List (Str × Addr)) (fp : List Addr), PTs (X.blk s H scope (compEnvC scope cl C X.env) fp) [] (tAnyB x c.toCb (retR true)) := fun s H C cl fp =>
          ⟨fun pins s σ H Q I q => pts_nil.run pins s σ H Q I (by obtain ⟨W0, H0, s, a, p⟩ := q; exact p true H a .refl rfl)⟩
        have pel : ∀ (s : Shared) (H : Hp) (C : Addr) (cl : List (Str × Addr)) (fp : List Addr), PE (X.blk s H scope (compEnvC scope cl C X.env) fp) e (tAnyE x c.toCb (evalE F con elt)) := fun s H C cl fp =>
          ⟨fun pins s' σ H' Q I q => by obtain ⟨W0, H0, q⟩ := q; exact (sE x G F con N k elt (c := ⟨c.toCb, W0, H0⟩) h6 (hX.blk s H scope C cl fp) (hF.blk s H scope _ fp) blk_takes).run pins s' σ H' Q I q⟩
        exact ⟨t, i, _, rfl, _, _, _, _, _, pi, bo, pg, ptt, pel, (fun v => not_set hs v), r_compG (pos := pos) hX pi bo (of_decide_eq_true h3) pg ptt pel (fun v => not_set hs v), r_compF (pos := pos) hX pi bo (of_decide_eq_true h3) pg ptt pel (fun v => not_set hs v)⟩
  | compIf elt g it cond =>
      match gs, h with
      | [], h => exact (Bool.false_ne_true h).elim
      | ⟨_, _, [], _⟩ :: _ :: _, h => exact (Bool.false_ne_true h).elim
      | ⟨_, _, [_], _⟩ :: _ :: _, h => exact (Bool.false_ne_true h).elim
      | ⟨_, _, _ :: _ :: _, _⟩ :: _ :: _, h => exact (Bool.false_ne_true h).elim
      | [⟨t, i, [], an⟩], h => exact (Bool.false_ne_true h).elim
      | [⟨t, i, _ :: _ :: _, an⟩], h => exact (Bool.false_ne_true h).elim
      | [⟨t, i, [f], an⟩], h =>
        obtain ⟨h1, h7⟩ := and2 h
        obtain ⟨h1, h6⟩ := and2 h1
        obtain ⟨h1, h5⟩ := and2 h1
        obtain ⟨h1, h4⟩ := and2 h1
        obtain ⟨h1, h3⟩ := and2 h1
        obtain ⟨h1, h2⟩ := and2 h1
        obtain rfl := an0 h1
        have bo := blkOk_by h2
        rw [← hX.nN, ← hX.scp] at bo
        have nd : X.N.Nodup := by rw [hX.nN]; exact hX.nd
        have hs := sI_set it h5
        have pi := sI x G F con N k it h5 hX hF tk
        have pg := fun s H C cl fp => pg_of (X := X.blk s H scope (compEnvC scope cl C X.env) fp) (mGc_mG h4) hX.nN hX.nd hX.calm (loc_blk (sc := sc))
        have pf : ∀ (s : Shared) (H : Hp) (C : Addr) (cl : List (Str × Addr)) (fp : List Addr), PT (X.blk s H scope (compEnvC scope cl C X.env) fp) f (tAnyB x c.toCb (evalT F con cond)) := fun s H C cl fp =>
          ⟨fun pins s' σ H' Q I q => by obtain ⟨W0, H0, q⟩ := q; exact (sT x G F con N k cond (c := ⟨c.toCb, W0, H0⟩) h7 (hX.blk s H scope C cl fp) (hF.blk s H scope _ fp) blk_takes).run pins s' σ H' Q I q⟩
        have ptt : ∀ (s : Shared) (H : Hp) (C : Addr) (cl : List (Str × Addr)) (fp : List Addr), PTs (X.blk s H scope (compEnvC scope cl C X.env) fp) [f] (tAnyB x c.toCb (evalT F con cond)) := fun s H C cl fp => pts_one (pf s H C cl fp)
        have pel : ∀ (s : Shared) (H : Hp) (C : Addr) (cl : List (Str × Addr)) (fp : List Addr), PE (X.blk s H scope (compEnvC scope cl C X.env) fp) e (tAnyE x c.toCb (evalE F con elt)) := fun s H C cl fp =>
          ⟨fun pins s' σ H' Q I q => by obtain ⟨W0, H0, q⟩ := q; exact (sE x G F con N k elt (c := ⟨c.toCb, W0, H0⟩) h6 (hX.blk s H scope C cl fp) (hF.blk s H scope _ fp) blk_takes).run pins s' σ H' Q I q⟩
        exact ⟨t, i, _, rfl, _, _, _, _, _, pi, bo, pg, ptt, pel, (fun v => not_set hs v), r_compG (pos := pos) hX pi bo (of_decide_eq_true h3) pg ptt pel (fun v => not_set hs v), r_compF (pos := pos) hX pi bo (of_decide_eq_true h3) pg ptt pel (fun v => not_set hs v)⟩
  | _ => exact (Bool.false_ne_true h).elim
end
section
variable {x : Ex} {G : Gd} {F : FT} {con : Nat → D} {N : List Str} {k : Nat} {sc : Scope} {X : Cx} {W : WX} {c : Cn}
theorem s_asg {t : PTg} {pe : PX} {tg v : Expr} {pos : Pos} (h1 : mG N sc t tg = true) (h2 : mE G N sc pe v = true) (h3 : swNone sc tg v = true) (hX : Ctx G F con N k c.toCb sc X) (hF : Fns x G F k c.fa X) (tp : Tp sc X) (tk : Takes X W) :
    PS X (.Assign [tg] v pos) (TvS x c W (bindS (evalE F con pe) fun d s => match asgT t d s with | some s' => .next s' | none => .bad)) := by
  have he := sE x G F con N k pe (c := c) h2 hX hF tk
  have e4 : ∀ nm, locB sc nm = true → Loc X.env.scope nm ∧ (X.fn nm = true ∨ X.env.scope.names.lookup nm = some .local) := fun nm h => by
    refine ⟨?_, .inl (tp.fn nm)⟩
    unfold locB at h
    rw [Bool.or_eq_true] at h
    rw [hX.scp]
    exact h.elim (fun h => .inl (of_decide_eq_true h)) fun h => .inr (of_decide_eq_true h)
  have hg : PG X tg (gT X.K t) := pg_of h1 hX.nN hX.nd hX.calm e4
  cases tg with
  | Name y py =>
    cases e : lcSwap sc y py v with
    | false =>
      exact PSi (ps_asg he hg (sw_f (l := pos.line) (env := X.env) hX.scp tp.kd h2 e) (sw_none (env := X.env) hX.scp h1 h3) rfl) fun D σ H q => asg_S hX q
    | true =>
      cases v with
      | ListComp elt gs scope vpos =>
        obtain ⟨sw, hy⟩ := sw_t (l := pos.line) (env := X.env) hX.scp tp.kd e
        obtain ⟨tg, iter, ifs, rfl, wi, g, tt, te, own, q1, q2, q3, q4, q5, q6, q7, _⟩ := sLc x G F con N k pe (c := c) h2 hX hF tk
        cases t with
        | tup l => exact (Bool.false_ne_true h1).elim
        | name i =>
          obtain ⟨h4, h5⟩ := and2 h1
          exact PSi (ps_setLc hX.calm (by rw [hX.nN]; exact hX.nd) (by rw [hX.nN]; exact slot_ix h4) hy sw q1 q2 q3 q4 q5 q6) fun D σ H q => q7 σ H _ (asg_S hX q)
      | _ => exact (Bool.false_ne_true e).elim
  | Tuple ts kk p => exact PSi (ps_asg he hg (sw_tup (l := pos.line) (ts := ts) (kk := kk) (tp := p) (env := X.env) h2) (sw_none (env := X.env) hX.scp h1 h3) rfl) fun D σ H q => asg_S hX q
  | _ => cases t <;> exact (Bool.false_ne_true h1).elim
end
end PV

namespace PV
open PySem PySem.Spec PyProof.Rows L2
section
variable {x : Ex} {G : Gd} {F : FT} {con : Nat → D} {N : List Str} {k : Nat} {sc : Scope} {X : Cx} {W : WX} {c : Cn}
theorem loc_of {nm : Str} (hX : Ctx G F con N k c.toCb sc X) (h : locB sc nm = true) : Loc X.env.scope nm := by
  unfold locB at h
  rw [Bool.or_eq_true] at h
  rw [hX.scp]
  exact h.elim (fun h => .inl (of_decide_eq_true h)) fun h => .inr (of_decide_eq_true h)
theorem sFr {pe : PX} {v : Expr} (hf : freshX pe = true) (h : mE G N sc pe v = true) (hX : Ctx G F con N k c.toCb sc X) (hF : Fns x G F k c.fa X) (tk : Takes X W) : PE X v (TvF x c W (evalE F con pe)) := by
  cases pe with
  | lst es =>
    cases v with
    | List l _ => exact f_lst (sEs x G F con N k es h hX hF tk)
    | _ => exact (Bool.false_ne_true h).elim
  | comp elt g it =>
    cases v with
    | ListComp e gs scope vpos =>
      obtain ⟨tg, iter, ifs, rfl, wi, g, tt, te, own, q1, q2, q3, q4, q5, q6, _, q8⟩ := sLc x G F con N k (.comp elt g it) (c := c) h hX hF tk
      exact PEi (pe_lc hX.calm (by rw [hX.nN]; exact hX.nd) q1 q2 q3 q4 q5 q6) q8
    | _ => exact (Bool.false_ne_true h).elim
  | compIf elt g it cond =>
    cases v with
    | ListComp e gs scope vpos =>
      obtain ⟨tg, iter, ifs, rfl, wi, g, tt, te, own, q1, q2, q3, q4, q5, q6, _, q8⟩ := sLc x G F con N k (.compIf elt g it cond) (c := c) h hX hF tk
      exact PEi (pe_lc hX.calm (by rw [hX.nN]; exact hX.nd) q1 q2 q3 q4 q5 q6) q8
    | _ => exact (Bool.false_ne_true h).elim
  | rngL p =>
    cases v with
    | Call fn l kws _ =>
      cases fn with
      | Name nm _ =>
        match l, kws, h with
        | [.Call (.Name nm2 _) [e] [] _], [], h =>
          obtain ⟨h1, h6⟩ := and2 h
          obtain ⟨h1, h5⟩ := and2 h1
          obtain ⟨h1, h4⟩ := and2 h1
          obtain ⟨h1, h3⟩ := and2 h1
          obtain ⟨h1, h2⟩ := and2 h1
          exact f_rngL hX (of_decide_eq_true h1) h2 (of_decide_eq_true h3) h4 (nott h5) (sE x G F con N k p h6 hX hF tk)
      | _ => exact (Bool.false_ne_true h).elim
    | _ => exact (Bool.false_ne_true h).elim
  | blt o args =>
    cases o with
    | list =>
      cases v with
      | Call fn l kws _ =>
        cases fn with
        | Name nm _ =>
          cases kws with
          | nil =>
            obtain ⟨q1, h3⟩ := and2 h
            obtain ⟨h1, h2⟩ := and2 q1
            obtain ⟨h1, h4⟩ := and2 h1
            by_cases ne : l = []
            · have e0 : args = .nil := by
                subst ne
                cases args <;> first | rfl | exact (Bool.false_ne_true h3).elim
              clear h3
              subst e0
              exact ⟨fun pins s σ H Q I q => by obtain ⟨s0, a, p⟩ := q; exact p.elim⟩
            · exact f_list hX (of_decide_eq_true h1) h4 h2 (sPs x G F con N k args h3 hX hF tk) ne
          | cons => exact (Bool.false_ne_true h).elim
        | _ => exact (Bool.false_ne_true h).elim
      | _ => exact (Bool.false_ne_true h).elim
    | _ => exact (Bool.false_ne_true hf).elim
  | _ => exact (Bool.false_ne_true hf).elim
theorem sFrO {pe : PX} {v : Expr} (hf : freshO pe = true) (h : mE G N sc pe v = true) (hX : Ctx G F con N k c.toCb sc X) (hF : Fns x G F k c.fa X) (tk : Takes X W) : PE X v (TvF x c W (lstR (evalE F con pe))) := by
  by_cases hx : freshX pe = true
  · exact f_lstR (sFr hx h hX hF tk)
  · cases pe with
    | bin o a b =>
      cases v with
      | BinOp l op r _ =>
        obtain ⟨h1, h3⟩ := and2 h
        obtain ⟨h1, h2⟩ := and2 h1
        obtain rfl : op = opOf o := of_decide_eq_true h1
        have pa := sP_of h2 hX (sE x G F con N k a (c := c) h2 hX hF tk)
        have pb := sP_of h3 hX (sE x G F con N k b (c := c) h3 hX hF tk)
        cases o with
        | add => exact f_add pa pb
        | mul => exact f_mul pa pb
        | _ => exact (Bool.false_ne_true hf).elim
      | _ => exact (Bool.false_ne_true h).elim
    | _ => exact (hx hf).elim
theorem sw_nc {v : Expr} {t : Option Expr} {l : Nat} {env : Env} (h : compB v = false) : swapsWith v t l env = pure false := by
  cases v <;> first | rfl | exact (Bool.false_ne_true h.symm).elim
theorem s_own {i : Nat} {pe : PX} {y : Str} {py : Pos} {v : Expr} {pos : Pos} (h1 : slotB N i y = true) (h2 : locB sc y = true) (hf : freshO pe = true) (h : mE G N sc pe v = true) (hX : Ctx G F con N k c.toCb sc X) (hF : Fns x G F k c.fa X) (tp : Tp sc X) (tk : Takes X W) :
    PS X (.Assign [.Name y py] v pos) (TvS x c W (bindS (evalE F con pe) fun d s => ownSl i d s)) := by
  have he := sFrO (c := c) hf h hX hF tk
  cases e : lcSwap sc y py v with
  | false => exact PSi (ps_set (by rw [hX.nN]; exact hX.nd) (by rw [hX.nN]; exact slot_ix h1) (loc_of hX h2) he (sw_f (l := pos.line) (env := X.env) hX.scp tp.kd h e) (.inl (tp.fn y))) fun D σ H q => own_S2 q
  | true =>
    cases v with
    | ListComp elt gs scope vpos =>
      obtain ⟨sw, hy⟩ := sw_t (l := pos.line) (env := X.env) hX.scp tp.kd e
      obtain ⟨tg, iter, ifs, rfl, wi, g, tt, te, own, q1, q2, q3, q4, q5, q6, _, q8⟩ := sLc x G F con N k pe (c := c) h hX hF tk
      have hx : freshX pe = true := by
        cases pe <;> first | rfl | (exact (Bool.false_ne_true h).elim)
      exact PSi (ps_setLc hX.calm (by rw [hX.nN]; exact hX.nd) (by rw [hX.nN]; exact slot_ix h1) hy sw q1 q2 q3 q4 q5 q6) fun D σ H q => by
        obtain ⟨s, a, p⟩ := own_S q
        exact q8 σ H _ ⟨s, a, p⟩
    | _ => exact (Bool.false_ne_true e).elim
theorem sWs : ∀ (l : List (Nat × Bool)) (es : PXs) {vs : List Expr} {c : Cn}, mWs G N sc l es vs = true → Ctx G F con N k c.toCb sc X → Fns x G F k c.fa X → Takes X W → PA X vs (TvW x c W (l.map (·.2)) (evalEs F con es))
  | [], .nil, [], c, h, hX, hF, tk => w_nil
  | (i, o) :: l, .cons e r, v :: vs, c, h, hX, hF, tk => by
    obtain ⟨q1, h4⟩ := and2 h
    obtain ⟨q2, h3⟩ := and2 q1
    obtain ⟨h1, h2⟩ := and2 q2
    clear q1 q2 h
    have hr : PA X vs (tAnyW x c.toCb W (l.map (·.2)) (evalEs F con r)) := w_any fun c' e' => by
      have hX' : Ctx G F con N k c'.toCb sc X := e' ▸ hX
      have hF' : Fns x G F k c'.fa X := e' ▸ hF
      exact sWs l r h4 hX' hF' tk
    cases o with
    | false => exact w_cons (sE x G F con N k e h2 hX hF tk) hr (nott h1)
    | true => exact w_consF (sFr (c := c) h3 h2 hX hF tk) hr (nott h1)
  | [], .cons _ _, _, _, h, _, _, _ => (Bool.false_ne_true h).elim
  | [], .star _ _, _, _, h, _, _, _ => (Bool.false_ne_true h).elim
  | [], .nil, _ :: _, _, h, _, _, _ => (Bool.false_ne_true h).elim
  | _ :: _, .nil, _, _, h, _, _, _ => (Bool.false_ne_true h).elim
  | _ :: _, .star _ _, _, _, h, _, _, _ => (Bool.false_ne_true h).elim
  | _ :: _, .cons _ _, [], _, h, _, _, _ => (Bool.false_ne_true h).elim
theorem mn_cons {i : Nat} {o : Bool} {l : List (Nat × Bool)} {e : Expr} {es : List Expr} (h : mN N sc ((i, o) :: l) (e :: es) = true) : ∃ y p, e = .Name y p ∧ N[i]? = some y ∧ sc.names.lookup y = some .local ∧ mN N sc l es = true := by
  cases e with
  | Name y p =>
    obtain ⟨h1, h3⟩ := and2 h
    obtain ⟨h1, h2⟩ := and2 h1
    exact ⟨y, p, rfl, slot_ix h1, of_decide_eq_true h2, h3⟩
  | _ => exact (Bool.false_ne_true h).elim
theorem mn_nil {ts : List Expr} (h : mN N sc [] ts = true) : ts = [] := by
  cases ts with
  | nil => rfl
  | cons => exact (Bool.false_ne_true h).elim
theorem sl_len {ts : List Expr} (h : sameLine ts = true) : ts.length = 2 ∨ ts.length = 3 := by
  match ts, h with
  | [a, b], _ => exact .inl rfl
  | [a, b, d], _ => exact .inr rfl
  | [], h => exact (Bool.false_ne_true h).elim
  | [a], h => cases a <;> exact (Bool.false_ne_true h).elim
  | a :: b :: d :: e :: r, h => cases a <;> cases b <;> cases d <;> exact (Bool.false_ne_true h).elim
theorem s_par {l : List (Nat × Bool)} {es : PXs} {ts vs : List Expr} {k1 k2 : Nat} {p1 p2 pos : Pos} (h1 : mN N sc l ts = true) (h2 : (l.map (·.1)).Nodup) (h3 : parSw ts vs = true) (h4 : mWs G N sc l es vs = true) (hX : Ctx G F con N k c.toCb sc X) (hF : Fns x G F k c.fa X) (tp : Tp sc X) (tk : Takes X W) :
    PS X (.Assign [.Tuple ts k1 p1] (.Tuple vs k2 p2) pos) (TvS x c W (bindS (evalEs F con es) fun ds s => (match storeL l ds s.env with | some e => .next { s with env := e } | none => .bad))) := by
  have ha := sWs (x := x) (W := W) l es (c := c) h4 hX hF tk
  have hN : X.N.Nodup := by rw [hX.nN]; exact hX.nd
  have ll : vs.length = ts.length := by
    obtain ⟨h, _⟩ := and2 h3
    obtain ⟨h, _⟩ := and2 h
    obtain ⟨h, _⟩ := and2 h
    obtain ⟨h, _⟩ := and2 h
    obtain ⟨_, h⟩ := and2 h
    exact eq_of_beq h
  have sl : sameLine ts = true := by
    obtain ⟨h, _⟩ := and2 h3
    obtain ⟨h, _⟩ := and2 h
    obtain ⟨h, _⟩ := and2 h
    obtain ⟨h, _⟩ := and2 h
    exact (and2 h).1
  have at_ : ∀ {i : Nat} {y : Str}, N[i]? = some y → X.N[i]? = some y := fun e => by rw [hX.nN]; exact e
  have lc : ∀ {y : Str}, sc.names.lookup y = some .local → X.env.scope.names.lookup y = some .local := fun e => by rw [hX.scp]; exact e
  rcases sl_len sl with e | e
  · match ts, e with
    | [t1, t2], _ =>
      match vs, ll with
      | [a, b], _ =>
        match l, h1 with
        | (i, o) :: l, h1 =>
          obtain ⟨y, py, rfl, i1, y1, h1⟩ := mn_cons h1
          match l, h1 with
          | (j, o2) :: l, h1 =>
            obtain ⟨z, pz, rfl, i2, z1, h1⟩ := mn_cons h1
            match l, h1 with
            | [], h1 =>
              have hij : i ≠ j := by simpa using h2
              refine PSi (ps_par hX.calm hN (at_ i1) (at_ i2) hij (lc y1) (lc z1) ha (sw_some2 hX.scp tp.kd y1 z1 h3) rfl) fun D σ H q => ?_
              have q := par_S q
              obtain ⟨s, a, p⟩ := q
              refine ⟨s, a, ?_⟩
              cases ee : evalEs F con es s with
              | bad => rw [ee] at p; exact p
              | exc en gs s1 => rw [ee] at p; exact p
              | ok ds s1 =>
                rw [ee] at p
                intro us H1 P pv pn rc
                obtain ⟨ul, q⟩ := p us H1 P pv pn rc
                match us, ul with
                | [u1, u2], _ =>
                  refine ⟨u1, u2, rfl, ?_⟩
                  have e1 : storeV [i, j] [u1, u2] σ = (σ.set i (some u1)).set j (some u2) := List.set_comm _ _ (Ne.symm hij)
                  rw [← e1]; exact q
            | _ :: _, h1 => exact (Bool.false_ne_true h1).elim
          | [], h1 => exact (Bool.false_ne_true h1).elim
        | [], h1 => exact (Bool.false_ne_true h1).elim
  · match ts, e with
    | [t1, t2, t3], _ =>
      match vs, ll with
      | [a, b, d], _ =>
        match l, h1 with
        | (i, o) :: l, h1 =>
          obtain ⟨y, py, rfl, i1, y1, h1⟩ := mn_cons h1
          match l, h1 with
          | (j, o2) :: l, h1 =>
            obtain ⟨z, pz, rfl, i2, z1, h1⟩ := mn_cons h1
            match l, h1 with
            | (m, o3) :: l, h1 =>
              obtain ⟨w, pw, rfl, i3, w1, h1⟩ := mn_cons h1
              match l, h1 with
              | [], h1 =>
                obtain ⟨n1, n2, n3⟩ : i ≠ j ∧ i ≠ m ∧ j ≠ m := by
                  simp only [List.map_cons, List.map_nil, List.nodup_cons, List.mem_cons, List.not_mem_nil, or_false, not_or, not_false_eq_true, List.nodup_nil, and_true] at h2
                  exact ⟨h2.1.1, h2.1.2, h2.2⟩
                refine PSi (ps_par3 hX.calm hN (at_ i1) (at_ i2) (at_ i3) n1 n2 n3 (lc y1) (lc z1) (lc w1) ha (sw_some3 hX.scp tp.kd y1 z1 w1 h3) rfl) fun D σ H q => ?_
                have q := par_S q
                obtain ⟨s, a, p⟩ := q
                refine ⟨s, a, ?_⟩
                cases ee : evalEs F con es s with
                | bad => rw [ee] at p; exact p
                | exc en gs s1 => rw [ee] at p; exact p
                | ok ds s1 =>
                  rw [ee] at p
                  intro us H1 P pv pn rc
                  obtain ⟨ul, q⟩ := p us H1 P pv pn rc
                  match us, ul with
                  | [u1, u2, u3], _ =>
                    refine ⟨u1, u2, u3, rfl, ?_⟩
                    have e1 : storeV [i, j, m] [u1, u2, u3] σ = ((σ.set i (some u1)).set j (some u2)).set m (some u3) := by
                      show ((σ.set m (some u3)).set j (some u2)).set i (some u1) = _
                      rw [List.set_comm _ _ (Ne.symm n1), List.set_comm (l := σ) _ _ (Ne.symm n2), List.set_comm _ _ (Ne.symm n3)]
                    rw [← e1]; exact q
              | _ :: _, h1 => exact (Bool.false_ne_true h1).elim
            | [], h1 => exact (Bool.false_ne_true h1).elim
          | [], h1 => exact (Bool.false_ne_true h1).elim
        | [], h1 => exact (Bool.false_ne_true h1).elim
theorem s_set {i : Nat} {px pe : PX} {nm : Str} {np sp pos : Pos} {ix v : Expr} (h1 : slotB N i nm = true) (h2 : visB sc nm = true) (h3 : mE G N sc px ix = true) (h4 : mE G N sc pe v = true) (h5 : isSlice ix = false) (hX : Ctx G F con N k c.toCb sc X) (hF : Fns x G F k c.fa X) (tk : Takes X W) :
    PS X (.Assign [.Subscript (.Name nm np) ix sp] v pos) (TvS x c W (bindS (evalE F con pe) fun d => bindS (slotP i) fun _ => bindS (evalE F con px) fun j s => (match j with | .int j => setSl i j d s | _ => .bad))) := by
  obtain ⟨v1, v2, v3⟩ := vis_ok h2
  have hv : PE X (.Name nm np) (tVar i) := pe_var (by rw [hX.nN]; exact slot_ix h1) (by rw [hX.scp]; exact v1) v2 v3
  have hg : PG X (.Subscript (.Name nm np) ix sp) (gSub (tVar i) (TvE x c W (evalE F con px)) rSetL) := pg_sub hv (sE x G F con N k px h3 hX hF tk) set_list (by intro u; cases ix <;> first | rfl | exact (Bool.false_ne_true h5.symm).elim)
  exact PSi (ps_asg (sE x G F con N k pe (c := c) h4 hX hF tk) hg (by cases v <;> rfl) (by cases v <;> rfl) rfl) fun D σ H q => set_S q
theorem s_append {i : Nat} {pe : PX} {nm : Str} {np apos cpos pos : Pos} {a : Expr} (h1 : slotB N i nm = true) (h2 : visB sc nm = true) (h3 : starred a = false) (h4 : mE G N sc pe a = true) (h5 : (apos.endLine == cpos.line) = true) (hX : Ctx G F con N k c.toCb sc X) (hF : Fns x G F k c.fa X) (tk : Takes X W) :
    PS X (.Expr (.Call (.Attribute (.Name nm np) "append" apos) [a] [] cpos) pos) (TvS x c W (fun s => match s.env[i]? with
    | some (.own _) => bindS (evalE F con pe) (fun d s => appSl i d s) s
    | _ => .bad)) := by
  obtain ⟨v1, v2, v3⟩ := vis_ok h2
  have hv : PE X (.Name nm np) (tVar i) := pe_var (by rw [hX.nN]; exact slot_ix h1) (by rw [hX.scp]; exact v1) v2 v3
  have hs := star_each (e := a) (es := []) (env := X.env) h3
  exact PSi (ps_expr (pe_bm PySem.F.plainAttrs_list PySem.F.slot_list_append PySem.F.type_list_append mt_append hv (pa_cons (sE x G F con N k pe (c := c) h4 hX hF tk) pa_nil hs) rfl (by rw [hs]; rfl) h5 hs rfl) rfl) fun D σ H q => append_S q
/-- an exception at the clauses -/
theorem handle_ok (tp : Tp sc X) (hX : Ctx G F con N k c.toCb sc X) (hE : Exs x G X) : ∀ {hs : List (Option Nat × Option Nat × PH)} {hds : List ExceptHandler}, mHs G N sc hs hds = true →
    ∃ l, HdsA X hds l ∧ ∀ {D : Ends} {dx : Addr} {σ : Sg} {H : Hp} {e : Nat} {fs : List PV.D} {s : S}, SR c σ H s → ExAt x c.toCb (Wn c σ s.env) H dx e fs → PostS x c W σ H s (handle G.exs.length e fs s hs) D → wManyA X.K W D l (.ref (x.cls e)) (some dx) σ H
  | [], [], h => ⟨[], .nil, fun {D dx σ H e fs s} a ea p => p dx σ H a .refl ea⟩
  | (cl, i, h) :: r, hd :: hds, hh => by
    obtain ⟨ty, nm, su, pos⟩ := hd
    cases su with
    | nil =>
      cases ty with
      | none => exact (Bool.false_ne_true hh).elim
      | some e => cases e <;> exact (Bool.false_ne_true hh).elim
    | cons s0 su =>
    cases ty with
    | none => exact (Bool.false_ne_true hh).elim
    | some e =>
    cases e with
    | Name nx np =>
      obtain ⟨q1, h5⟩ := and2 hh
      obtain ⟨q2, h4⟩ := and2 q1
      obtain ⟨q3, h3⟩ := and2 q2
      obtain ⟨h1, h2⟩ := and2 q3
      obtain ⟨l, hl, hp⟩ := handle_ok tp hX hE h5
      obtain ⟨g1, g2, _⟩ := gl_ok hX.scp h1
      have hn : ∀ m, nm = some m → ∃ j, i = some j ∧ X.N[j]? = some m ∧ X.env.kindOf m = some .local := fun m em => by
        subst em
        cases i with
        | none => exact (Bool.false_ne_true h3).elim
        | some j =>
          obtain ⟨z1, z2⟩ := and2 h3
          refine ⟨j, rfl, by rw [hX.nN]; exact slot_ix z1, ?_⟩
          show X.env.scope.names.lookup m = _
          rw [hX.scp]
          exact of_decide_eq_true z2
      have hn0 : nm = none → i = none := fun em => by
        subst em
        cases i with
        | none => rfl
        | some j => exact (Bool.false_ne_true h3).elim
      cases cl with
      | none =>
        obtain ⟨v, m1, m2⟩ := hE.base nx (of_decide_eq_true h2)
        refine ⟨(v, i, fun a cls d => tH a cls d 0 i [] h) :: l, .cons ⟨g1, g2, .inl m1⟩ hn hn0 (fun a oe cls d pn hz hf => h_pss hX.nN hX.scp (fun z => (z rfl).elim) (fun f hf => by cases hf) List.nodup_nil hz hf h4) hl, fun {D dx σ H e fs s} a ea p => ?_⟩
        unfold handle at p
        split at p
        case isFalse => exact p.elim
        rename_i hc
        obtain ⟨c1, c2⟩ := and2 hc
        refine ⟨true, m2 e (of_decide_eq_true c1), fun _ aa na => ?_, fun z => by cases z⟩
        rw [if_pos (show catches e none = true from rfl)] at p
        cases ep : phD (fldsOf none fs) h with
        | none => rw [ep] at p; exact p.elim
        | some dv =>
          rw [ep] at p
          exact h_ret (vs := []) (gs := []) (dd := dx) a c2 ep (.inl ⟨rfl, rfl⟩) .nil p
      | some cc =>
        have h2 := of_decide_eq_true h2
        have hcc : cc < G.exs.length := (List.getElem?_eq_some_iff.mp h2).1
        refine ⟨(.ref (x.cls cc), i, fun a cls d => tH a cls d (x.cls cc) i (G.flds cc) h) :: l, .cons ⟨g1, g2, .inl (hE.mg cc nx h2)⟩ hn hn0 (fun a oe cls d pn hz hf => h_pss hX.nN hX.scp (fun _ => (hE.xf cc hcc).1) (hE.xf cc hcc).2 (hE.nd cc hcc).1 hz hf h4) hl, fun {D dx σ H e fs s} a ea p => ?_⟩
        unfold handle at p
        split at p
        case isFalse => exact p.elim
        rename_i hc
        obtain ⟨c1, c2⟩ := and2 hc
        refine ⟨decide (e = cc), hE.exm e cc (of_decide_eq_true c1) hcc, fun z aa na => ?_, fun z => ?_⟩
        · have ee : e = cc := of_decide_eq_true z
          subst ee
          rw [if_pos (show catches e (some e) = true from z)] at p
          cases ep : phD (fldsOf (some e) fs) h with
          | none => rw [ep] at p; exact p.elim
          | some dv =>
            rw [ep] at p
            obtain ⟨vs, e1, e2, e3⟩ := ea
            have fl := hE.fld e hcc
            exact h_ret (vs := vs) (gs := fs) (dd := dx) a c2 ep (.inr ⟨rfl, rfl, by rw [← fl]; exact e1, by rw [← fl]; exact e2⟩) e3 p
        · rw [if_neg (show ¬ catches e (some cc) = true from by rw [show catches e (some cc) = false from z]; decide)] at p
          exact hp a ea p
    | _ => exact (Bool.false_ne_true hh).elim
  | [], _ :: _, h => (Bool.false_ne_true h).elim
  | _ :: _, [], h => (Bool.false_ne_true h).elim
end
end PV

namespace PV
open PySem PySem.Spec PyProof.Rows L2
theorem Ctx.tr {G : Gd} {F : FT} {con : Nat → D} {N : List Str} {k : Nat} {b : Cb} {sc : Scope} {X : Cx} (h : Ctx G F con N k b sc X) (pn : List (Addr × Obj)) (xe : Value → Shared → Prop) : Ctx G F con N k b sc (X.tr pn xe) :=
  ⟨h.nN, h.nd, h.scp, h.calm, h.room, h.bK, h.free, h.cons, h.gcd⟩
theorem Fns.tr {x : Ex} {G : Gd} {F : FT} {k : Nat} {fa : Nat → Addr} {X : Cx} (h : Fns x G F k fa X) (pn : List (Addr × Obj)) (xe : Value → Shared → Prop) : Fns x G F k fa (X.tr pn xe) := ⟨h.at_⟩
theorem Exs.tr {x : Ex} {G : Gd} {X : Cx} (h : Exs x G X) (pn : List (Addr × Obj)) (xe : Value → Shared → Prop) : Exs x G (X.tr pn xe) := ⟨h.fld, h.mg, h.exm, h.base, h.xf, h.nd, h.mkx⟩
theorem Tp.tr {sc : Scope} {X : Cx} (h : Tp sc X) (pn : List (Addr × Obj)) (xe : Value → Shared → Prop) : Tp sc (X.tr pn xe) := ⟨h.st, h.fr, h.kd, h.fn⟩
section
variable (x : Ex) (G : Gd) (F : FT) (con : Nat → D) (N : List Str) (k fw : Nat)
mutual
theorem sS : ∀ (ps : PSt) {sc : Scope} {st : Stmt} {X : Cx} {W : WX} {c : Cn}, mS G N sc ps st = true → 2 ≤ k → Ctx G F con N k c.toCb sc X → Fns x G F k c.fa X → Exs x G X → Tp sc X → PassesOwn (model X.prog X.w) X.A X.env X.xe → Takes X W → PS X st (TvS x c W (evalS F con fw ps))
  | .asg t e, sc, st, X, W, c, h, hk, hX, hF, hE, tp, po, tk => by
    cases st with
    | Assign ts v pos =>
      match ts, h with
      | [tg], h =>
        obtain ⟨q1, h3⟩ := and2 h
        obtain ⟨h1, h2⟩ := and2 q1
        exact s_asg h1 h2 h3 hX hF tp tk
      | [], h => exact (Bool.false_ne_true h).elim
      | _ :: _ :: _, h => exact (Bool.false_ne_true h).elim
    | _ => exact (Bool.false_ne_true h).elim
  | .own i e, sc, st, X, W, c, h, hk, hX, hF, hE, tp, po, tk => by
    cases st with
    | Assign ts v pos =>
      match ts, h with
      | [tg], h =>
        cases tg with
        | Name y py =>
          obtain ⟨q1, h4⟩ := and2 h
          obtain ⟨q2, h3⟩ := and2 q1
          obtain ⟨h1, h2⟩ := and2 q2
          exact s_own h1 h2 h3 h4 hX hF tp tk
        | _ => exact (Bool.false_ne_true h).elim
      | [], h => exact (Bool.false_ne_true h).elim
      | .Name .. :: _ :: _, h => exact (Bool.false_ne_true h).elim
      | a :: _ :: _, h => cases a <;> exact (Bool.false_ne_true h).elim
    | _ => exact (Bool.false_ne_true h).elim
  | .par l es, sc, st, X, W, c, h, hk, hX, hF, hE, tp, po, tk => by
    cases st with
    | Assign ts v pos =>
      match ts, h with
      | [tg], h =>
        cases tg with
        | Tuple ts k1 p1 =>
          cases v with
          | Tuple vs k2 p2 =>
            obtain ⟨q1, h4⟩ := and2 h
            obtain ⟨q2, h3⟩ := and2 q1
            obtain ⟨h1, h2⟩ := and2 q2
            exact s_par h1 (of_decide_eq_true h2) h3 h4 hX hF tp tk
          | _ => exact (Bool.false_ne_true h).elim
        | _ => exact (Bool.false_ne_true h).elim
      | [], h => exact (Bool.false_ne_true h).elim
      | a :: _ :: _, h => cases a <;> exact (Bool.false_ne_true h).elim
    | _ => exact (Bool.false_ne_true h).elim
  | .set i px e, sc, st, X, W, c, h, hk, hX, hF, hE, tp, po, tk => by
    cases st with
    | Assign ts v pos =>
      match ts, h with
      | [tg], h =>
        cases tg with
        | Subscript o ix sp =>
          cases o with
          | Name nm np =>
            obtain ⟨q1, h5⟩ := and2 h
            obtain ⟨q2, h4⟩ := and2 q1
            obtain ⟨q3, h3⟩ := and2 q2
            obtain ⟨h1, h2⟩ := and2 q3
            exact s_set h1 h2 h3 h4 (nott h5) hX hF tk
          | _ => exact (Bool.false_ne_true h).elim
        | _ => exact (Bool.false_ne_true h).elim
      | [], h => exact (Bool.false_ne_true h).elim
      | a :: _ :: _, h =>
        cases a with
        | Subscript o _ _ => cases o <;> exact (Bool.false_ne_true h).elim
        | _ => exact (Bool.false_ne_true h).elim
    | _ => exact (Bool.false_ne_true h).elim
  | .append i e, sc, st, X, W, c, h, hk, hX, hF, hE, tp, po, tk => by
    cases st with
    | Expr v pos =>
      cases v with
      | Call f as kws cpos =>
        cases f with
        | Attribute o n apos =>
          cases o with
          | Name nm np =>
            match as, kws, h with
            | [a], [], h =>
              obtain ⟨q1, h6⟩ := and2 h
              obtain ⟨q2, h5⟩ := and2 q1
              obtain ⟨q3, h4⟩ := and2 q2
              obtain ⟨q4, h3⟩ := and2 q3
              obtain ⟨h1, h2⟩ := and2 q4
              have h1 := of_decide_eq_true h1
              clear q1 q2 q3 q4 h
              subst h1
              exact s_append h2 h3 (nott h4) h5 h6 hX hF tk
            | [], _, h => exact (Bool.false_ne_true h).elim
            | [_], _ :: _, h => exact (Bool.false_ne_true h).elim
            | _ :: _ :: _, _, h => exact (Bool.false_ne_true h).elim
          | _ => exact (Bool.false_ne_true h).elim
        | _ => exact (Bool.false_ne_true h).elim
      | _ => exact (Bool.false_ne_true h).elim
    | _ => exact (Bool.false_ne_true h).elim
  | .iff t a b, sc, st, X, W, c, h, hk, hX, hF, hE, tp, po, tk => by
    cases st with
    | If cd p q pos =>
      obtain ⟨q1, h3⟩ := and2 h
      obtain ⟨h1, h2⟩ := and2 q1
      exact s_if (sT x G F con N k t h1 hX hF tk) (sSs a h2 hk hX hF hE tp po tk) (sSs b h3 hk hX hF hE tp po tk)
    | _ => exact (Bool.false_ne_true h).elim
  | .for t it b, sc, st, X, W, c, h, hk, hX, hF, hE, tp, po, tk => by
    cases st with
    | For tg iter body oe pos =>
      cases oe with
      | nil =>
        obtain ⟨q1, h3⟩ := and2 h
        obtain ⟨h1, h2⟩ := and2 q1
        exact s_for hX po (sI x G F con N k it h2 hX hF tk) (pg_of h1 hX.nN hX.nd hX.calm fun nm hl => ⟨loc_of hX hl, .inl (tp.fn nm)⟩) (sSs b h3 hk hX hF hE tp po tk) (fun v => not_set (sI_set it h2) v)
      | cons => exact (Bool.false_ne_true h).elim
    | _ => exact (Bool.false_ne_true h).elim
  | .whil t b, sc, st, X, W, c, h, hk, hX, hF, hE, tp, po, tk => by
    cases st with
    | While cd body oe pos =>
      cases oe with
      | nil =>
        obtain ⟨h1, h2⟩ := and2 h
        exact s_while po (sT x G F con N k t h1 hX hF tk) (sSs b h2 hk hX hF hE tp po tk)
      | cons => exact (Bool.false_ne_true h).elim
    | _ => exact (Bool.false_ne_true h).elim
  | .ret e, sc, st, X, W, c, h, hk, hX, hF, hE, tp, po, tk => by
    cases st with
    | Return v pos =>
      cases v with
      | some v => exact s_ret (sE x G F con N k e h hX hF tk)
      | none => exact (Bool.false_ne_true h).elim
    | _ => exact (Bool.false_ne_true h).elim
  | .retN, sc, st, X, W, c, h, hk, hX, hF, hE, tp, po, tk => by
    cases st with
    | Return v pos =>
      cases v with
      | none => exact s_retN
      | some v => exact (Bool.false_ne_true h).elim
    | _ => exact (Bool.false_ne_true h).elim
  | .raise cc n args, sc, st, X, W, c, h, hk, hX, hF, hE, tp, po, tk => by
    cases st with
    | Raise e co pos =>
      cases e with
      | none => exact (Bool.false_ne_true h).elim
      | some e =>
        cases e with
        | Call f l kws cpos =>
          cases f with
          | Name nm p =>
            cases kws with
            | nil =>
              cases co with
              | none =>
                obtain ⟨q1, h7⟩ := and2 h
                obtain ⟨q2, h6⟩ := and2 q1
                obtain ⟨q3, h5⟩ := and2 q2
                obtain ⟨q4, h4⟩ := and2 q3
                obtain ⟨q5, h3⟩ := and2 q4
                obtain ⟨h1, h2⟩ := and2 q5
                have h4 := of_decide_eq_true h4
                have ne : l ≠ [] := fun z => by rw [z] at h6; exact (Bool.false_ne_true h6).elim
                have q := s_raise (p := p) (pos := pos) (cpos := cpos) hX hE hk tk (of_decide_eq_true h1) h2 h3 ne (of_decide_eq_true h5) (sEs x G F con N k args h7 hX hF tk)
                rw [h4] at q
                exact q
              | some _ => exact (Bool.false_ne_true h).elim
            | cons => exact (Bool.false_ne_true h).elim
          | _ => exact (Bool.false_ne_true h).elim
        | _ => exact (Bool.false_ne_true h).elim
    | _ => exact (Bool.false_ne_true h).elim
  | .tryy n b hs, sc, st, X, W, c, h, hk, hX, hF, hE, tp, po, tk => by
    cases st with
    | Try body hds oe fb pos =>
      cases hds with
      | nil => exact (Bool.false_ne_true h).elim
      | cons h0 hds =>
        cases oe with
        | cons => exact (Bool.false_ne_true h).elim
        | nil =>
          cases fb with
          | cons => exact (Bool.false_ne_true h).elim
          | nil =>
            obtain ⟨q1, h3⟩ := and2 h
            obtain ⟨h1, h2⟩ := and2 q1
            have h1 := of_decide_eq_true h1
            obtain ⟨l, hl, hp⟩ := handle_ok (W := W) tp hX hE h3
            refine PSi (ps_tryA (tb := fun W' => TvS x c W' (evalSs F con fw b)) tp.st tp.fr (by rw [hX.nN]; exact hX.nd) tk (fun W' pn xe tk' po' => sSs b h2 hk (hX.tr pn xe) (hF.tr pn xe) (hE.tr pn xe) (tp.tr pn xe) po' tk') hl) fun D σ H ⟨s, a, p⟩ => ?_
            refine ⟨s, a, ?_⟩
            have p : PostS x c W σ H s (match evalSs F con fw b s with | .exc e fs s' => handle n e fs s' hs | r => r) D := p
            cases e : evalSs F con fw b s with
            | next s' => rw [e] at p; exact p
            | brk s' => rw [e] at p; exact p
            | cont s' => rw [e] at p; exact p
            | ret d b' => rw [e] at p; exact p
            | bad => rw [e] at p; exact p
            | exc en fs s' =>
              rw [e] at p
              rw [h1] at p
              exact fun dx σ' H' a' m ea => hp a' ea (PostS.lift m p)
    | _ => exact (Bool.false_ne_true h).elim
  | .expr e, sc, st, X, W, c, h, hk, hX, hF, hE, tp, po, tk => by
    cases st with
    | Expr v pos =>
      obtain ⟨h1, h2⟩ := and2 h
      exact s_expr (sE x G F con N k e h1 hX hF tk) (sw_nc (nott h2))
    | _ => exact (Bool.false_ne_true h).elim
  | .pass, sc, st, X, W, c, h, hk, hX, hF, hE, tp, po, tk => by
    cases st with
    | Pass pos => exact s_pass
    | Expr v pos =>
      cases v with
      | Constant co _ _ =>
        cases co with
        | str _ => exact PSi ps_doc fun D σ H ⟨s, a, p⟩ => p σ H a .refl
        | _ => exact (Bool.false_ne_true h).elim
      | _ => exact (Bool.false_ne_true h).elim
    | _ => exact (Bool.false_ne_true h).elim
  | .hole, sc, st, X, W, c, h, hk, hX, hF, hE, tp, po, tk => ⟨fun pins s σ H D I ⟨s0, a, p⟩ => p.elim⟩
  | .brk, sc, st, X, W, c, h, hk, hX, hF, hE, tp, po, tk => by
    cases st with
    | Break pos => exact s_brk
    | _ => exact (Bool.false_ne_true h).elim
  | .cont, sc, st, X, W, c, h, hk, hX, hF, hE, tp, po, tk => by
    cases st with
    | Continue pos => exact s_cont
    | _ => exact (Bool.false_ne_true h).elim
theorem sSs : ∀ (ps : PSts) {sc : Scope} {sts : List Stmt} {X : Cx} {W : WX} {c : Cn}, mSs G N sc ps sts = true → 2 ≤ k → Ctx G F con N k c.toCb sc X → Fns x G F k c.fa X → Exs x G X → Tp sc X → PassesOwn (model X.prog X.w) X.A X.env X.xe → Takes X W → PSs X sts (TvS x c W (evalSs F con fw ps))
  | .nil, sc, sts, X, W, c, h, hk, hX, hF, hE, tp, po, tk => by
    cases sts with
    | nil => exact s_nil
    | cons => exact (Bool.false_ne_true h).elim
  | .cons a r, sc, sts, X, W, c, h, hk, hX, hF, hE, tp, po, tk => by
    cases sts with
    | nil => exact (Bool.false_ne_true h).elim
    | cons st sts =>
      obtain ⟨h1, h2⟩ := and2 h
      exact s_cons (sS a h1 hk hX hF hE tp po tk) (sSs r h2 hk hX hF hE tp po tk)
end
end
end PV

/-! every def keeps its promise -/
namespace PV
open PySem PySem.Spec PyProof.Rows L2
structure Lib (P : Program) (w : World) (K : PySem.W.Frag) (mg : Str → Option Value) (base : Heap) (x : Ex) (G : Gd) (con : Nat → D) (fa : Nat → Addr) (fd : Nat → FuncData) (defs : List Df) : Prop where
  free : ∀ nm ∈ G.free, mg nm = none
  cons : ∀ i nm, G.cons[i]? = some nm → ∃ v u, mg nm = some u ∧ RelV v u ∧ ∀ (b : Cb) W H, b.K = K → b.fa = fa → Rp b W H v (con i)
  gcd : ∀ nm ∈ G.gcds, mg nm = some (.builtin "math.gcd")
  fn : ∀ i nm, G.fns[i]? = some nm → mg nm = some (.ref (fa i)) ∧ PySem.W.keepIn K (.ref (fa i)) = true ∧ Binds K (fd i) (G.ps i) []
  kw : ∀ i ks perm, (i, ks, perm) ∈ G.kws → KB K (fd i) (G.ps i) ks perm
  exs : ∀ X : Cx, X.prog = P → X.w = w → X.K = K → X.mg = mg → X.base = base → Exs x G X
  df : ∀ i d, defs[i]? = some d → ∃ (nm qual : Str) (params : Arguments) (body : List Stmt) (scope : Scope) (N ps : List Str), FunD K nm qual params body scope [] [] (fa i) (fd i) ∧ FnScope N ps scope ∧ G.ps i = ps ∧ d.par = ps.length ∧ d.slots = N.length ∧ mSs G N scope d.body body = true
section
variable {P : Program} {w : World} {K : PySem.W.Frag} {mg : Str → Option Value} {base : Heap} {x : Ex} {G : Gd} {con : Nat → D} {fa : Nat → Addr} {fd : Nat → FuncData} {defs : List Df} {fw : Nat}
theorem start_sr {c : Cn} {N : List Str} {vs : List V} {ds : List D} {b : Bx} {n : Nat} (hn : n = N.length - vs.length) (h1 : c.W0 c.bx) (h2 : Hold c.W0 c.H0) (h3 : c.H0 c.bx = some (boxHO b)) (r : Rps c.toCb c.W0 c.H0 vs ds) :
    SR c (start N vs) c.H0 ⟨ds.map Sl.v ++ List.replicate n .no, b⟩ := by
  have no : ∀ (i : Nat) (xs : List D), (ds.map Sl.v ++ List.replicate n Sl.no)[i]? ≠ some (.own xs) := fun i xs z => by
    have m := List.mem_of_getElem? z
    rcases List.mem_append.mp m with m | m
    · obtain ⟨d, _, e⟩ := List.mem_map.mp m
      cases e
    · cases (List.mem_replicate.mp m).2
  have wn : ∀ a, Wn c (start N vs) (ds.map Sl.v ++ List.replicate n Sl.no) a → c.W0 a := fun a h => by
    rcases h with h | ⟨i, xs, e, _⟩
    · exact h
    · exact (no i xs e).elim
  refine ⟨.refl, ?_, fun i y e => ?_, fun i j xs ys a e => (no i xs e).elim, h3, h2, h1⟩
  · show (vs.map some ++ List.replicate (N.length - vs.length) none).length = (ds.map Sl.v ++ List.replicate n Sl.no).length
    rw [List.length_append, List.length_append, List.length_map, List.length_map, List.length_replicate, List.length_replicate, r.1, hn, r.1]
  · have e : (ds.map Sl.v ++ List.replicate n Sl.no)[i]? = some y := e
    by_cases hi : i < ds.length
    · rw [List.getElem?_append_left (by simpa using hi), List.getElem?_map] at e
      cases ed : ds[i]? with
      | none => rw [ed] at e; cases e
      | some d =>
        rw [ed] at e
        cases e
        obtain ⟨v, ev, rv⟩ := r.get ed
        refine ⟨v, ?_, rv.to fun q o e n => ⟨e, fun z => n (wn q z)⟩⟩
        show (vs.map some ++ List.replicate (N.length - vs.length) none)[i]? = _
        rw [List.getElem?_append_left (by simpa [r.1] using hi), List.getElem?_map, ev]
        rfl
    · rw [List.getElem?_append_right (by simpa using hi)] at e
      have m := List.mem_of_getElem? e
      obtain rfl := (List.mem_replicate.mp m).2
      trivial
theorem spF_bad {F : FT} {i : Nat} {vs : List V} {H : Hp} {Q : VK} {E : XK} (hF : ∀ ds b, F i ds b = .bad) : ¬ spF x K fa F i vs H Q E := fun h => by
  obtain ⟨c, ds, b, _, _, _, _, _, _, _, r⟩ := h
  rw [hF] at r
  exact r
theorem fn_bad {F : FT} {i k : Nat} {f : Addr} {fd' : FuncData} {ps : List Str} (hF : ∀ ds b, F i ds b = .bad) : FnOk P w K mg base (L2.CX P w) k f fd' ps (spF x K fa F i) :=
  ⟨fun vs H Q E h => (spF_bad hF h).elim, fun A outer s H args us vs Q E _ _ _ _ h => (spF_bad hF h).elim⟩
theorem lib_ok (L : Lib P w K mg base x G con fa fd defs) : ∀ (k i : Nat), FnOk P w K mg base (L2.CX P w) k (fa i) (fd i) (G.ps i) (spF x K fa (evF defs con fw k) i)
  | 0, i => fn_bad fun _ _ => rfl
  | k + 1, i => by
    by_cases hk : k < 2
    · exact fn_bad fun ds b => by show (if k < 2 then RF.bad else _) = _; rw [if_pos hk]
    · cases ed : defs[i]? with
      | none => exact fn_bad fun ds b => by show (if k < 2 then RF.bad else match defs[i]? with | some d => _ | none => RF.bad) = _; rw [if_neg hk, ed]
      | some d =>
        obtain ⟨nm, qual, params, body, scope, N, ps, Fd, Fs, e1, e2, e3, hm⟩ := L.df i d ed
        have ev : ∀ ds b, evF defs con fw (k + 1) i ds b = runF (evF defs con fw k) con fw d ds b := fun ds b => by
          show (if k < 2 then RF.bad else match defs[i]? with | some d => runF (evF defs con fw k) con fw d ds b | none => RF.bad) = _
          rw [if_neg hk, ed]
        rw [e1]
        refine Fd.ok Fs (fun vs H Q E h => ?_) fun cdv A outer s H vs Q E hr h => ?_
        · obtain ⟨c, ds, b, _, _, _, _, _, _, r, q⟩ := h
          rw [ev] at q
          unfold runF at q
          split at q
          · rename_i hl
            rw [r.1, hl, e2]
          · exact q.elim
        · obtain ⟨c, ds, b, c1, c2, c3, c4, c5, c6, r, q⟩ := h
          subst c3
          rw [ev] at q
          unfold runF at q
          split at q
          case isFalse => exact q.elim
          rename_i hl
          let X : Cx := cxOf (L2.CX P w) P w K mg base N qual scope (fa i) cdv A outer s c.H0 E
          have hE : Exs x G X := L.exs X rfl rfl rfl rfl rfl
          have hX : Ctx G (evF defs con fw k) con N k c.toCb scope X := ⟨rfl, Fs.nd, rfl, rfl, hr, c1, L.free, fun j nm ej => by
            obtain ⟨v, u, m1, m2, m3⟩ := L.cons j nm ej
            exact ⟨v, u, m1, m2, fun W H => m3 c.toCb W H c1 c2⟩, L.gcd⟩
          have hF : Fns x G (evF defs con fw k) k c.fa X := by
            rw [c2]
            exact ⟨fun j nm ej => ⟨(L.fn j nm ej).1, (L.fn j nm ej).2.1, fd j, (L.fn j nm ej).2.2, lib_ok L k j, L.kw j⟩⟩
          have tk : Takes X (fun cls d _ H' => E cls d H') := takes_of rfl rfl rfl rfl
          refine ⟨_, sSs x G (evF defs con fw k) con N k fw d.body (c := c) hm (by omega) hX hF hE ⟨rfl, rfl, Fs.kind, fun _ => rfl⟩ (passes_of rfl) tk, ⟨ds.map Sl.v ++ List.replicate (d.slots - d.par) .no, b⟩, start_sr (by rw [e3, r.1, hl]) c4 c5 c6 r, ?_⟩
          have w0 : ∀ {σ : Sg} {s : S} {H' : Hp} {v : V} {d : D}, Rp c.toCb (Wn c σ s.env) H' v d → Rp c.toCb c.W0 H' v d := fun r => r.to fun q o e n => ⟨e, fun z => n (.inl z)⟩
          cases ee : evalSs (evF defs con fw k) con fw d.body ⟨ds.map Sl.v ++ List.replicate (d.slots - d.par) .no, b⟩ with
          | next s' =>
            rw [ee] at q
            exact fun σ' H' a m => q .non H' a.ext a.box .non
          | ret dv b' =>
            rw [ee] at q
            exact fun v H' g hb rv => q v H' g hb rv
          | exc en fs s' =>
            rw [ee] at q
            exact fun dx σ' H' a m ⟨us, u1, u2, u3⟩ => q dx H' a.ext a.box ⟨us, u1, u2, u3.to fun q o e n => ⟨e, fun z => n (.inl z)⟩⟩
          | brk s' => rw [ee] at q; exact q.elim
          | cont s' => rw [ee] at q; exact q.elim
          | bad => rw [ee] at q; exact q.elim
end
end PV

/-! the cells, the boxes, the law's own loop -/
namespace PV
open PySem PySem.Spec PyProof.Rows L2
/-- a box as it is made -/
structure BxOk (M : Int) (b : Bx) : Prop where
  c : b.c = 0
  n : 0 ≤ b.n
  g : b.g = decide ((10 : Int) ^ 18 ≤ b.n)
  r0 : 0 ≤ b.r
  r1 : b.r < M
def spCell (K : PySem.W.Frag) : Sp := fun vs H Q E => ∃ (a : Addr) (ns : List Int) (k : Int), vs = [.ref a, .int k] ∧ SqL K H a (ns.map V.int) ∧ 0 ≤ k ∧ k ≤ 1000000 ∧ ∀ (i : Int) H', Same H H' → Q (.int i) H'
def spBox (M : Int) : Sp := fun vs H Q E => ∃ g : Int, vs = [.int g] ∧ ∀ p H' b, BxOk M b → H p = none → Same H H' → H' p = some (boxHO b) → Q (.ref p) H'
section
variable {P : Program} {w : World} {K : PySem.W.Frag} {mg : Str → Option Value} {base : Heap} {X : Cx}
def cb0 (K : PySem.W.Frag) : Cb := ⟨K, 0, fun _ => 0⟩
theorem hold0 {H : Hp} : Hold (fun _ => False) H := fun _ h => h.elim
theorem rd1 {f : List D → Option D} {v : V} {H : Hp} {Q : VK} {d e : D} (r : Rp (cb0 K) (fun _ => False) H v d) (h : f [d] = some e) (q : ∀ v H', Same H H' → Rp (cb0 K) (fun _ => False) H' v e → Q v H') : rDs (cb0 K) f [v] H Q :=
  ⟨fun _ => False, [d], e, hold0, ⟨rfl, fun i v' d' e1 e2 => by
    cases i with
    | zero => simp at e1 e2; rw [← e1, ← e2]; exact .inl r
    | succ i => simp at e1⟩, h, q⟩
theorem rd2 {f : D → D → Option D} {u v : V} {H : Hp} {Q : VK} {d e g : D} (r : Rp (cb0 K) (fun _ => False) H u d) (r2 : Rp (cb0 K) (fun _ => False) H v e) (h : f d e = some g) (q : ∀ v H', Same H H' → Rp (cb0 K) (fun _ => False) H' v g → Q v H') : rD2 (cb0 K) f u v H Q :=
  ⟨fun _ => False, d, e, g, hold0, .inl r, .inl r2, h, q⟩
theorem same_tr {H H1 H2 : Hp} (a : Same H H1) (b : Same H1 H2) : Same H H2 := fun x o e => b x o (a x o e)
theorem same_no {H H1 : Hp} {p : Addr} (a : Same H H1) (n : H1 p = none) : H p = none := by
  cases e : H p with
  | none => rfl
  | some o => rw [a p o e] at n; cases n
theorem sql_same {H H' : Hp} {a : Addr} {xs : List V} (s : Same H H') (h : SqL K H a xs) : SqL K H' a xs := by
  rcases h with (h | ⟨o, h⟩) | h
  · exact .inl (.inl (s _ _ h))
  · exact .inl (.inr ⟨o, s _ _ h⟩)
  · exact .inr h
def noE : XK := fun _ _ _ => False
theorem tk_cx {qual : Str} {N : List Str} {scope : Scope} {f : Addr} {cdv : Value} {A : Around} {outer : List Env} {s : Shared} {H : Hp} {E : XK} : Takes (cxOf (L2.CX P w) P w K mg base N qual scope f cdv A outer s H E) (fun cls d _ H' => E cls d H') := takes_of rfl rfl rfl rfl
/-- the box of a cell -/
theorem box_ok {nm qual : Str} {params : Arguments} {scope : Scope} {f : Addr} {fd : FuncData} {p1 p2 p3 p4 p5 p6 p7 p8 p9 p10 p11 p12 p13 p14 p15 p16 p17 p18 p19 p20 : Pos} {M : Int} {j1 j2 j3 j4 : Nat}
    (F : FunD K nm qual params [.Return (some (.List [.Call (.Name "abs" p1) [.Name "great" p2] [] p3, .Compare (.Call (.Name "abs" p4) [.Name "great" p5] [] p6) [.GtE] [.BinOp (.Constant (.int 10) j1 p7) .Pow (.Constant (.int 18) j2 p8) p9] p10,
      .BinOp (.Call (.Name "int" p11) [.Call (.Name "abs" p12) [.Name "great" p13] [] p14] [] p15) .Mod (.Constant (.int M) j3 p16) p17, .Constant (.int 0) j4 p18] p19)) p20] scope [] [] f fd)
    (S : FnScope ["great"] ["great"] scope) (hM : 0 < M) (g1 : glB scope "abs" = true) (g2 : glB scope "int" = true) (g3 : visB scope "great" = true) (m1 : mg "abs" = none) (m2 : mg "int" = none) :
    FnOk P w K mg base (L2.CX P w) 1 f fd ["great"] (spBox M) := by
  refine F.ok S (fun vs H Q E h => by obtain ⟨g, rfl, _⟩ := h; rfl) fun cdv A outer s H vs Q E hr h => ?_
  obtain ⟨g, rfl, q⟩ := h
  let X : Cx := cxOf (L2.CX P w) P w K mg base ["great"] qual scope f cdv A outer s H E
  have hK : (cb0 K).K = X.K := rfl
  have gA : Gl X "abs" := (gl_ok (X := X) rfl g1).1
  have gI : Gl X "int" := (gl_ok (X := X) rfl g2).1
  obtain ⟨w1, w2, w3⟩ := vis_ok g3
  have pv : ∀ {p}, PE X (.Name "great" p) (tVar 0) := fun {p} => pe_var rfl w1 w2 w3
  have pabs : ∀ {p p' p''}, PE X (.Call (.Name "abs" p) [.Name "great" p'] [] p'') (tCB (rDs (cb0 K) (bltD .abs)) (tCons (tVar 0) tNil)) := fun {p p' p''} => pe_callB (call_blt .abs (cb0 K) hK rfl) gA m1 (boot_blt .abs rfl) (pa_cons pv pa_nil)
  refine ⟨_, pss_one (ps_ret (pe_lst (pa_cons pabs (pa_cons (pe_cmpR (op_cp .ge (cb0 K) hK hr.units) pabs (pe_op (op_bin .pow (cb0 K) hK) pe_int pe_int) (nomark _)) (pa_cons (pe_op (op_bin .mod (cb0 K) hK) (pe_callTy (call_blt .int (cb0 K) hK rfl) gI m2 (boot_blt .int rfl) (pa_cons pabs pa_nil)) pe_int) (pa_cons pe_int pa_nil)))))), ?_⟩
  have ab : ∀ {H : Hp} {Q : VK}, (∀ H', Same H H' → Q (.int (if g < 0 then -g else g)) H') → tCB (rDs (cb0 K) (bltD .abs)) (tCons (tVar 0) tNil) (start ["great"] [.int g]) H Q := fun {H Q} q =>
    ⟨.int g, rfl, rd1 (.int g) rfl fun v H' sm r => by cases r; exact q H' sm⟩
  refine ab fun H1 s1 => ?_
  refine ab fun H2 s2 => ?_
  refine rd2 (.int 10) (.int 18) (f := binD .pow) (g := .int (10 ^ 18)) rfl fun v H3 s3 r3 => ?_
  cases r3
  refine ⟨fun _ => False, .int _, .int _, _, .inl (.int _), .inl (.int _), rfl, ?_⟩
  refine ab fun H4 s4 => rd1 (.int _) rfl fun v H5 s5 r5 => ?_
  cases r5
  refine rd2 (.int _) (.int M) (f := binD .mod) (g := .int ((if g < 0 then -g else g).fmod M)) (if_neg (by omega)) fun v H6 s6 r6 => ?_
  cases r6
  have ss : Same H H6 := same_tr s1 (same_tr s2 (same_tr s3 (same_tr s4 (same_tr s5 s6))))
  have a0 : 0 ≤ (if g < 0 then -g else g) := by split <;> omega
  refine ⟨by show 4 ≤ sizeLine; rw [sizeLine_eq]; omega, fun p np => ?_⟩
  have em : (if g < 0 then -g else g).fmod M = (if g < 0 then -g else g) % M := Int.fmod_eq_emod_of_nonneg _ (by omega)
  refine q p _ ⟨if g < 0 then -g else g, decide ((10 : Int) ^ 18 ≤ if g < 0 then -g else g), (if g < 0 then -g else g).fmod M, 0⟩ ⟨rfl, a0, rfl, ?_, ?_⟩ (same_no ss np) (same_tr ss (same_new np)) upd_same
  · rw [em]; exact Int.emod_nonneg _ (by omega)
  · rw [em]; exact Int.emod_lt_of_pos _ hM
/-- the cell -/
theorem cell_ok {nm qual : Str} {params : Arguments} {scope : Scope} {f : Addr} {fd : FuncData} {p1 p2 p3 p4 p5 p6 p7 p8 p9 p10 p11 p12 p13 p14 p15 p16 p17 p18 p19 p20 p21 p22 p23 p24 : Pos} {A0 B0 : Int} {j1 j2 j3 : Nat}
    (F : FunD K nm qual params [.Return (some (.IfExp (.Compare (.Name "k" p1) [.Lt] [.Call (.Name "len" p2) [.Name "script" p3] [] p4] p5) (.Subscript (.Name "script" p6) (.Name "k" p7) p8)
      (.BinOp (.BinOp (.Constant (.int A0) j1 p9) .Mult (.Name "k" p10) p11) .Add (.BinOp (.Call (.Name "int" p12) [.Call (.Name "sum" p13) [.Subscript (.Name "script" p14) (.Slice none (some (.Constant (.int 1) j2 p15)) none p16) p17] [] p18] [] p19) .Mod (.Constant (.int B0) j3 p20) p21) p22) p23)) p24] scope [] [] f fd)
    (S : FnScope ["script", "k"] ["script", "k"] scope) (hA : A0.natAbs.log2 < 900000) (hB : B0 ≠ 0) (g1 : glB scope "len" = true) (g2 : glB scope "int" = true) (g3 : glB scope "sum" = true) (g4 : visB scope "script" = true) (g5 : visB scope "k" = true) (m1 : mg "len" = none) (m2 : mg "int" = none) (m3 : mg "sum" = none) :
    FnOk P w K mg base (L2.CX P w) 1 f fd ["script", "k"] (spCell K) := by
  refine F.ok S (fun vs H Q E h => by obtain ⟨a, ns, k, rfl, _⟩ := h; rfl) fun cdv A outer s H vs Q E hr h => ?_
  obtain ⟨a, ns, k, rfl, hS, k0, k1, q⟩ := h
  let X : Cx := cxOf (L2.CX P w) P w K mg base ["script", "k"] qual scope f cdv A outer s H E
  have hK : (cb0 K).K = X.K := rfl
  have gL : Gl X "len" := (gl_ok (X := X) rfl g1).1
  have gI : Gl X "int" := (gl_ok (X := X) rfl g2).1
  have gS : Gl X "sum" := (gl_ok (X := X) rfl g3).1
  obtain ⟨w1, w2, w3⟩ := vis_ok g4
  obtain ⟨u1, u2, u3⟩ := vis_ok g5
  have pv : ∀ {p}, PE X (.Name "script" p) (tVar 0) := fun {p} => pe_var rfl w1 w2 w3
  have pk : ∀ {p}, PE X (.Name "k" p) (tVar 1) := fun {p} => pe_var rfl u1 u2 u3
  refine ⟨_, pss_one (ps_ret (pe_ifExp (pt_cmpR (op_cp .lt (cb0 K) hK hr.units) pk (pe_callB call_len gL m1 boot_len (pa_cons pv pa_nil)) (nomark _)) (pe_ix ix_seq pv pk (plainIx rfl))
    (pe_op (op_bin .add (cb0 K) hK) (pe_op (op_bin .mul (cb0 K) hK) pe_int pk) (pe_op (op_bin .mod (cb0 K) hK) (pe_callTy (call_blt .int (cb0 K) hK rfl) gI m2 (boot_blt .int rfl) (pa_cons (pe_callB (call_blt .sum (cb0 K) hK rfl) gS m3 (boot_blt .sum rfl) (pa_cons (pe_slice sl_list pv po_none (po_some pe_int)) pa_nil)) pa_nil)) pe_int)))), ?_⟩
  refine ⟨.int k, rfl, .ref a, rfl, .ref a, (ns.map V.int).length, rfl, .inl ⟨_, hS, rfl⟩, ?_⟩
  refine ⟨fun _ => False, .int k, .int ((ns.map V.int).length : Nat), _, .inl (.int k), .inl (.int _), rfl, _, rfl, ?_⟩
  by_cases hk : k < ((ns.map V.int).length : Nat)
  · rw [decide_eq_true hk]
    dsimp only
    rw [if_pos rfl]
    refine ⟨.ref a, rfl, .int k, rfl, ?_⟩
    have hk' : k.toNat < ns.length := by rw [List.length_map] at hk; omega
    have at_ : atI (ns.map V.int) k = some (.int ns[k.toNat]) := by
      unfold atI
      have : ixN (ns.map V.int).length k = some k.toNat := by
        unfold ixN
        rw [if_pos k0, if_pos hk]
      rw [this]
      simp [hk']
    exact .inl ⟨a, _, k, _, rfl, rfl, hS, at_, q _ H fun _ _ z => z⟩
  · rw [decide_eq_false hk]
    dsimp only
    rw [if_neg Bool.false_ne_true]
    have hm : mulOk A0 k = true := by
      unfold mulOk
      rw [decide_eq_true_eq]
      have : k.natAbs.log2 ≤ 20 := by
        have h1 : k.natAbs ≤ 1000000 := by omega
        have h2 : k.natAbs < 2 ^ 21 := by omega
        by_cases hz : k.natAbs = 0
        · rw [hz]; decide
        · have := (Nat.log2_lt hz).mpr h2
          omega
      omega
    refine ⟨.int k, rfl, rd2 (.int A0) (.int k) (f := binD .mul) (g := .int (A0 * k)) (if_pos hm) fun v H1 s1 r1 => ?_⟩
    cases r1
    refine ⟨.ref a, rfl, 1, rfl, ?_⟩
    refine ⟨a, _, rfl, sql_same s1 hS, fun p np => ?_⟩
    obtain ⟨zs, ez⟩ : ∃ zs : List Int, cutV (ns.map V.int) none (some 1) = zs.map V.int := by
      unfold cutV
      rw [← List.map_drop, ← List.map_take]
      exact ⟨_, rfl⟩
    rw [ez]
    have rz : Rp (cb0 K) (fun _ => False) (L2.upd H1 p (.lst (zs.map V.int))) (.ref p) (.lst (zs.map D.int)) := .lst upd_same (fun z => z) (by simp) fun i v d e1 e2 => by
      rw [List.getElem?_map] at e1 e2
      cases e : zs[i]? with
      | none => rw [e] at e1; cases e1
      | some z => rw [e] at e1 e2; cases e1; cases e2; exact .int z
    have es : ints? (zs.map D.int) = some zs := by
      clear rz ez
      induction zs with
      | nil => rfl
      | cons z zs ih => show (ints? (zs.map D.int)).map _ = _; rw [ih]; rfl
    refine rd1 (d := D.lst (zs.map D.int)) (e := D.int zs.sum) rz (by show (ints? (zs.map D.int)).map _ = _; rw [es]; rfl) fun v H2 s2 r2 => ?_
    cases r2
    refine rd1 (.int _) rfl fun v H3 s3 r3 => ?_
    cases r3
    refine rd2 (.int _) (.int B0) (f := binD .mod) (g := .int (zs.sum.fmod B0)) (if_neg hB) fun v H4 s4 r4 => ?_
    cases r4
    refine rd2 (.int _) (.int _) (f := binD .add) (g := .int (A0 * k + zs.sum.fmod B0)) rfl fun v H5 s5 r5 => ?_
    cases r5
    exact q _ _ (same_tr s1 (same_tr (same_new np) (same_tr s2 (same_tr s3 (same_tr s4 s5)))))
end
end PV

namespace PV
open PySem PySem.Spec PyProof.Rows L2
def spLaw (K : PySem.W.Frag) : Sp := fun vs H Q E => ∃ (a : Addr) (ns : List Int), vs = [.ref a] ∧ SqL K H a (ns.map V.int) ∧ ∀ H', Q (.bl true) H'
def tArg (K : PySem.W.Frag) (m : Int) : TE := fun σ H Q => ∃ (a : Addr) (ns : List Int), σ[0]? = some (some (.ref a)) ∧ SqL K H a (ns.map V.int) ∧ ∀ (i : Int) H', 0 ≤ i → i ≤ m → Same H H' → Q (.int i) H'
/-- the functions' places; beyond them: the script's -/
def faL (l : List Addr) (z : Addr) : Nat → Addr := fun i => l.getD i z
def env0 (n ik ib nf : Nat) (kk : Int) : List Sl := (((List.replicate n Sl.no).set 0 (.v (.fn nf))).set ik (.v (.int kk))).set ib (.v .box)
section
variable {P : Program} {w : World} {K : PySem.W.Frag} {mg : Str → Option Value} {base : Heap} {X : Cx}
/-- a promise that lets nothing out -/
theorem fn_calm {k : Nat} {f : Addr} {fd : FuncData} {ps : List Str} {sp : Sp} (F : FnOk P w K mg base (L2.CX P w) k f fd ps sp) (h : ∀ vs H Q E, sp vs H Q E → sp vs H Q E0) : FnOk P w K mg base CX0 k f fd ps sp :=
  ⟨F.len, fun A outer s H args us vs Q E hr he hb hv hs => codeAny_mono (F.run A outer s H args us vs Q E0 hr he hb hv (h _ _ _ _ hs)) fun r s' q => by
    cases r with
    | ok fl => cases fl <;> exact q
    | error e =>
      obtain ⟨_, _, _, _, _, _, _, _, _, _, _, _, z⟩ := q
      exact z.elim⟩
theorem sr_plain {c : Cn} {σ : Sg} {env : List Sl} {b : Bx} (hl : σ.length = env.length) (h1 : c.W0 c.bx) (h2 : Hold c.W0 c.H0) (h3 : c.H0 c.bx = some (boxHO b))
    (h : ∀ (i : Nat) (y : Sl), env[i]? = some y → y = Sl.no ∨ ∃ (d : D) (u : V), y = Sl.v d ∧ σ[i]? = some (some u) ∧ Rp c.toCb c.W0 c.H0 u d) : SR c σ c.H0 ⟨env, b⟩ ∧ ∀ a, Wn c σ env a → c.W0 a := by
  have no : ∀ (i : Nat) (xs : List D), env[i]? ≠ some (.own xs) := fun i xs z => by
    rcases h i _ z with z | ⟨d, u, z, _⟩ <;> cases z
  have wn : ∀ a, Wn c σ env a → c.W0 a := fun a h => by
    rcases h with h | ⟨i, xs, e, _⟩
    · exact h
    · exact (no i xs e).elim
  refine ⟨⟨.refl, hl, fun i y e => ?_, fun i j xs ys a e => (no i xs e).elim, h3, h2, h1⟩, wn⟩
  rcases h i y e with rfl | ⟨d, u, rfl, e2, r⟩
  · trivial
  · exact ⟨u, e2, r.to fun q o e n => ⟨e, fun z => n (wn q z)⟩⟩
theorem arg_max {p1 p2 p3 p4 p5 p6 p7 p8 p9 : Pos} {lo hi : Int} {j1 j2 : Nat} {scope : Scope} (hsc : X.env.scope = scope) (hN : X.N[0]? = some ("script" : Str)) (hc : X.calm = true) (g1 : glB scope "max" = true) (g2 : glB scope "min" = true) (g3 : glB scope "len" = true) (g4 : visB scope "script" = true) (m1 : X.mg "max" = none) (m2 : X.mg "min" = none) (m3 : X.mg "len" = none) (hlo : 0 ≤ lo) :
    PE X (.Call (.Name "max" p1) [.Constant (.int lo) j1 p2, .Call (.Name "min" p3) [.Constant (.int hi) j2 p4, .Call (.Name "len" p5) [.Name "script" p6] [] p7] [] p8] [] p9) (tArg X.K (max lo hi)) := by
  have hK : (cb0 X.K).K = X.K := rfl
  obtain ⟨w1, w2, w3⟩ := vis_ok g4
  have pv : ∀ {p}, PE X (.Name "script" p) (tVar 0) := fun {p} => pe_var hN (by rw [hsc]; exact w1) w2 w3
  refine PEi (pe_callB (call_blt .max2 (cb0 X.K) hK hc) (gl_ok hsc g1).1 m1 (boot_blt .max2 rfl) (pa_cons pe_int (pa_cons (pe_callB (call_blt .min2 (cb0 X.K) hK hc) (gl_ok hsc g2).1 m2 (boot_blt .min2 rfl) (pa_cons pe_int (pa_cons (pe_callB call_len (gl_ok hsc g3).1 m3 boot_len (pa_cons pv pa_nil)) pa_nil))) pa_nil))) fun σ H Q ⟨a, ns, e, hS, q⟩ => ?_
  have two : ∀ {f : List D → Option D} {i j m : Int} {H : Hp} {Q : VK}, f [.int i, .int j] = some (.int m) → (∀ H', Same H H' → Q (.int m) H') → rDs (cb0 X.K) f [.int i, .int j] H Q := fun {f i j m H Q} h q =>
    ⟨fun _ => False, [.int i, .int j], _, hold0, ⟨rfl, fun n v d e1 e2 => by
      match n, e1, e2 with
      | 0, e1, e2 => cases e1; cases e2; exact .inl (.int i)
      | 1, e1, e2 => cases e1; cases e2; exact .inl (.int j)
      | n + 2, e1, e2 => simp at e1⟩, h, fun v H' s r => by cases r; exact q H' s⟩
  refine ⟨.ref a, e, .ref a, (ns.map V.int).length, rfl, .inl ⟨_, hS, rfl⟩, ?_⟩
  refine two (f := bltD .min2) rfl fun H1 s1 => two (f := bltD .max2) rfl fun H2 s2 => q _ _ ?_ ?_ (same_tr s1 s2)
  · split <;> split <;> omega
  · split <;> split <;> omega
theorem arg_int {p1 : Pos} {i : Int} {j1 : Nat} (h : 0 ≤ i) : PE X (.Constant (.int i) j1 p1) (tArg X.K i) := PEi pe_int fun σ H Q ⟨a, ns, e, hS, q⟩ => q i H h (Int.le_refl _) fun _ _ z => z
theorem law_ok {x : Ex} {G : Gd} {con : Nat → D} {l : List Addr} {fdl : Nat → FuncData} {defs : List Df} {fw kl : Nat} {nm qual : Str} {params : Arguments} {scope : Scope} {f fc fb : Addr} {fd fdc fdb : FuncData} {N : List Str} {ik ib : Nat} {M m : Int} {ps : PSts} {rest : List Stmt} {arg : Expr}
    {p1 p2 p3 p4 p5 p6 p7 p8 p9 p10 p11 p12 p13 p14 : Pos} {j1 : Nat}
    (L : ∀ z, Lib P w K mg base x G con (faL l z) fdl defs)
    (F : FunD K nm qual params [.For (.Name "k" p1) (.Call (.Name "range" p2) [arg] [] p3) (.Assign [.Name "box" p4] (.Call (.Name "_law_box" p5) [.Call (.Name "_law_cell" p6) [.Name "script" p7, .Name "k" p8] [] p9] [] p10) p11 :: rest) [] p12, .Return (some (.Constant (.bool true) j1 p13)) p14] scope [] [] f fd)
    (S : FnScope N ["script"] scope) (h0 : slotB N 0 "script" = true) (h1 : slotB N ik "k" = true) (h2 : slotB N ib "box" = true) (i0 : ik ≠ 0) (i1 : ib ≠ 0) (i2 : ib ≠ ik) (v0 : visB scope "script" = true) (v1 : visB scope "k" = true) (l1 : locB scope "k" = true) (l2 : locB scope "box" = true)
    (gr : glB scope "range" = true) (gc : glB scope "_law_cell" = true) (gb : glB scope "_law_box" = true) (mr : mg "range" = none) (mc : mg "_law_cell" = some (.ref fc)) (mb : mg "_law_box" = some (.ref fb)) (kc : PySem.W.keepIn K (.ref fc) = true) (kb : PySem.W.keepIn K (.ref fb) = true)
    (bc : Binds K fdc ["script", "k"] []) (bb : Binds K fdb ["great"] []) (Fc : FnOk P w K mg base (L2.CX P w) 1 fc fdc ["script", "k"] (spCell K)) (Fb : FnOk P w K mg base (L2.CX P w) 1 fb fdb ["great"] (spBox M))
    (hs : starred arg = false) (ha : ∀ X : Cx, X.K = K → X.mg = mg → X.env.scope = scope → X.N = N → X.calm = true → PE X arg (tArg K m)) (hm1 : m ≤ 1000) (hkl : 2 ≤ kl)
    (hm : mSs G N scope ps rest = true)
    (hr : ∀ (kk : Int) (b : Bx), 0 ≤ kk → kk < m → BxOk M b → ∃ s', evalSs (evF defs con fw kl) con fw ps ⟨env0 N.length ik ib l.length kk, b⟩ = .next s' ∧ s'.env[0]? = some (.v (.fn l.length)) ∧ s'.env.length = N.length) :
    FnOk P w K mg base (L2.CX P w) (kl + 1) f fd ["script"] (spLaw K) := by
  refine F.ok S (fun vs H Q E h => by obtain ⟨a, ns, rfl, _⟩ := h; rfl) fun cdv A outer s H vs Q E hrm h => ?_
  obtain ⟨a, ns, rfl, hS, q⟩ := h
  let X : Cx := cxOf (L2.CX P w) P w K mg base N qual scope f cdv A outer s H E
  have tk : Takes X (fun cls d _ H' => E cls d H') := takes_of rfl rfl rfl rfl
  have Lz := L a
  have hE : Exs x G X := Lz.exs X rfl rfl rfl rfl rfl
  have hX : ∀ c : Cn, c.K = K → c.fa = faL l a → Ctx G (evF defs con fw kl) con N kl c.toCb scope X := fun c c1 c2 => ⟨rfl, S.nd, rfl, rfl, hrm, c1, Lz.free, fun j nm ej => by
    obtain ⟨v, u, m1, m2, m3⟩ := Lz.cons j nm ej
    exact ⟨v, u, m1, m2, fun W H => m3 c.toCb W H c1 c2⟩, Lz.gcd⟩
  have hF : Fns x G (evF defs con fw kl) kl (faL l a) X := ⟨fun j nm ej => ⟨(Lz.fn j nm ej).1, (Lz.fn j nm ej).2.1, fdl j, (Lz.fn j nm ej).2.2, lib_ok Lz kl j, Lz.kw j⟩⟩
  have tp : Tp scope X := ⟨rfl, rfl, S.kind, fun _ => rfl⟩
  have po : PassesOwn (model X.prog X.w) X.A X.env X.xe := passes_of rfl
  let W : WX := fun cls d _ H' => E cls d H'
  let tR : TS := fun D σ H => ∃ (W0 : Addr → Prop) (H0 : Hp) (bx : Addr), TvS x ⟨⟨K, bx, faL l a⟩, W0, H0⟩ W (evalSs (evF defs con fw kl) con fw ps) D σ H
  have pR : PSs X rest tR := ⟨fun pins s σ H D I ⟨W0, H0, bx, q⟩ => (sSs x G (evF defs con fw kl) con N kl fw ps (c := ⟨⟨K, bx, faL l a⟩, W0, H0⟩) hm hkl (hX _ rfl rfl) hF hE tp po tk).run pins s σ H D I q⟩
  obtain ⟨u1, u2, u3⟩ := vis_ok v0
  obtain ⟨w1, w2, w3⟩ := vis_ok v1
  have pv : ∀ {p}, PE X (.Name "script" p) (tVar 0) := fun {p} => pe_var (slot_ix h0) u1 u2 u3
  have pk : ∀ {p}, PE X (.Name "k" p) (tVar ik) := fun {p} => pe_var (slot_ix h1) w1 w2 w3
  have hr1 : Room 1 X.A := Room.mono hrm (by omega)
  have pc : ∀ {p p' p'' p3}, PE X (.Call (.Name "_law_cell" p) [.Name "script" p', .Name "k" p''] [] p3) (tCallS (spCell K) (WE W) (tCons (tVar 0) (tCons (tVar ik) tNil))) := fun {p p' p'' p3} =>
    pe_callS Fc hr1 (gl_ok (X := X) rfl gc).1 mc kc bc (fun σ => passAt tk σ) (pa_cons pv (pa_cons pk pa_nil))
  have pb : ∀ {p p' p'' p3 p4 p5}, PE X (.Call (.Name "_law_box" p4) [.Call (.Name "_law_cell" p) [.Name "script" p', .Name "k" p''] [] p3] [] p5) (tCallS (spBox M) (WE W) (tCons (tCallS (spCell K) (WE W) (tCons (tVar 0) (tCons (tVar ik) tNil))) tNil)) := fun {p p' p'' p3 p4 p5} =>
    pe_callS Fb hr1 (gl_ok (X := X) rfl gb).1 mb kb bb (fun σ => passAt tk σ) (pa_cons pc pa_nil)
  have lc : ∀ {nm : Str}, locB scope nm = true → Loc X.env.scope nm := fun {nm} h => by
    unfold locB at h
    rw [Bool.or_eq_true] at h
    exact h.elim (fun h => .inl (of_decide_eq_true h)) fun h => .inr (of_decide_eq_true h)
  have hst := star_each (e := arg) (es := []) (env := X.env) hs
  refine ⟨_, pss_cons (ps_for po rfl (pi_range1 (gl_ok (X := X) rfl gr).1 mr (pa_cons (ha X rfl rfl rfl rfl rfl) pa_nil hst) (by rw [hst]; rfl)) (pg_name S.nd (slot_ix h1) (lc l1) (.inl rfl)) (pss_cons (ps_set S.nd (slot_ix h2) (lc l2) pb rfl (.inl rfl)) pR) (fun v => not_set rfl v)) (pss_one (ps_ret pe_bl)), ?_⟩
  have n0 : N[0]? = some ("script" : Str) := slot_ix h0
  have nl : 0 < N.length := (List.getElem?_eq_some_iff.mp n0).1
  have nk : ik < N.length := (List.getElem?_eq_some_iff.mp (slot_ix h1)).1
  have nb : ib < N.length := (List.getElem?_eq_some_iff.mp (slot_ix h2)).1
  refine ⟨a, ns, rfl, hS, fun i H1 g1 g2 s1 => ⟨i, rfl, by omega, by omega, for_it walk_range (fun j σ H' => σ.length = N.length ∧ σ[0]? = some (some (.ref a)) ∧ SqL K H' a (ns.map V.int)) ⟨?_, rfl, sql_same s1 hS⟩ (fun _ _ _ _ _ => trivial) ?_ fun σ H' _ => q H'⟩⟩
  · show ([some (V.ref a)] ++ List.replicate (N.length - 1) none).length = N.length
    simp
    omega
  rintro j v σ H2 H3 hj ⟨e1, e2, e3⟩ ⟨rfl, rfl⟩
  have ej : (0 : Int) + (j : Nat) = (j : Int) := Int.zero_add _
  have a0 : (σ.set ik (some (V.int (0 + (j : Nat)))))[0]? = some (some (.ref a)) := by rw [List.getElem?_set_ne i0]; exact e2
  have ak : (σ.set ik (some (V.int (0 + (j : Nat)))))[ik]? = some (some (V.int (0 + (j : Nat)))) := List.getElem?_set_self (by omega)
  refine ⟨_, a0, _, ak, a, ns, 0 + (j : Nat), rfl, e3, by omega, by omega, fun i' H4 s4 => ⟨i', rfl, fun p H5 b bo np s5 ep => ?_⟩⟩
  refine ⟨fun z => z = p, H5, p, ⟨env0 N.length ik ib l.length (0 + (j : Nat)), b⟩, ?_⟩
  have hh : ∀ (i : Nat) (y : Sl), (env0 N.length ik ib l.length (0 + (j : Nat)))[i]? = some y → y = Sl.no ∨ ∃ (d : D) (u : V), y = Sl.v d ∧ ((σ.set ik (some (V.int (0 + (j : Nat))))).set ib (some (.ref p)))[i]? = some (some u) ∧ Rp ⟨K, p, faL l a⟩ (fun z => z = p) H5 u d := by
    intro i y e
    unfold env0 at e
    by_cases c1 : ib = i
    · subst c1
      rw [List.getElem?_set_self (by simp; exact nb)] at e
      cases e
      exact .inr ⟨.box, .ref p, rfl, List.getElem?_set_self (by simp; omega), .box⟩
    · rw [List.getElem?_set_ne c1] at e
      rw [List.getElem?_set_ne c1]
      by_cases c2 : ik = i
      · subst c2
        rw [List.getElem?_set_self (by simp; exact nk)] at e
        cases e
        exact .inr ⟨_, _, rfl, ak, .int _⟩
      · rw [List.getElem?_set_ne c2] at e
        rw [List.getElem?_set_ne c2]
        by_cases c3 : 0 = i
        · subst c3
          rw [List.getElem?_set_self (by simp; exact nl)] at e
          cases e
          refine .inr ⟨_, .ref a, rfl, e2, ?_⟩
          have : faL l a l.length = a := by
            unfold faL
            rw [List.getD_eq_getElem?_getD, List.getElem?_eq_none (Nat.le_refl _)]
            rfl
          have z : Rp ⟨K, p, faL l a⟩ (fun z => z = p) H5 (.ref (faL l a l.length)) (.fn l.length) := .fn (c := ⟨K, p, faL l a⟩) l.length
          rw [this] at z
          exact z
        · rw [List.getElem?_set_ne c3] at e
          have m := List.mem_of_getElem? e
          exact .inl (List.mem_replicate.mp m).2
  obtain ⟨sr, wn⟩ := sr_plain (c := ⟨⟨K, p, faL l a⟩, fun z => z = p, H5⟩) (σ := (σ.set ik (some (V.int (0 + (j : Nat))))).set ib (some (.ref p))) (env := env0 N.length ik ib l.length (0 + (j : Nat))) (b := b) (by simp [env0, e1]) rfl (fun z hz => by have hz : z = p := hz; subst hz; exact ⟨_, ep⟩) ep hh
  · refine ⟨sr, ?_⟩
    obtain ⟨s', es, es0, esl⟩ := hr (0 + (j : Nat)) b (by omega) (by omega) bo
    rw [es]
    intro σ' H' a' m'
    obtain ⟨u, eu, ru⟩ := a'.env 0 _ es0
    refine ⟨a'.len.trans esl, ?_, ?_⟩
    · rw [eu]
      cases ru
      show some (some (V.ref (faL l a l.length))) = _
      unfold faL
      rw [List.getD_eq_getElem?_getD, List.getElem?_eq_none (Nat.le_refl _)]
      rfl
    · have nap : ∀ {o : HO}, H3 a = some o → a ≠ p := fun {o} e z => by
        have := s4 _ _ e
        rw [z, np] at this
        cases this
      rcases e3 with (h | ⟨o, h⟩) | h
      · exact .inl (.inl (m'.kp a _ (s5 _ _ (s4 _ _ h)) fun z => nap h (wn a z)))
      · exact .inl (.inr ⟨o, m'.kp a _ (s5 _ _ (s4 _ _ h)) fun z => nap h (wn a z)⟩)
      · exact .inr h
end
end PV

/-! what a head tells, for the evaluator -/
namespace PV
open PySem PySem.Spec PyProof.Rows L2
theorem oexB_ok {K : PySem.W.Frag} {C : Addr} (h : oexB K C = true) : OexC K C := by
  obtain ⟨h, h5⟩ := and2 h
  obtain ⟨h, h4⟩ := and2 h
  obtain ⟨h, h3⟩ := and2 h
  obtain ⟨q, h2⟩ := and2 h
  refine ⟨?_, of_decide_eq_true h2, of_decide_eq_true h3, of_decide_eq_true h4, h5⟩
  split at q
  · rename_i dd cd sl ho
    split at q
    · rename_i C' bm k0 k1 k2 k3 n k5 hm hs
      simp only [Bool.and_eq_true, beq_iff_eq, Bool.not_eq_true'] at q
      obtain ⟨⟨⟨⟨rfl, rfl⟩, hdel⟩, ht⟩, hdd⟩ := q
      obtain ⟨nm, bs, mro, ns, qn, hd, sn, sub, ab, col, del⟩ := cd
      dsimp only at hm hdel hdd
      subst hm hdel hdd
      have hsl : sl = #[k0, k1, k2, k3, some (.builtin "ValueError.__new__"), k5] := by
        obtain ⟨l⟩ := sl
        simp only at hs
        rw [hs]
      subst hsl
      exact ⟨nm, qn, ns, bs, bm, sn, sub, ab, col, dd, k0, k1, k2, k3, k5, ho, ht⟩
    · cases q
  · cases q
/-- a base of all -/
theorem clsB_ok {K : PySem.W.Frag} {x : Str} {flds : List Str} (h : clsB K x flds = true) : OexC K (He.ga K x) ∧ XfC K (He.ga K x) ∧ (∀ f ∈ flds, PySem.W.findIn K (.ref (He.ga K x)) f = some none) ∧ PySem.W.findIn K (.ref (He.ga K x)) "__init__" = some (some (.ref (He.ma K (He.ga K x) "__init__"))) ∧
    PySem.W.typeIn K (.ref (He.ma K (He.ga K x) "__init__")) = some (.type "function") := by
  obtain ⟨h, h5⟩ := and2 h
  obtain ⟨h, h4⟩ := and2 h
  obtain ⟨h, h3⟩ := and2 h
  obtain ⟨h1, h2⟩ := and2 h
  exact ⟨oexB_ok h1, xfB_ok h2, fun f hf => of_decide_eq_true (List.all_eq_true.mp h3 f hf), of_decide_eq_true h4, of_decide_eq_true h5⟩
theorem exmB_ok {K : PySem.W.Frag} {xs : List Str} (h : exmB K xs = true) {i j : Nat} (hi : i < xs.length) (hj : j < xs.length) : PySem.W.exmOne K (.ref (He.ga K (xs.getD i ""))) (.ref (He.ga K (xs.getD j ""))) = some (decide (i = j)) :=
  of_decide_eq_true (List.all_eq_true.mp (List.all_eq_true.mp h i (List.mem_range.mpr hi)) j (List.mem_range.mpr hj))
section
variable {P : Program} {w : World} {K : PySem.W.Frag} {mg : Str → Option Value} {base : Heap}
/-- __init__(self, f): self.f = f -/
theorem init_ok {nm qual sv av fl : Str} {params : Arguments} {scope : Scope} {f C : Addr} {fd : FuncData} {p1 p2 p3 p4 : Pos}
    (F : FunD K nm qual params [.Assign [.Attribute (.Name sv p1) fl p2] (.Name av p3) p4] scope [] [] f fd) (S : FnScope [sv, av] [sv, av] scope) (v0 : visB scope sv = true) (v1 : visB scope av = true) :
    FnOk P w K mg base (L2.CX P w) 1 f fd [sv, av] (spI K C [fl]) := by
  refine F.ok S (fun vs H Q E h => ?_) fun cdv A outer s H vs Q E hr h => ?_
  · obtain ⟨a, ws, rfl, hl, _⟩ := h
    simp [hl]
  · obtain ⟨a, ws, rfl, hl, ea, T, hf, q⟩ := h
    match ws, hl with
    | [y], _ =>
      obtain ⟨w1, w2, w3⟩ := vis_ok v0
      obtain ⟨u1, u2, u3⟩ := vis_ok v1
      refine ⟨_, pss_one (ps_ost (X := cxOf (L2.CX P w) P w K mg base [sv, av] qual scope f cdv A outer s H E) (to := tVar 0) (te := tVar 1) (pe_var rfl w1 w2 w3) (pe_var rfl u1 u2 u3) rfl), ?_⟩
      refine ⟨y, rfl, .ref a, rfl, a, C, rfl, T, hf fl List.mem_cons_self, .inl ⟨ea, fun dx nd ne => ?_⟩⟩
      exact q dx nd ne
theorem KB.of {nm qual : Str} {params : Arguments} {body : List Stmt} {scope : Scope} {f : Addr} {fd : FuncData} {ps ks : List Str} {perm : List Nat} (F : FunD K nm qual params body scope [] [] f fd)
    (h : ∀ (kV doc pm : Value) (an : Option Addr) (cdv ct : Value) (ws : List Value), ws.length = ks.length → bindArgs (PySem.W.fnOf nm qual params body scope .none kV doc pm an cdv ct) ⟨[], ks.zip ws⟩ = pure (ps.zip (perm.map fun j => ws.getD j .none))) : KB K fd ps ks perm := by
  obtain ⟨oc, od, dV, kV, doc, pm, an, cdv, ct, osl, rfl, lk, hcd, hD, hK⟩ := F.ex
  rcases hD with ⟨_, rfl⟩ | ⟨e, _⟩
  · exact ⟨fun s ws _ hl => .of_eq (h kV doc pm an cdv ct ws hl)⟩
  · exact absurd rfl e
/-- a written tuple of ints -/
theorem con_tup {x : Str} {is : List Int} {b : Cb} {W : Addr → Prop} {H : Hp} (h : He.tupB K x (is.map He.Dv.int) = true) (hb : b.K = K) : Rp b W H (.ref (He.ga K x)) (.tup (is.map D.int)) := by
  have q := He.tupB_ok h (fun _ => none)
  rcases q with (q | ⟨o, q⟩) | ⟨o, its, n, e1, e2, e3, e4, e5⟩
  · cases q
  · cases q
  · refine .tup (vs := (is.map He.Dv.int).map (He.Dv.v K)) (.inr ?_) (by simp) fun i v d e6 e7 => ?_
    · rw [hb]; exact ⟨o, its, n, e1, e2, e3, e4, e5⟩
    · rw [List.getElem?_map, List.getElem?_map] at e6
      rw [List.getElem?_map] at e7
      cases e : is[i]? with
      | none => rw [e] at e7; cases e7
      | some j => rw [e] at e6 e7; cases e6; cases e7; exact .int j
end
end PV

/-! the common small defs: fractions in lowest terms -/
namespace PV
open PySem PySem.Spec
def qD (q : Rat) : D := .tup [.int q.num, .int q.den]
def bLowest : PSts := (.cons (.asg (.name 2) (.blt .gcd (.cons (.slot 0) (.cons (.slot 1) .nil)))) (.cons (.iff (.val (.cmp .lt (.slot 1) (.int 0))) (.cons (.asg (.name 2) (.neg (.slot 2))) .nil) .nil) (.cons (.ret (.tup (.cons (.bin .fdiv (.slot 0) (.slot 2)) (.cons (.bin .fdiv (.slot 1) (.slot 2)) .nil)))) .nil)))
theorem gcd_pos {a b : Int} (hb : b ≠ 0) : 0 < Nat.gcd a.natAbs b.natAbs := Nat.gcd_pos_of_pos_right _ (by omega)
theorem log_le {m n : Nat} (h : m ≤ n) : m.log2 ≤ n.log2 := by
  by_cases hm : m = 0
  · subst hm; simp
  · exact (Nat.le_log2 (by omega)).mpr (Nat.le_trans (Nat.log2_self_le hm) h)
theorem gcd_log {a b : Int} (hb : b ≠ 0) : (Nat.gcd a.natAbs b.natAbs).log2 ≤ b.natAbs.log2 := log_le (Nat.gcd_le_right _ (by omega))
/-- numerator and denominator, lowest -/
def lowC (a b : Int) : Int := if b < 0 then -((Nat.gcd a.natAbs b.natAbs : Nat) : Int) else ((Nat.gcd a.natAbs b.natAbs : Nat) : Int)
theorem gcd_sw (a b : Int) : b.gcd a = Nat.gcd a.natAbs b.natAbs := by rw [Int.gcd_eq_natAbs_gcd_natAbs, Nat.gcd_comm]
theorem low_num {a b : Int} (hb : b ≠ 0) : a.fdiv (lowC a b) = (Rat.divInt a b).num := by
  have gp := gcd_pos (a := a) hb
  rw [Rat.num_divInt, gcd_sw]
  have d1 : ((Nat.gcd a.natAbs b.natAbs : Nat) : Int) ∣ a := Int.ofNat_dvd_left.mpr (Nat.gcd_dvd_left _ _)
  unfold lowC
  generalize Nat.gcd a.natAbs b.natAbs = g at gp d1
  obtain ⟨c, hc⟩ := d1
  subst hc
  split
  · rename_i h
    rw [Int.sign_eq_neg_one_of_neg h]
    have e1 : (g : Int) * c = (-(g : Int)) * (-c) := by rw [Int.neg_mul_neg]
    have e2 : -1 * ((g : Int) * c) = (g : Int) * (-c) := by rw [Int.mul_neg, Int.neg_one_mul]
    rw [e2, Int.mul_ediv_cancel_left _ (by omega), e1, Int.mul_fdiv_cancel_left _ (by omega)]
  · rename_i h
    rw [Int.sign_eq_one_of_pos (by omega), Int.one_mul, Int.fdiv_eq_ediv_of_nonneg _ (by omega)]
theorem low_den {a b : Int} (hb : b ≠ 0) : b.fdiv (lowC a b) = ((Rat.divInt a b).den : Int) := by
  have gp := gcd_pos (a := a) hb
  rw [Rat.den_divInt, if_neg hb, gcd_sw]
  have d1 : ((Nat.gcd a.natAbs b.natAbs : Nat) : Int) ∣ b := Int.ofNat_dvd_left.mpr (Nat.gcd_dvd_right _ _)
  unfold lowC
  generalize Nat.gcd a.natAbs b.natAbs = g at gp d1
  obtain ⟨c, hc⟩ := d1
  subst hc
  rw [Int.natAbs_mul, Int.natAbs_natCast, Nat.mul_div_cancel_left _ gp]
  split
  · rename_i h
    have e1 : (g : Int) * c = (-(g : Int)) * (-c) := by rw [Int.neg_mul_neg]
    rw [e1, Int.mul_fdiv_cancel_left _ (by omega)]
    have : c < 0 := by
      by_cases hc : c < 0
      · exact hc
      · have := Int.mul_nonneg (show (0 : Int) ≤ g by omega) (show 0 ≤ c by omega)
        omega
    omega
  · rename_i h
    rw [Int.mul_fdiv_cancel_left _ (by omega)]
    have : 0 ≤ c := by
      by_cases hc : 0 ≤ c
      · exact hc
      · have := Int.mul_lt_mul_of_pos_left (show c < 0 by omega) (show (0 : Int) < g by omega)
        rw [Int.mul_zero] at this
        omega
    omega
theorem low_ok {a b : Int} (hb : b ≠ 0) (hs : b.natAbs.log2 < 9000) : divOk (lowC a b) = true := by
  have gp := gcd_pos (a := a) hb
  have gl := gcd_log (a := a) hb
  unfold divOk lowC
  split <;> (rw [Bool.and_eq_true, decide_eq_true_eq, decide_eq_true_eq]; refine ⟨by omega, ?_⟩)
  · rw [Int.natAbs_neg, Int.natAbs_natCast]; omega
  · rw [Int.natAbs_natCast]; omega
theorem run_lowest {F : FT} {con : Nat → D} {fw : Nat} {bx : Bx} {a b : Int} (hb : b ≠ 0) (hs : b.natAbs.log2 < 9000) : runF F con fw ⟨2, 3, bLowest⟩ [.int a, .int b] bx = .ok (qD (Rat.divInt a b)) bx := by
  have lo := low_ok (a := a) hb hs
  unfold qD
  rw [← low_num hb, ← low_den (a := a) hb]
  by_cases h : b < 0
  · have e : lowC a b = -((Nat.gcd a.natAbs b.natAbs : Nat) : Int) := if_pos h
    rw [e] at lo ⊢
    simp [runF, bLowest, evalSs, evalS, evalE, evalEs, evalPs, evalT, bindS, bindR, retR, optR, slotE, slotP, pk, asgT, binD, bltD, cpD, intR, truR, truD, h, big, lo]
  · have e : lowC a b = ((Nat.gcd a.natAbs b.natAbs : Nat) : Int) := if_neg h
    rw [e] at lo ⊢
    simp [runF, bLowest, evalSs, evalS, evalE, evalEs, evalPs, evalT, bindS, bindR, retR, optR, slotE, slotP, pk, asgT, binD, bltD, cpD, intR, truR, truD, h, big, lo]
end PV

namespace PV
open PySem PySem.Spec
def bGcdW : PSts := (.cons (.par [(0, false), (1, false)] (.cons (.slot 1) (.cons (.bin .mod (.slot 0) (.slot 1)) .nil))) .nil)
def tGcdW : PTt := (.val (.cmp .ne (.slot 1) (.int 0)))
def bGcd : PSts := (.cons (.par [(0, false), (1, false)] (.cons (.blt .abs (.cons (.slot 0) .nil)) (.cons (.blt .abs (.cons (.slot 1) .nil)) .nil))) (.cons (.whil tGcdW bGcdW) (.cons (.ret (.slot 0)) .nil)))
section
variable {F : FT} {con : Nat → D} {fw : Nat} {bx : Bx}
theorem gcd_turn {a b : Nat} (hb : b ≠ 0) : evalSs F con fw bGcdW ⟨[.v (.int a), .v (.int b)], bx⟩ = .next ⟨[.v (.int b), .v (.int ((a % b : Nat) : Int))], bx⟩ := by
  have e : ((a : Int)).fmod (b : Int) = ((a % b : Nat) : Int) := by rw [Int.fmod_eq_emod_of_nonneg _ (by omega)]; rfl
  simp [bGcdW, evalSs, evalS, evalE, evalEs, bindS, bindR, retR, optR, slotE, slotP, pk, binD, storeL, hb, e]
theorem gcd_test {a b : Nat} : evalT F con tGcdW ⟨[.v (.int a), .v (.int b)], bx⟩ = .ok (decide (b ≠ 0)) ⟨[.v (.int a), .v (.int b)], bx⟩ := by
  by_cases hb : b = 0
  · subst hb
    simp [tGcdW, evalT, evalE, bindR, retR, optR, slotE, slotP, pk, cpD, eqD, truR, truD]
  · simp [tGcdW, evalT, evalE, bindR, retR, optR, slotE, slotP, pk, cpD, eqD, truR, truD, hb]
theorem gcd_loop : ∀ (n : Nat) {a b : Nat}, b < n → loopW (evalT F con tGcdW) (evalSs F con fw bGcdW) n ⟨[.v (.int a), .v (.int b)], bx⟩ = .next ⟨[.v (.int ((Nat.gcd a b : Nat) : Int)), .v (.int 0)], bx⟩
  | 0, a, b, h => absurd h (by omega)
  | n + 1, a, b, h => by
    unfold loopW
    unfold bindS
    rw [gcd_test]
    by_cases hb : b = 0
    · subst hb
      simp
    · simp only [ne_eq, hb, not_false_eq_true, decide_true, if_true]
      rw [gcd_turn hb]
      dsimp only
      have := Nat.mod_lt a (show b > 0 by omega)
      rw [gcd_loop n (a := b) (b := a % b) (by omega), Nat.gcd_comm b, ← Nat.gcd_rec, Nat.gcd_comm]
theorem run_gcd {a b : Int} (h : b.natAbs < fw) : runF F con fw ⟨2, 2, bGcd⟩ [.int a, .int b] bx = .ok (.int ((Nat.gcd a.natAbs b.natAbs : Nat) : Int)) bx := by
  have ab : ∀ i : Int, (if i < 0 then -i else i) = ((i.natAbs : Nat) : Int) := fun i => by split <;> omega
  have e := gcd_loop (F := F) (con := con) (fw := fw) (bx := bx) fw (a := a.natAbs) (b := b.natAbs) h
  simp [runF, bGcd, evalSs, evalS, evalE, evalEs, evalPs, bindS, bindR, retR, optR, slotE, slotP, pk, bltD, storeL, ab, e]
def bLow (g : Nat) : PSts := (.cons (.iff (.val (.cmp .lt (.slot 1) (.int 0))) (.cons (.par [(0, false), (1, false)] (.cons (.neg (.slot 0)) (.cons (.neg (.slot 1)) .nil))) .nil) .nil) (.cons (.asg (.name 2) (.call g (.cons (.slot 0) (.cons (.slot 1) .nil)))) (.cons (.ret (.tup (.cons (.bin .fdiv (.slot 0) (.slot 2)) (.cons (.bin .fdiv (.slot 1) (.slot 2)) .nil)))) .nil)))
theorem run_low {g : Nat} {a b : Int} (hb : b ≠ 0) (hs : b.natAbs.log2 < 9000) (hF : ∀ i j : Int, j.natAbs = b.natAbs → F g [.int i, .int j] bx = .ok (.int ((Nat.gcd i.natAbs j.natAbs : Nat) : Int)) bx) :
    runF F con fw ⟨2, 3, bLow g⟩ [.int a, .int b] bx = .ok (qD (Rat.divInt a b)) bx := by
  unfold qD
  by_cases h : b < 0
  · have lo := low_ok (a := -a) (b := -b) (by omega) (by rw [Int.natAbs_neg]; exact hs)
    have f := hF (-a) (-b) (by omega)
    have e1 : Rat.divInt a b = Rat.divInt (-a) (-b) := (Rat.divInt_eq_divInt_iff hb (by omega)).mpr (by rw [Int.mul_neg, Int.neg_mul])
    rw [e1, ← low_num (by omega), ← low_den (a := -a) (by omega)]
    have e : lowC (-a) (-b) = ((Nat.gcd (-a).natAbs (-b).natAbs : Nat) : Int) := if_neg (by omega)
    rw [e] at lo ⊢
    simp only [Int.natAbs_neg] at lo f ⊢
    simp [runF, bLow, evalSs, evalS, evalE, evalEs, evalPs, evalT, bindS, bindR, retR, optR, slotE, slotP, pk, asgT, binD, bltD, cpD, intR, truR, truD, h, big, lo, callR, f, storeL]
  · have lo := low_ok (a := a) hb hs
    have f := hF a b rfl
    rw [← low_num hb, ← low_den (a := a) hb]
    have e : lowC a b = ((Nat.gcd a.natAbs b.natAbs : Nat) : Int) := if_neg h
    rw [e] at lo ⊢
    simp [runF, bLow, evalSs, evalS, evalE, evalEs, evalPs, evalT, bindS, bindR, retR, optR, slotE, slotP, pk, asgT, binD, bltD, cpD, intR, truR, truD, h, big, lo, callR, f, storeL]
end
end PV

namespace PV
open PySem PySem.Spec
/-- a bound of numerator and denominator -/
def Sz (n : Nat) (q : Rat) : Prop := q.num.natAbs < 2 ^ n ∧ q.den < 2 ^ n
theorem Sz.mono {m n : Nat} {q : Rat} (h : Sz m q) (hl : m ≤ n) : Sz n q := ⟨Nat.lt_of_lt_of_le h.1 (Nat.pow_le_pow_right (by omega) hl), Nat.lt_of_lt_of_le h.2 (Nat.pow_le_pow_right (by omega) hl)⟩
theorem lg {n m : Nat} (h : n < 2 ^ m) (hm : 0 < m) : n.log2 < m := by
  by_cases hz : n = 0
  · subst hz; simpa using hm
  · exact (Nat.log2_lt hz).mpr h
theorem mul_sz {i j : Int} {n m : Nat} (hi : i.natAbs < 2 ^ n) (hj : j.natAbs < 2 ^ m) : (i * j).natAbs < 2 ^ (n + m) := by
  rw [Int.natAbs_mul, Nat.pow_add]
  exact Nat.mul_lt_mul'' hi hj
theorem mulOk_sz {i j : Int} {n m : Nat} (hi : i.natAbs < 2 ^ n) (hj : j.natAbs < 2 ^ m) (h : n + m < 1000000) : mulOk i j = true := by
  unfold mulOk
  rw [decide_eq_true_eq]
  have h1 := lg (Nat.lt_of_lt_of_le hi (Nat.pow_le_pow_right (by omega) (show n ≤ n + 1 by omega))) (by omega)
  by_cases hz : i.natAbs = 0
  · rw [hz]
    have h2 := lg (Nat.lt_of_lt_of_le hj (Nat.pow_le_pow_right (by omega) (show m ≤ m + 1 by omega))) (by omega)
    simp
    omega
  · by_cases hw : j.natAbs = 0
    · rw [hw]; simp; omega
    · have h3 := (Nat.log2_lt hz).mpr hi
      have h4 := (Nat.log2_lt hw).mpr hj
      omega
theorem add_sz {i j : Int} {n : Nat} (hi : i.natAbs < 2 ^ n) (hj : j.natAbs < 2 ^ n) : (i + j).natAbs < 2 ^ (n + 1) := by
  have := Int.natAbs_add_le i j
  rw [Nat.pow_succ]
  omega
theorem den_ne (q : Rat) : (q.den : Int) ≠ 0 := by have := q.den_pos; omega
theorem add_eq (p q : Rat) : p + q = Rat.divInt (p.num * q.den + q.num * p.den) (p.den * q.den) := by
  conv => lhs; rw [← Rat.num_divInt_den p, ← Rat.num_divInt_den q]
  rw [Rat.divInt_add_divInt _ _ (den_ne p) (den_ne q)]
theorem sub_eq (p q : Rat) : p - q = Rat.divInt (p.num * q.den - q.num * p.den) (p.den * q.den) := by
  conv => lhs; rw [← Rat.num_divInt_den p, ← Rat.num_divInt_den q]
  rw [Rat.divInt_sub_divInt _ _ (den_ne p) (den_ne q)]
theorem mul_eq (p q : Rat) : p * q = Rat.divInt (p.num * q.num) (p.den * q.den) := by
  conv => lhs; rw [← Rat.num_divInt_den p, ← Rat.num_divInt_den q]
  rw [Rat.divInt_mul_divInt]
theorem div_eq (p q : Rat) : p / q = Rat.divInt (p.num * q.den) (p.den * q.num) := by
  rw [Rat.div_def, Rat.inv_def]
  conv => lhs; rw [← Rat.num_divInt_den p]
  rw [Rat.divInt_mul_divInt]
theorem divInt_sz {a b : Int} {n : Nat} (hb : b ≠ 0) (ha : a.natAbs < 2 ^ n) (hb2 : b.natAbs < 2 ^ n) : Sz n (Rat.divInt a b) := by
  constructor
  · rw [Rat.num_divInt]
    refine Nat.lt_of_le_of_lt ?_ ha
    have h1 : (b.sign * a).natAbs ≤ a.natAbs := by
      rw [Int.natAbs_mul]
      have : b.sign.natAbs = 1 := Int.natAbs_sign_of_ne_zero hb
      rw [this, Nat.one_mul]
      exact Nat.le_refl _
    have h2 : ((b.sign * a) / ((b.gcd a : Nat) : Int)).natAbs ≤ (b.sign * a).natAbs := by
      exact Int.natAbs_ediv_le_natAbs _ _
    exact Nat.le_trans h2 h1
  · rw [Rat.den_divInt, if_neg hb]
    exact Nat.lt_of_le_of_lt (Nat.div_le_self _ _) hb2
theorem Sz.add {n m : Nat} {p q : Rat} (hp : Sz n p) (hq : Sz m q) : Sz (n + m + 1) (p + q) := by
  rw [add_eq]
  have hd : ((p.den : Int) * q.den) ≠ 0 := Int.mul_ne_zero (den_ne p) (den_ne q)
  refine divInt_sz hd (add_sz (mul_sz hp.1 (by simpa using hq.2)) (by rw [Nat.add_comm n m]; exact mul_sz hq.1 (by simpa using hp.2))) ?_
  exact Nat.lt_of_lt_of_le (mul_sz (i := (p.den : Int)) (j := (q.den : Int)) (by simpa using hp.2) (by simpa using hq.2)) (Nat.pow_le_pow_right (by omega) (by omega))
theorem Sz.neg {n : Nat} {q : Rat} (h : Sz n q) : Sz n (-q) := ⟨by simpa using h.1, by simpa using h.2⟩
theorem Sz.sub {n m : Nat} {p q : Rat} (hp : Sz n p) (hq : Sz m q) : Sz (n + m + 1) (p - q) := by
  rw [Rat.sub_eq_add_neg]; exact hp.add hq.neg
theorem Sz.mul {n m : Nat} {p q : Rat} (hp : Sz n p) (hq : Sz m q) : Sz (n + m) (p * q) := by
  rw [mul_eq]
  exact divInt_sz (Int.mul_ne_zero (den_ne p) (den_ne q)) (mul_sz hp.1 hq.1) (mul_sz (by simpa using hp.2) (by simpa using hq.2))
theorem Sz.div {n m : Nat} {p q : Rat} (hp : Sz n p) (hq : Sz m q) (h0 : q.num ≠ 0) : Sz (n + m) (p / q) := by
  rw [div_eq]
  exact divInt_sz (Int.mul_ne_zero (den_ne p) h0) (mul_sz hp.1 (by simpa using hq.2)) (mul_sz (by simpa using hp.2) hq.1)
end PV

namespace PV
open PySem PySem.Spec
def LowAt (F : FT) (l : Nat) : Prop := ∀ (i j : Int) (bx : Bx), j ≠ 0 → j.natAbs.log2 < 9000 → F l [.int i, .int j] bx = .ok (qD (Rat.divInt i j)) bx
def bAdd (l : Nat) : PSts := (.cons (.ret (.call l (.cons (.bin .add (.bin .mul (.ix (.slot 0) (.int 0)) (.ix (.slot 1) (.int 1))) (.bin .mul (.ix (.slot 1) (.int 0)) (.ix (.slot 0) (.int 1)))) (.cons (.bin .mul (.ix (.slot 0) (.int 1)) (.ix (.slot 1) (.int 1))) .nil)))) .nil)
def bSub (l : Nat) : PSts := (.cons (.ret (.call l (.cons (.bin .sub (.bin .mul (.ix (.slot 0) (.int 0)) (.ix (.slot 1) (.int 1))) (.bin .mul (.ix (.slot 1) (.int 0)) (.ix (.slot 0) (.int 1)))) (.cons (.bin .mul (.ix (.slot 0) (.int 1)) (.ix (.slot 1) (.int 1))) .nil)))) .nil)
def bMul (l : Nat) : PSts := (.cons (.ret (.call l (.cons (.bin .mul (.ix (.slot 0) (.int 0)) (.ix (.slot 1) (.int 0))) (.cons (.bin .mul (.ix (.slot 0) (.int 1)) (.ix (.slot 1) (.int 1))) .nil)))) .nil)
def bDiv (l : Nat) : PSts := (.cons (.ret (.call l (.cons (.bin .mul (.ix (.slot 0) (.int 0)) (.ix (.slot 1) (.int 1))) (.cons (.bin .mul (.ix (.slot 0) (.int 1)) (.ix (.slot 1) (.int 0))) .nil)))) .nil)
def bBelow : PSts := (.cons (.ret (.cmp .lt (.bin .mul (.ix (.slot 0) (.int 0)) (.ix (.slot 1) (.int 1))) (.bin .mul (.ix (.slot 1) (.int 0)) (.ix (.slot 0) (.int 1))))) .nil)
theorem ix0 (q : Rat) : ixD (qD q) (.int 0) = some (.int q.num) := rfl
theorem ix1 (q : Rat) : ixD (qD q) (.int 1) = some (.int q.den) := rfl
section
variable {F : FT} {con : Nat → D} {fw l : Nat} {bx : Bx} {p q : Rat} {n m : Nat}
theorem dd (q : Rat) {m : Nat} (h : q.den < 2 ^ m) : ((q.den : Nat) : Int).natAbs < 2 ^ m := by simpa using h
theorem run_add (hF : LowAt F l) (hp : Sz n p) (hq : Sz m q) (h : n + m ≤ 8000) : runF F con fw ⟨2, 2, bAdd l⟩ [qD p, qD q] bx = .ok (qD (p + q)) bx := by
  have m1 := mulOk_sz hp.1 (dd q hq.2) (by omega)
  have m2 := mulOk_sz hq.1 (dd p hp.2) (by omega)
  have m3 := mulOk_sz (dd p hp.2) (dd q hq.2) (by omega)
  have lo := hF (p.num * q.den + q.num * p.den) (p.den * q.den) bx (Int.mul_ne_zero (den_ne p) (den_ne q)) (Nat.lt_of_lt_of_le (lg (Nat.lt_of_lt_of_le (mul_sz (dd p hp.2) (dd q hq.2)) (Nat.pow_le_pow_right (by omega) (show n + m ≤ n + m + 1 by omega))) (by omega)) (by omega))
  rw [← add_eq] at lo
  simp [runF, bAdd, evalSs, evalS, evalE, evalEs, bindS, bindR, retR, optR, slotE, slotP, pk, binD, qD, ixD, L2.atI, L2.ixN, m1, m2, m3, callR, lo]
theorem run_sub (hF : LowAt F l) (hp : Sz n p) (hq : Sz m q) (h : n + m ≤ 8000) : runF F con fw ⟨2, 2, bSub l⟩ [qD p, qD q] bx = .ok (qD (p - q)) bx := by
  have m1 := mulOk_sz hp.1 (dd q hq.2) (by omega)
  have m2 := mulOk_sz hq.1 (dd p hp.2) (by omega)
  have m3 := mulOk_sz (dd p hp.2) (dd q hq.2) (by omega)
  have lo := hF (p.num * q.den - q.num * p.den) (p.den * q.den) bx (Int.mul_ne_zero (den_ne p) (den_ne q)) (Nat.lt_of_lt_of_le (lg (Nat.lt_of_lt_of_le (mul_sz (dd p hp.2) (dd q hq.2)) (Nat.pow_le_pow_right (by omega) (show n + m ≤ n + m + 1 by omega))) (by omega)) (by omega))
  rw [← sub_eq] at lo
  simp [runF, bSub, evalSs, evalS, evalE, evalEs, bindS, bindR, retR, optR, slotE, slotP, pk, binD, qD, ixD, L2.atI, L2.ixN, m1, m2, m3, callR, lo]
theorem run_mul (hF : LowAt F l) (hp : Sz n p) (hq : Sz m q) (h : n + m ≤ 8000) : runF F con fw ⟨2, 2, bMul l⟩ [qD p, qD q] bx = .ok (qD (p * q)) bx := by
  have m1 := mulOk_sz hp.1 hq.1 (by omega)
  have m3 := mulOk_sz (dd p hp.2) (dd q hq.2) (by omega)
  have lo := hF (p.num * q.num) (p.den * q.den) bx (Int.mul_ne_zero (den_ne p) (den_ne q)) (Nat.lt_of_lt_of_le (lg (Nat.lt_of_lt_of_le (mul_sz (dd p hp.2) (dd q hq.2)) (Nat.pow_le_pow_right (by omega) (show n + m ≤ n + m + 1 by omega))) (by omega)) (by omega))
  rw [← mul_eq] at lo
  simp [runF, bMul, evalSs, evalS, evalE, evalEs, bindS, bindR, retR, optR, slotE, slotP, pk, binD, qD, ixD, L2.atI, L2.ixN, m1, m3, callR, lo]
theorem run_div (hF : LowAt F l) (hp : Sz n p) (hq : Sz m q) (h : n + m ≤ 8000) (h0 : q.num ≠ 0) : runF F con fw ⟨2, 2, bDiv l⟩ [qD p, qD q] bx = .ok (qD (p / q)) bx := by
  have m1 := mulOk_sz hp.1 (dd q hq.2) (by omega)
  have m3 := mulOk_sz (dd p hp.2) hq.1 (by omega)
  have lo := hF (p.num * q.den) (p.den * q.num) bx (Int.mul_ne_zero (den_ne p) h0) (Nat.lt_of_lt_of_le (lg (Nat.lt_of_lt_of_le (mul_sz (dd p hp.2) hq.1) (Nat.pow_le_pow_right (by omega) (show n + m ≤ n + m + 1 by omega))) (by omega)) (by omega))
  rw [← div_eq] at lo
  simp [runF, bDiv, evalSs, evalS, evalE, evalEs, bindS, bindR, retR, optR, slotE, slotP, pk, binD, qD, ixD, L2.atI, L2.ixN, m1, m3, callR, lo]
theorem run_below (hp : Sz n p) (hq : Sz m q) (h : n + m ≤ 8000) : runF F con fw ⟨2, 2, bBelow⟩ [qD p, qD q] bx = .ok (.bl (decide (p < q))) bx := by
  have m1 := mulOk_sz hp.1 (dd q hq.2) (by omega)
  have m2 := mulOk_sz hq.1 (dd p hp.2) (by omega)
  have e : decide (p < q) = decide (p.num * q.den < q.num * p.den) := decide_eq_decide.mpr (Rat.lt_iff p q)
  rw [e]
  simp [runF, bBelow, evalSs, evalS, evalE, evalEs, bindS, bindR, retR, optR, slotE, slotP, pk, binD, qD, ixD, L2.atI, L2.ixN, m1, m2, cpD]
end
end PV

namespace PV
open PySem PySem.Spec
def AddAt (F : FT) (a : Nat) : Prop := ∀ (p q : Rat) (n m : Nat) (bx : Bx), Sz n p → Sz m q → n + m ≤ 8000 → F a [qD p, qD q] bx = .ok (qD (p + q)) bx
def SubAt (F : FT) (a : Nat) : Prop := ∀ (p q : Rat) (n m : Nat) (bx : Bx), Sz n p → Sz m q → n + m ≤ 8000 → F a [qD p, qD q] bx = .ok (qD (p - q)) bx
def MulAt (F : FT) (a : Nat) : Prop := ∀ (p q : Rat) (n m : Nat) (bx : Bx), Sz n p → Sz m q → n + m ≤ 8000 → F a [qD p, qD q] bx = .ok (qD (p * q)) bx
def DivAt (F : FT) (a : Nat) : Prop := ∀ (p q : Rat) (n m : Nat) (bx : Bx), Sz n p → Sz m q → n + m ≤ 8000 → q.num ≠ 0 → F a [qD p, qD q] bx = .ok (qD (p / q)) bx
def sumQ (acc : Rat) : List Rat → Rat
  | [] => acc
  | q :: qs => sumQ (acc + q) qs
theorem sumQ_eq : ∀ (qs : List Rat) (acc : Rat), sumQ acc qs = acc + sumQ 0 qs
  | [], acc => by simp [sumQ, Rat.add_zero]
  | q :: qs, acc => by
    unfold sumQ
    rw [sumQ_eq qs (acc + q), sumQ_eq qs (0 + q), Rat.zero_add, Rat.add_assoc]
theorem sumQ_sz {n : Nat} : ∀ {qs : List Rat} {acc : Rat} {m : Nat}, (∀ q ∈ qs, Sz n q) → Sz m acc → Sz (m + qs.length * (n + 1)) (sumQ acc qs)
  | [], acc, m, _, h => h.mono (by simp)
  | q :: qs, acc, m, hq, h => by
    unfold sumQ
    have := sumQ_sz (n := n) (qs := qs) (fun r hr => hq r (List.mem_cons_of_mem _ hr)) (h.add (hq q List.mem_cons_self))
    exact this.mono (by rw [List.length_cons, Nat.succ_mul]; omega)
def bSumW (a : Nat) : PSts := (.cons (.asg (.name 1) (.call a (.cons (.slot 1) (.cons (.slot 2) .nil)))) .nil)
def bSum (a : Nat) : PSts := (.cons (.asg (.name 1) (.tup (.cons (.int 0) (.cons (.int 1) .nil)))) (.cons (.for (.name 2) (.seq (.slot 0)) (bSumW a)) (.cons (.ret (.slot 1)) .nil)))
def bTot (a z : Nat) : PSts := (.cons (.asg (.name 1) (.glob z)) (.cons (.for (.name 2) (.seq (.slot 0)) (bSumW a)) (.cons (.ret (.slot 1)) .nil)))
section
variable {F : FT} {con : Nat → D} {fw a : Nat} {bx : Bx}
theorem sum_loop (hF : AddAt F a) {n : Nat} {d : D} : ∀ {qs : List Rat} {acc : Rat} {m : Nat} {y : Sl}, (∀ q ∈ qs, Sz n q) → Sz m acc → m + qs.length * (n + 1) ≤ 7000 → n ≤ 1000 →
    ∃ y', loopF (.name 2) (evalSs F con fw (bSumW a)) (qs.map qD) ⟨[.v d, .v (qD acc), y], bx⟩ = .next ⟨[.v d, .v (qD (sumQ acc qs)), y'], bx⟩
  | [], acc, m, y, _, _, _, _ => ⟨y, rfl⟩
  | q :: qs, acc, m, y, hq, h, hm, hn => by
    have h1 := hq q List.mem_cons_self
    rw [List.length_cons, Nat.succ_mul] at hm
    have e := hF acc q m n bx h h1 (by omega)
    obtain ⟨y', e2⟩ := sum_loop hF (d := d) (qs := qs) (acc := acc + q) (m := m + n + 1) (y := .v (qD q)) (fun r hr => hq r (List.mem_cons_of_mem _ hr)) (h.add h1) (by omega) hn
    refine ⟨y', ?_⟩
    rw [List.map_cons]
    unfold loopF
    simp [asgT]
    have eb : evalSs F con fw (bSumW a) ⟨[.v d, .v (qD acc), .v (qD q)], bx⟩ = .next ⟨[.v d, .v (qD (acc + q)), .v (qD q)], bx⟩ := by
      simp [bSumW, evalSs, evalS, evalE, evalEs, bindS, bindR, retR, slotE, callR, e, asgT]
    rw [eb]
    exact e2
theorem run_sumL (hF : AddAt F a) {n : Nat} {qs : List Rat} (hq : ∀ q ∈ qs, Sz n q) (hm : 1 + qs.length * (n + 1) ≤ 7000) (hn : n ≤ 1000) : runF F con fw ⟨1, 3, bSum a⟩ [.lst (qs.map qD)] bx = .ok (qD (sumQ 0 qs)) bx := by
  obtain ⟨y, e⟩ := sum_loop (con := con) (fw := fw) (bx := bx) hF (d := .lst (qs.map qD)) (acc := 0) (m := 1) (y := .no) hq ⟨by decide, by decide⟩ hm hn
  have e0 : qD 0 = .tup [.int 0, .int 1] := rfl
  rw [e0] at e
  simp [runF, bSum, evalSs, evalS, evalE, evalEs, evalI, bindS, bindR, retR, optR, slotE, asgT, seqD, big, e]
theorem run_totL (hF : AddAt F a) {z : Nat} (hz : con z = .tup [.int 0, .int 1]) {n : Nat} {qs : List Rat} (hq : ∀ q ∈ qs, Sz n q) (hm : 1 + qs.length * (n + 1) ≤ 7000) (hn : n ≤ 1000) : runF F con fw ⟨1, 3, bTot a z⟩ [.lst (qs.map qD)] bx = .ok (qD (sumQ 0 qs)) bx := by
  obtain ⟨y, e⟩ := sum_loop (con := con) (fw := fw) (bx := bx) hF (d := .lst (qs.map qD)) (acc := 0) (m := 1) (y := .no) hq ⟨by decide, by decide⟩ hm hn
  have e0 : qD 0 = .tup [.int 0, .int 1] := rfl
  rw [e0] at e
  simp [runF, bTot, evalSs, evalS, evalE, evalEs, evalI, bindS, bindR, retR, optR, slotE, asgT, seqD, hz, e]
theorem run_totT (hF : AddAt F a) {z : Nat} (hz : con z = .tup [.int 0, .int 1]) {n : Nat} {qs : List Rat} (hq : ∀ q ∈ qs, Sz n q) (hm : 1 + qs.length * (n + 1) ≤ 7000) (hn : n ≤ 1000) : runF F con fw ⟨1, 3, bTot a z⟩ [.tup (qs.map qD)] bx = .ok (qD (sumQ 0 qs)) bx := by
  obtain ⟨y, e⟩ := sum_loop (con := con) (fw := fw) (bx := bx) hF (d := .tup (qs.map qD)) (acc := 0) (m := 1) (y := .no) hq ⟨by decide, by decide⟩ hm hn
  have e0 : qD 0 = .tup [.int 0, .int 1] := rfl
  rw [e0] at e
  simp [runF, bTot, evalSs, evalS, evalE, evalEs, evalI, bindS, bindR, retR, optR, slotE, asgT, seqD, hz, e]
end
end PV

namespace PV
open PySem PySem.Spec
/-- a box on its way: at most m draws by the rest -/
structure BI (m : Nat) (b : Bx) : Prop where
  n0 : 0 ≤ b.n
  r0 : 0 ≤ b.r
  r1 : b.r < 2147483648
  c0 : 0 ≤ b.c
  c1 : b.c ≤ m
theorem BxOk.bi {M : Int} {b : Bx} (h : BxOk M b) (hM : M ≤ 2147483648) : BI 0 b := ⟨h.n, h.r0, Int.lt_of_lt_of_le h.r1 hM, by rw [h.c]; exact Int.le_refl _, by rw [h.c]; exact Int.le_refl _⟩
def bTake (c1 c2 c3 : Int) : PSts := (.cons (.iff (.bop true (.cons (.val (.ix (.slot 0) (.int 1))) (.cons (.val (.cmp .gt (.ix (.slot 0) (.int 0)) (.int 0))) .nil))) (.cons (.asg (.name 3) (.bin .mod (.blt .int (.cons (.ix (.slot 0) (.int 0)) .nil)) (.slot 1))) (.cons (.set 0 (.int 0) (.bin .fdiv (.ix (.slot 0) (.int 0)) (.slot 1))) (.cons (.ret (.slot 3)) .nil))) .nil) (.cons (.set 0 (.int 3) (.bin .add (.ix (.slot 0) (.int 3)) (.int 1))) (.cons (.asg (.name 2) (.bin .mod (.blt .int (.cons (.bin .pow (.bin .add (.bin .add (.ix (.slot 0) (.int 2)) (.bin .mul (.int c1) (.ix (.slot 0) (.int 3)))) (.int c2)) (.int 5)) .nil)) (.int 2147483647))) (.cons (.ret (.bin .mod (.blt .int (.cons (.bin .fdiv (.bin .mod (.blt .int (.cons (.bin .pow (.bin .add (.bin .mul (.slot 2) (.int 48271)) (.bin .mul (.int c3) (.ix (.slot 0) (.int 3)))) (.int 3)) .nil)) (.int 2147483587)) (.int 64)) .nil)) (.slot 1))) .nil))))
section
variable {F : FT} {con : Nat → D} {fw : Nat} {b : Bx} {m : Nat} {c1 c2 c3 many : Int}
theorem small_div {i : Int} (h0 : 1 ≤ i) (h1 : i < 2 ^ 62) : divOk i = true := by
  unfold divOk
  rw [Bool.and_eq_true, decide_eq_true_eq, decide_eq_true_eq]
  refine ⟨by omega, ?_⟩
  have := lg (n := i.natAbs) (m := 62) (by omega) (by omega)
  omega
theorem run_take (hc1 : 0 ≤ c1 ∧ c1 < 2 ^ 28) (hc2 : 0 ≤ c2 ∧ c2 < 2 ^ 28) (hc3 : 0 ≤ c3 ∧ c3 < 2 ^ 28) (hm : 1 ≤ many) (hm2 : many < 2 ^ 62) (h : BI m b) (hmm : m ≤ 1000000000) :
    ∃ (t : Int) (b' : Bx), runF F con fw ⟨2, 4, bTake c1 c2 c3⟩ [.box, .int many] b = .ok (.int t) b' ∧ 0 ≤ t ∧ t < many ∧ BI (m + 1) b' := by
  obtain ⟨bn, bg, br, bc⟩ := b
  obtain ⟨n0, r0, r1, k0, k1⟩ := h
  dsimp only at n0 r0 r1 k0 k1
  have dm := small_div hm hm2
  have m0 : many ≠ 0 := by omega
  have fm : ∀ i : Int, i.fmod many = i % many := fun i => Int.fmod_eq_emod_of_nonneg _ (by omega)
  by_cases hg : bg = true ∧ 0 < bn
  · refine ⟨bn.fmod many, ⟨bn.fdiv many, bg, br, bc⟩, ?_, ?_, ?_, ?_, r0, r1, k0, by show bc ≤ ((m + 1 : Nat) : Int); omega⟩
    · simp [runF, bTake, evalSs, evalS, evalE, evalEs, evalPs, evalT, evalTB, bindS, bindR, retR, optR, slotE, slotP, pk, asgT, binD, bltD, cpD, intR, truR, truD, boxAt, setSl, hg.1, hg.2, dm, m0]
    · rw [fm]; exact Int.emod_nonneg _ m0
    · rw [fm]; exact Int.emod_lt_of_pos _ (by omega)
    · show 0 ≤ bn.fdiv many
      rw [Int.fdiv_eq_ediv_of_nonneg _ (by omega)]
      exact Int.ediv_nonneg n0 (by omega)
  · have kk : 0 ≤ bc + 1 ∧ bc + 1 < 2 ^ 30 := by omega
    generalize ec : bc + 1 = cc at kk
    have cc1 : cc ≤ ((m + 1 : Nat) : Int) := by omega
    have u1 : 0 ≤ c1 * cc ∧ c1 * cc < 2 ^ 58 := ⟨Int.mul_nonneg hc1.1 kk.1, by
      have h0 := Int.mul_nonneg hc1.1 kk.1
      have h1 := mul_sz (i := c1) (j := cc) (n := 28) (m := 30) (by omega) (by omega)
      omega⟩
    have u3 : 0 ≤ c3 * cc ∧ c3 * cc < 2 ^ 58 := ⟨Int.mul_nonneg hc3.1 kk.1, by
      have h0 := Int.mul_nonneg hc3.1 kk.1
      have h1 := mul_sz (i := c3) (j := cc) (n := 28) (m := 30) (by omega) (by omega)
      omega⟩
    have mo1 : mulOk c1 cc = true := mulOk_sz (n := 28) (m := 30) (by omega) (by omega) (by omega)
    have mo3 : mulOk c3 cc = true := mulOk_sz (n := 28) (m := 30) (by omega) (by omega) (by omega)
    have po1 : powOk (br + c1 * cc + c2) 5 = true := by
      unfold powOk
      simp only [Bool.and_eq_true, decide_eq_true_eq]
      omega
    have f1 : (((br + c1 * cc + c2) ^ 5).fmod 2147483647) = (((br + c1 * cc + c2) ^ 5) % 2147483647) := Int.fmod_eq_emod_of_nonneg _ (by omega)
    have x1 : 0 ≤ (((br + c1 * cc + c2) ^ 5).fmod 2147483647) ∧ (((br + c1 * cc + c2) ^ 5).fmod 2147483647) < 2147483647 := by rw [f1]; omega
    generalize em : (((br + c1 * cc + c2) ^ 5).fmod 2147483647) = mx at x1
    have mo2 : mulOk mx 48271 = true := mulOk_sz (n := 31) (m := 16) (by omega) (by omega) (by omega)
    have po2 : powOk (mx * 48271 + c3 * cc) 3 = true := by
      unfold powOk
      simp only [Bool.and_eq_true, decide_eq_true_eq]
      omega
    have d64 : divOk 64 = true := by decide
    refine ⟨((((mx * 48271 + c3 * cc) ^ 3).fmod 2147483587).fdiv 64).fmod many, ⟨bn, bg, br, cc⟩, ?_, ?_, ?_, n0, r0, r1, kk.1, cc1⟩
    · cases bg with
      | true =>
        have hn : ¬ 0 < bn := fun z => hg ⟨rfl, z⟩
        simp [runF, bTake, evalSs, evalS, evalE, evalEs, evalPs, evalT, evalTB, bindS, bindR, retR, optR, slotE, slotP, pk, asgT, binD, bltD, cpD, intR, truR, truD, boxAt, setSl, hn, m0, ec, mo1, po1, em, mo2, mo3, po2, d64]
      | false =>
        simp [runF, bTake, evalSs, evalS, evalE, evalEs, evalPs, evalT, evalTB, bindS, bindR, retR, optR, slotE, slotP, pk, asgT, binD, bltD, cpD, intR, truR, truD, boxAt, setSl, m0, ec, mo1, po1, em, mo2, mo3, po2, d64]
    · rw [fm]; exact Int.emod_nonneg _ m0
    · rw [fm]; exact Int.emod_lt_of_pos _ (by omega)
end
end PV

namespace PV
open PySem PySem.Spec
section
variable {cond : S → R Bool} {elt : S → R D} {j : Nat} {env : List Sl} {b : Bx}
theorem set_no {e e' : List Sl} {j : Nat} {y : Sl} (h : e.set j .no = e'.set j .no) : e.set j y = e'.set j y := by
  have := congrArg (fun l => l.set j y) h
  simpa [List.set_set] using this
/-- a comprehension of which no item is taken -/
theorem compL_none (hj : j < env.length) : ∀ {xs : List D}, (∀ x ∈ xs, cond ⟨env.set j (.v x), b⟩ = .ok false ⟨env.set j (.v x), b⟩) → ∀ {e : List Sl}, e.set j .no = env.set j .no → ∃ e', compL (.name j) cond elt xs ⟨e, b⟩ = .ok [] ⟨e', b⟩ ∧ e'.set j .no = env.set j .no
  | [], _, e, he => ⟨e, rfl, he⟩
  | x :: xs, h, e, he => by
    have hl : e.length = env.length := by have := congrArg List.length he; simpa using this
    have ea : asgT (.name j) x { (⟨e, b⟩ : S) with env := wipeE (PTg.slots (.name j)) e } = some ⟨env.set j (.v x), b⟩ := by
      show (if j < (e.set j .no).length then some (⟨(e.set j .no).set j (.v x), b⟩ : S) else none) = _
      rw [if_pos (by simp [hl, hj]), List.set_set, set_no he]
    have hx := h x List.mem_cons_self
    obtain ⟨e', q1, q2⟩ := compL_none hj (xs := xs) (fun y hy => h y (List.mem_cons_of_mem _ hy)) (e := env.set j (.v x)) (by rw [List.set_set])
    refine ⟨e', ?_, q2⟩
    unfold compL
    rw [ea]
    dsimp only
    unfold bindR noX
    rw [hx]
    exact q1
theorem compR_none (hj : plainAt [j] env = true) {xs : List D} (hl : xs.length ≤ big) (h : ∀ x ∈ xs, cond ⟨env.set j (.v x), b⟩ = .ok false ⟨env.set j (.v x), b⟩) : compR (.name j) cond elt xs ⟨env, b⟩ = .ok (.lst []) ⟨env, b⟩ := by
  have hj' : j < env.length := by
    unfold plainAt at hj
    cases e : env[j]? with
    | none => rw [e] at hj; simp at hj
    | some y => exact (List.getElem?_eq_some_iff.mp e).1
  obtain ⟨e', q1, q2⟩ := compL_none (elt := elt) hj' h (e := env) rfl
  unfold compR
  have hp : (plainAt (PTg.slots (.name j)) (⟨env, b⟩ : S).env && decide (xs.length ≤ big)) = true := by
    rw [Bool.and_eq_true, decide_eq_true_eq]; exact ⟨hj, hl⟩
  rw [if_pos hp, q1]
  dsimp only
  have : backE env (PTg.slots (.name j)) e' = env := by
    show e'.set j (env[j]?.getD .no) = env
    rw [set_no q2, List.getElem?_eq_getElem hj']
    simp
  rw [this]
end
section
variable {F : FT} {con : Nat → D} {fw : Nat} {s s' : S} {t : PTt} {a r : PSts}
/-- an if whose test fails -/
theorem iff_no (h : evalT F con t s = .ok false s') : evalSs F con fw (.cons (.iff t a .nil) r) s = evalSs F con fw r s' := by
  rw [evalSs, evalS]
  unfold bindS
  dsimp only
  rw [h]
  simp [evalSs]
/-- .. holds, and its suite hands back -/
theorem iff_yes {d : D} {b : Bx} (h : evalT F con t s = .ok true s') (h2 : evalSs F con fw a s' = .ret d b) : evalSs F con fw (.cons (.iff t a .nil) r) s = .ret d b := by
  rw [evalSs, evalS]
  unfold bindS
  dsimp only
  rw [h]
  simp [h2]
end
section
variable {F : FT} {con : Nat → D} {fw i : Nat} {b : Bx}
theorem eq_bl (x : Bool) : eqD (.bl x) (.bl x) = some true := by cases x <;> decide +kernel
theorem eq_int (i j : Int) : eqD (.int i) (.int j) = some (decide (i = j)) := rfl
theorem eq_nil : eqD (.lst []) (.lst []) = some true := by decide +kernel
theorem rng_mem {n : Nat} {x : D} (h : x ∈ rangeD 0 (n : Int)) : ∃ k, k < n ∧ x = .int ((k : Nat) : Int) := by
  unfold rangeD at h
  obtain ⟨k, hk, e⟩ := List.mem_map.mp h
  rw [List.mem_range] at hk
  exact ⟨k, by omega, by rw [← e, Int.zero_add]⟩
theorem rng_len {n : Nat} : (rangeD 0 (n : Int)).length = n := by unfold rangeD; simp
theorem at_get {α : Type} {xs : List α} {k : Nat} (h : k < xs.length) : L2.atI xs (k : Int) = some xs[k] := by
  unfold L2.atI L2.ixN
  rw [if_pos (by omega), if_pos (by omega)]
  simp [h]
theorem run_of {par sl : Nat} {body : PSts} {ds : List D} {v : D} {b b' : Bx} (hl : ds.length = par) (h : evalSs F con fw body ⟨ds.map Sl.v ++ List.replicate (sl - par) .no, b⟩ = .ret v b') : runF F con fw ⟨par, sl, body⟩ ds b = .ok v b' := by
  unfold runF
  rw [if_pos hl, h]
theorem bindR_ok {α β : Type} {m : S → R α} {k : α → S → R β} {s s' : S} {a : α} (h : m s = .ok a s') : bindR m k s = k a s' := by
  unfold bindR
  rw [h]
theorem ev_compIf {elt : PX} {g : PTg} {it : PIt} {cd : PTt} : evalE F con (.compIf elt g it cd) = bindR (evalI F con it) fun xs => compR g (evalT F con cd) (evalE F con elt) xs := by rw [evalE]
theorem ev_cmp {o : Cp} {a c : PX} : evalE F con (.cmp o a c) = bindR (pk a (evalE F con a)) fun x => bindR (pk c (evalE F con c)) fun y => bindR (optR (cpD o x y)) fun z => retR (.bl z) := by rw [evalE]
theorem ev_nil {s : S} : evalE F con (.lst .nil) s = .ok (.lst []) s := by
  rw [evalE, evalEs]
  exact (bindR_ok (m := retR []) (s' := s) rfl).trans (by rw [if_pos (show ([] : List D).length ≤ big from Nat.zero_le _)]; rfl)
end
end PV

namespace PV
open PySem PySem.Spec
def cSame (i : Nat) : PTt := (.not (.val (.call i (.cons (.ix (.slot 0) (.slot 3)) (.cons (.ix (.slot 1) (.slot 3)) .nil)))))
def cSameS : PTt := (.val (.cmp .ne (.slLH (.slot 0) (.slot 3) (.bin .add (.slot 3) (.int 1))) (.ix (.slot 1) (.slot 3))))
def tS1 : PTt := (.bop false (.cons (.val (.cmp .is (.slot 1) .non)) (.cons (.val (.isi (.slot 1) .bool)) .nil)))
def aS1 : PSts := (.cons (.ret (.ite (.val (.cmp .is (.slot 1) .non)) (.cmp .is (.slot 0) .non) (.bop true (.cons (.isi (.slot 0) .bool) (.cons (.cmp .eq (.cmp .is (.slot 0) (.bl true)) (.cmp .is (.slot 1) (.bl true))) .nil))))) .nil)
def tS2 : PTt := (.val (.isi (.slot 1) .int))
def aS2 : PSts := (.cons (.ret (.bop true (.cons (.isi (.slot 0) .int) (.cons (.not (.isi (.slot 0) .bool)) (.cons (.cmp .eq (.bin .sub (.blt .int (.cons (.slot 0) .nil)) (.slot 1)) (.int 0)) .nil))))) .nil)
def tS3 : PTt := (.val (.isi (.slot 1) .str))
def aS3 : PSts := (.cons (.asg (.name 2) (.bop true (.cons (.isi (.slot 0) .str) (.cons (.cmp .eq (.blt .len (.cons (.slot 0) .nil)) (.blt .len (.cons (.slot 1) .nil))) .nil)))) (.cons (.ret (.bop true (.cons (.slot 2) (.cons (.cmp .eq (.compIf (.slot 3) (.name 3) (.range1 (.blt .len (.cons (.slot 1) .nil))) cSameS) (.lst .nil)) .nil)))) .nil))
def tS4 : PTt := (.val (.isi (.slot 1) .dict))
def aS4 (i : Nat) : PSts := (.cons (.ret (.bop true (.cons (.isi (.slot 0) .dict) (.cons (.call i (.cons (.items (.slot 0)) (.cons (.items (.slot 1)) .nil))) .nil)))) .nil)
def tS5 : PTt := (.bop false (.cons (.val (.cmp .ne (.isi (.slot 0) .list) (.isi (.slot 1) .list))) (.cons (.val (.cmp .ne (.isi (.slot 0) .tuple) (.isi (.slot 1) .tuple))) .nil)))
def tS6 : PTt := (.bop false (.cons (.not (.val (.isiT (.slot 0) [.list, .tuple]))) (.cons (.val (.cmp .ne (.blt .len (.cons (.slot 0) .nil)) (.blt .len (.cons (.slot 1) .nil)))) .nil)))
def aS5 : PSts := (.cons (.ret (.bl false)) .nil)
def aS7 (i : Nat) : PSts := (.cons (.ret (.cmp .eq (.compIf (.slot 3) (.name 3) (.range1 (.blt .len (.cons (.slot 1) .nil))) (cSame i)) (.lst .nil))) .nil)
def bSame (i : Nat) : PSts := (.cons (.iff tS1 aS1 .nil) (.cons (.iff tS2 aS2 .nil) (.cons (.iff tS3 aS3 .nil) (.cons (.iff tS4 (aS4 i) .nil) (.cons (.iff tS5 aS5 .nil) (.cons (.iff tS6 aS5 .nil) (aS7 i)))))))
section
variable {F : FT} {con : Nat → D} {fw i : Nat} {b : Bx}
theorem same_non : runF F con fw ⟨2, 4, bSame i⟩ [.non, .non] b = .ok (.bl true) b :=
  run_of rfl (iff_yes (s' := ⟨[.v .non, .v .non, .no, .no], b⟩) (by simp [tS1, evalTB, evalT, evalE, bindR, retR, optR, slotE, slotP, pk, cpD, truR, truD, isNonD]) (by simp [aS1, evalSs, evalS, evalE, evalT, bindS, bindR, retR, optR, slotE, slotP, pk, cpD, truR, truD, isNonD]))
theorem same_bl (x : Bool) : runF F con fw ⟨2, 4, bSame i⟩ [.bl x, .bl x] b = .ok (.bl true) b :=
  run_of rfl (iff_yes (s' := ⟨[.v (.bl x), .v (.bl x), .no, .no], b⟩) (by simp [tS1, evalTB, evalT, evalE, bindR, retR, optR, slotE, slotP, pk, cpD, truR, truD, isNonD, isiD]) (by cases x <;> simp [aS1, evalSs, evalS, evalE, evalB, evalT, bindS, bindR, retR, optR, slotE, slotP, pk, cpD, truR, truD, isNonD, isiD, eq_bl]))
theorem same_int (x : Int) : runF F con fw ⟨2, 4, bSame i⟩ [.int x, .int x] b = .ok (.bl true) b := by
  refine run_of rfl ((iff_no (s' := ⟨[.v (.int x), .v (.int x), .no, .no], b⟩) ?_).trans (iff_yes (s' := ⟨[.v (.int x), .v (.int x), .no, .no], b⟩) ?_ ?_))
  · simp [tS1, evalTB, evalT, evalE, bindR, retR, optR, slotE, slotP, pk, cpD, truR, truD, isNonD, isiD]
  · simp [tS2, evalTB, evalT, evalE, bindR, retR, optR, slotE, slotP, pk, cpD, truR, truD, isNonD, isiD]
  · simp [aS2, evalSs, evalS, evalE, evalB, evalEs, evalPs, evalT, bindS, bindR, retR, optR, slotE, slotP, pk, cpD, truR, truD, isNonD, isiD, eq_int, bltD, binD]
theorem seq_tests {d : D} {n : Nat} (hd : (∃ xs : List D, d = .lst xs ∧ xs.length = n) ∨ ∃ xs : List D, d = .tup xs ∧ xs.length = n) : evalSs F con fw (bSame i) ⟨[.v d, .v d, .no, .no], b⟩ = evalSs F con fw (aS7 i) ⟨[.v d, .v d, .no, .no], b⟩ := by
  unfold bSame
  rcases hd with ⟨xs, rfl, _⟩ | ⟨xs, rfl, _⟩
  · have n1 : evalT F con tS1 ⟨[.v (.lst xs), .v (.lst xs), .no, .no], b⟩ = .ok false ⟨[.v (.lst xs), .v (.lst xs), .no, .no], b⟩ := by simp [tS1, evalTB, evalT, evalE, bindR, retR, optR, slotE, slotP, pk, cpD, truR, truD, isNonD, isiD]
    have n2 : evalT F con tS2 ⟨[.v (.lst xs), .v (.lst xs), .no, .no], b⟩ = .ok false ⟨[.v (.lst xs), .v (.lst xs), .no, .no], b⟩ := by simp [tS2, evalTB, evalT, evalE, bindR, retR, optR, slotE, slotP, pk, cpD, truR, truD, isNonD, isiD]
    have n3 : evalT F con tS3 ⟨[.v (.lst xs), .v (.lst xs), .no, .no], b⟩ = .ok false ⟨[.v (.lst xs), .v (.lst xs), .no, .no], b⟩ := by simp [tS3, evalTB, evalT, evalE, bindR, retR, optR, slotE, slotP, pk, cpD, truR, truD, isNonD, isiD]
    have n4 : evalT F con tS4 ⟨[.v (.lst xs), .v (.lst xs), .no, .no], b⟩ = .ok false ⟨[.v (.lst xs), .v (.lst xs), .no, .no], b⟩ := by simp [tS4, evalTB, evalT, evalE, bindR, retR, optR, slotE, slotP, pk, cpD, truR, truD, isNonD, isiD]
    have n5 : evalT F con tS5 ⟨[.v (.lst xs), .v (.lst xs), .no, .no], b⟩ = .ok false ⟨[.v (.lst xs), .v (.lst xs), .no, .no], b⟩ := by simp [tS5, evalTB, evalT, evalE, bindR, retR, optR, slotE, slotP, pk, cpD, truR, truD, isNonD, isiD, eq_bl]
    have n6 : evalT F con tS6 ⟨[.v (.lst xs), .v (.lst xs), .no, .no], b⟩ = .ok false ⟨[.v (.lst xs), .v (.lst xs), .no, .no], b⟩ := by simp [tS6, evalTB, evalT, evalE, evalEs, evalPs, bindR, retR, optR, slotE, slotP, pk, cpD, truR, truD, isNonD, isiD, isiTD, eq_int, bltD]
    rw [iff_no n1, iff_no n2, iff_no n3, iff_no n4, iff_no n5, iff_no n6]
  · have n1 : evalT F con tS1 ⟨[.v (.tup xs), .v (.tup xs), .no, .no], b⟩ = .ok false ⟨[.v (.tup xs), .v (.tup xs), .no, .no], b⟩ := by simp [tS1, evalTB, evalT, evalE, bindR, retR, optR, slotE, slotP, pk, cpD, truR, truD, isNonD, isiD]
    have n2 : evalT F con tS2 ⟨[.v (.tup xs), .v (.tup xs), .no, .no], b⟩ = .ok false ⟨[.v (.tup xs), .v (.tup xs), .no, .no], b⟩ := by simp [tS2, evalTB, evalT, evalE, bindR, retR, optR, slotE, slotP, pk, cpD, truR, truD, isNonD, isiD]
    have n3 : evalT F con tS3 ⟨[.v (.tup xs), .v (.tup xs), .no, .no], b⟩ = .ok false ⟨[.v (.tup xs), .v (.tup xs), .no, .no], b⟩ := by simp [tS3, evalTB, evalT, evalE, bindR, retR, optR, slotE, slotP, pk, cpD, truR, truD, isNonD, isiD]
    have n4 : evalT F con tS4 ⟨[.v (.tup xs), .v (.tup xs), .no, .no], b⟩ = .ok false ⟨[.v (.tup xs), .v (.tup xs), .no, .no], b⟩ := by simp [tS4, evalTB, evalT, evalE, bindR, retR, optR, slotE, slotP, pk, cpD, truR, truD, isNonD, isiD]
    have n5 : evalT F con tS5 ⟨[.v (.tup xs), .v (.tup xs), .no, .no], b⟩ = .ok false ⟨[.v (.tup xs), .v (.tup xs), .no, .no], b⟩ := by simp [tS5, evalTB, evalT, evalE, bindR, retR, optR, slotE, slotP, pk, cpD, truR, truD, isNonD, isiD, eq_bl]
    have n6 : evalT F con tS6 ⟨[.v (.tup xs), .v (.tup xs), .no, .no], b⟩ = .ok false ⟨[.v (.tup xs), .v (.tup xs), .no, .no], b⟩ := by simp [tS6, evalTB, evalT, evalE, evalEs, evalPs, bindR, retR, optR, slotE, slotP, pk, cpD, truR, truD, isNonD, isiD, isiTD, eq_int, bltD]
    rw [iff_no n1, iff_no n2, iff_no n3, iff_no n4, iff_no n5, iff_no n6]
def eS7 (i : Nat) : PX := (.compIf (.slot 3) (.name 3) (.range1 (.blt .len (.cons (.slot 1) .nil))) (cSame i))
theorem t1 {st : S} {ys : List D} (e0 : evalI F con (.range1 (.blt .len (.cons (.slot 1) .nil))) st = .ok ys st) (hc : compR (.name 3) (evalT F con (cSame i)) (evalE F con (.slot 3)) ys st = .ok (.lst []) st) : evalE F con (eS7 i) st = .ok (.lst []) st := by
    unfold eS7
    rw [ev_compIf, bindR_ok e0]
    exact hc
theorem eq_nil2 {st : S} : optR (cpD .eq (.lst []) (.lst [])) st = .ok true st := by
  have : cpD .eq (.lst []) (.lst []) = some true := eq_nil
  rw [this]
  rfl
theorem pk1 {m : S → R D} : pk (eS7 i) m = m := rfl
theorem pk2 {m : S → R D} : pk (.lst .nil) m = m := rfl
def eC7 (i : Nat) : PX := (.cmp .eq (eS7 i) (.lst .nil))
theorem t2 {st : S} (h : evalE F con (eS7 i) st = .ok (.lst []) st) : evalE F con (eC7 i) st = .ok (.bl true) st := by
  unfold eC7
  rw [ev_cmp, pk1, pk2, bindR_ok h, bindR_ok ev_nil, bindR_ok eq_nil2]
  rfl
theorem t3 {st : S} (h : evalE F con (eC7 i) st = .ok (.bl true) st) : evalSs F con fw (.cons (.ret (eC7 i)) .nil) st = .ret (.bl true) st.bx := by
  rw [evalSs, evalS]
  unfold bindS
  dsimp only
  rw [h]
theorem aS7_eq : aS7 i = .cons (.ret (eC7 i)) .nil := rfl
theorem aS7_ok {st : S} {ys : List D} (e0 : evalI F con (.range1 (.blt .len (.cons (.slot 1) .nil))) st = .ok ys st) (hc : compR (.name 3) (evalT F con (cSame i)) (evalE F con (.slot 3)) ys st = .ok (.lst []) st) : evalSs F con fw (aS7 i) st = .ret (.bl true) st.bx := by
  rw [aS7_eq]
  exact t3 (t2 (t1 e0 hc))
theorem ev_range1 {e : PX} : evalI F con (.range1 e) = bindR (evalE F con e) fun d => bindR (intR d) fun i => if rngOk i then retR (rangeD 0 i) else badR := by rw [evalI]
theorem ev_len {env : List Sl} {j : Nat} {xs : List D} (h : env[j]? = some (.v (.lst xs)) ∨ env[j]? = some (.v (.tup xs))) : evalE F con (.blt .len (.cons (.slot j) .nil)) ⟨env, b⟩ = .ok (.int (xs.length : Int)) ⟨env, b⟩ := by
  rcases h with h | h <;> simp [evalE, evalPs, bindR, retR, optR, slotP, pk, bltD, h]
theorem ev_rlen {env : List Sl} {j : Nat} {xs : List D} (h : env[j]? = some (.v (.lst xs)) ∨ env[j]? = some (.v (.tup xs))) (hr : rngOk (xs.length : Int) = true) : evalI F con (.range1 (.blt .len (.cons (.slot j) .nil))) ⟨env, b⟩ = .ok (rangeD 0 (xs.length : Int)) ⟨env, b⟩ := by
  rw [ev_range1, bindR_ok (ev_len h)]
  show bindR (intR (.int (xs.length : Int))) _ _ = _
  rw [bindR_ok (show intR (.int (xs.length : Int)) ⟨env, b⟩ = .ok (xs.length : Int) ⟨env, b⟩ from rfl), if_pos hr]
  rfl
theorem same_lst {xs : List D} (hl : xs.length ≤ big) (hF : ∀ x ∈ xs, F i [x, x] b = .ok (.bl true) b) : runF F con fw ⟨2, 4, bSame i⟩ [.lst xs, .lst xs] b = .ok (.bl true) b := by
  have hr : rngOk (xs.length : Int) = true := by
    have h2 : xs.length ≤ 16000000 := hl
    unfold rngOk
    rw [Bool.and_eq_true, decide_eq_true_eq, decide_eq_true_eq]
    exact ⟨by omega, by omega⟩
  have hc := compR_none (cond := evalT F con (cSame i)) (elt := evalE F con (.slot 3)) (j := 3) (env := [.v (.lst xs), .v (.lst xs), .no, .no]) (b := b) rfl (xs := rangeD 0 (xs.length : Int)) (by rw [rng_len]; exact hl) fun y hy => by
    obtain ⟨k, hk, rfl⟩ := rng_mem hy
    have f := hF xs[k] (List.getElem_mem hk)
    simp [cSame, evalT, evalE, evalEs, bindR, retR, optR, slotE, slotP, pk, ixD, at_get hk, callR, f, truR, truD]
  exact run_of rfl ((seq_tests (.inl ⟨xs, rfl, rfl⟩)).trans (aS7_ok (ev_rlen (.inl rfl) hr) hc))
theorem same_tup {xs : List D} (hl : xs.length ≤ big) (hF : ∀ x ∈ xs, F i [x, x] b = .ok (.bl true) b) : runF F con fw ⟨2, 4, bSame i⟩ [.tup xs, .tup xs] b = .ok (.bl true) b := by
  have hr : rngOk (xs.length : Int) = true := by
    have h2 : xs.length ≤ 16000000 := hl
    unfold rngOk
    rw [Bool.and_eq_true, decide_eq_true_eq, decide_eq_true_eq]
    exact ⟨by omega, by omega⟩
  have hc := compR_none (cond := evalT F con (cSame i)) (elt := evalE F con (.slot 3)) (j := 3) (env := [.v (.tup xs), .v (.tup xs), .no, .no]) (b := b) rfl (xs := rangeD 0 (xs.length : Int)) (by rw [rng_len]; exact hl) fun y hy => by
    obtain ⟨k, hk, rfl⟩ := rng_mem hy
    have f := hF xs[k] (List.getElem_mem hk)
    simp [cSame, evalT, evalE, evalEs, bindR, retR, optR, slotE, slotP, pk, ixD, at_get hk, callR, f, truR, truD]
  exact run_of rfl ((seq_tests (.inr ⟨xs, rfl, rfl⟩)).trans (aS7_ok (ev_rlen (.inr rfl) hr) hc))
end
end PV

namespace PV
open PySem PySem.Spec
/-- the same text -/
def SameT (x : Str) : Prop := ∀ (F : FT) (con : Nat → D) (fw i : Nat) (b : Bx), runF F con fw ⟨2, 4, bSame i⟩ [.str x, .str x] b = .ok (.bl true) b
theorem st_told : SameT "told" := fun F con fw i b => by kernel_rfl
theorem st_disc : SameT "discounts" := fun F con fw i b => by kernel_rfl
theorem st_num : SameT "number" := fun F con fw i b => by kernel_rfl
theorem st_0 : SameT "0" := fun F con fw i b => by kernel_rfl
theorem st_1 : SameT "1" := fun F con fw i b => by kernel_rfl
/-- plain data of a depth -/
inductive Pl : Nat → D → Prop
  | non {n : Nat} : Pl n .non
  | bl {n : Nat} (x : Bool) : Pl n (.bl x)
  | int {n : Nat} (x : Int) : Pl n (.int x)
  | str {n : Nat} {x : Str} (h : SameT x) : Pl n (.str x)
  | dct {n : Nat} : Pl (n + 1) (.dct [])
  | lst {n : Nat} {xs : List D} (hl : xs.length ≤ big) (h : ∀ x ∈ xs, Pl n x) : Pl (n + 1) (.lst xs)
  | tup {n : Nat} {xs : List D} (hl : xs.length ≤ big) (h : ∀ x ∈ xs, Pl n x) : Pl (n + 1) (.tup xs)
theorem Pl.up : ∀ {n : Nat} {d : D}, Pl n d → Pl (n + 1) d
  | _, _, .non => .non
  | _, _, .bl x => .bl x
  | _, _, .int x => .int x
  | _, _, .str h => .str h
  | _, _, .dct => .dct
  | _, _, .lst hl h => .lst hl fun x hx => (h x hx).up
  | _, _, .tup hl h => .tup hl fun x hx => (h x hx).up
section
variable {F : FT} {con : Nat → D} {fw i : Nat} {b : Bx}
theorem same_dct (hF : F i [.lst [], .lst []] b = .ok (.bl true) b) : runF F con fw ⟨2, 4, bSame i⟩ [.dct [], .dct []] b = .ok (.bl true) b := by
  refine run_of rfl ?_
  have n1 : evalT F con tS1 ⟨[.v (.dct []), .v (.dct []), .no, .no], b⟩ = .ok false ⟨[.v (.dct []), .v (.dct []), .no, .no], b⟩ := by simp [tS1, evalTB, evalT, evalE, bindR, retR, optR, slotE, slotP, pk, cpD, truR, truD, isNonD, isiD]
  have n2 : evalT F con tS2 ⟨[.v (.dct []), .v (.dct []), .no, .no], b⟩ = .ok false ⟨[.v (.dct []), .v (.dct []), .no, .no], b⟩ := by simp [tS2, evalTB, evalT, evalE, bindR, retR, optR, slotE, slotP, pk, cpD, truR, truD, isNonD, isiD]
  have n3 : evalT F con tS3 ⟨[.v (.dct []), .v (.dct []), .no, .no], b⟩ = .ok false ⟨[.v (.dct []), .v (.dct []), .no, .no], b⟩ := by simp [tS3, evalTB, evalT, evalE, bindR, retR, optR, slotE, slotP, pk, cpD, truR, truD, isNonD, isiD]
  have n4 : evalT F con tS4 ⟨[.v (.dct []), .v (.dct []), .no, .no], b⟩ = .ok true ⟨[.v (.dct []), .v (.dct []), .no, .no], b⟩ := by simp [tS4, evalTB, evalT, evalE, bindR, retR, optR, slotE, slotP, pk, cpD, truR, truD, isNonD, isiD]
  have a4 : evalSs F con fw (aS4 i) ⟨[.v (.dct []), .v (.dct []), .no, .no], b⟩ = .ret (.bl true) b := by simp [aS4, evalSs, evalS, evalB, evalE, evalEs, bindS, bindR, retR, optR, slotE, slotP, pk, truR, truD, isiD, callR, hF]
  unfold bSame
  show evalSs F con fw _ ⟨[.v (.dct []), .v (.dct []), .no, .no], b⟩ = _
  rw [iff_no n1, iff_no n2, iff_no n3, iff_yes n4 a4]
/-- .. where the next depth's data are -/
theorem same_step {n : Nat} {d : D} (h : Pl n d) (hF : ∀ m e, n = m + 1 → Pl m e → F i [e, e] b = .ok (.bl true) b) (hF2 : ∀ m, n = m + 1 → d = .dct [] → F i [.lst [], .lst []] b = .ok (.bl true) b) : runF F con fw ⟨2, 4, bSame i⟩ [d, d] b = .ok (.bl true) b := by
  cases h with
  | non => exact same_non
  | bl x => exact same_bl x
  | int x => exact same_int x
  | str h => exact h _ _ _ _ _
  | dct => exact same_dct (hF2 _ rfl rfl)
  | lst hl h => exact same_lst hl fun x hx => hF _ x rfl (h x hx)
  | tup hl h => exact same_tup hl fun x hx => hF _ x rfl (h x hx)
end
/-- all depths -/
theorem same_all {defs : List Df} {con : Nat → D} {fw i : Nat} (hd : defs[i]? = some ⟨2, 4, bSame i⟩) : ∀ (n k : Nat) (d : D) (b : Bx), Pl n d → evF defs con fw (n + k + 4) i [d, d] b = .ok (.bl true) b := by
  have ev : ∀ (k : Nat) (ds : List D) (b : Bx), evF defs con fw (k + 3) i ds b = runF (evF defs con fw (k + 2)) con fw ⟨2, 4, bSame i⟩ ds b := fun k ds b => by
    show (if k + 2 < 2 then RF.bad else match defs[i]? with | some d => runF (evF defs con fw (k + 2)) con fw d ds b | none => .bad) = _
    rw [if_neg (by omega), hd]
  intro n
  induction n with
  | zero =>
    intro k d b h
    rw [show 0 + k + 4 = (0 + k + 1) + 3 from rfl, ev]
    exact same_step h (fun m e hm => by omega) (fun m hm => by omega)
  | succ n ih =>
    intro k d b h
    rw [show n + 1 + k + 4 = (n + 1 + k + 1) + 3 from rfl, ev]
    refine same_step h (fun m e hm he => ?_) (fun m hm he => ?_)
    · have hm : m = n := by omega
      subst hm
      rw [show m + 1 + k + 1 + 2 = m + k + 4 from by omega]
      exact ih k e b he
    · rw [show n + 1 + k + 1 + 2 = (n + k + 1) + 3 from by omega, ev]
      exact same_lst (Nat.zero_le _) (fun x hx => absurd hx (List.not_mem_nil))
end PV

namespace PV
open PySem PySem.Spec
theorem wipM_len : ∀ {is : List Nat} {e : List Sl}, (wipeE is e).length = e.length
  | [], e => rfl
  | i :: is, e => by unfold wipeE; rw [List.length_set, wipM_len]
theorem wipM_get : ∀ {is : List Nat} {e : List Sl} {k : Nat}, k ∉ is → (wipeE is e)[k]? = e[k]?
  | [], e, k, _ => rfl
  | i :: is, e, k, h => by
    unfold wipeE
    rw [List.getElem?_set_ne (by intro z; exact h (z ▸ List.mem_cons_self))]
    exact wipM_get fun z => h (List.mem_cons_of_mem _ z)
theorem back_len {old : List Sl} : ∀ {is : List Nat} {e : List Sl}, (backE old is e).length = e.length
  | [], e => rfl
  | i :: is, e => by unfold backE; rw [List.length_set, back_len]
theorem back_in {old : List Sl} : ∀ {is : List Nat} {e : List Sl} {k : Nat}, k ∈ is → k < e.length → (backE old is e)[k]? = some (old[k]?.getD .no)
  | i :: is, e, k, h, hk => by
    unfold backE
    by_cases hi : i = k
    · subst hi
      rw [List.getElem?_set_self (by rw [back_len]; exact hk)]
    · rw [List.getElem?_set_ne hi]
      rcases List.mem_cons.mp h with rfl | h
      · exact absurd rfl hi
      · exact back_in h hk
theorem back_out {old : List Sl} : ∀ {is : List Nat} {e : List Sl} {k : Nat}, k ∉ is → (backE old is e)[k]? = e[k]?
  | [], e, k, _ => rfl
  | i :: is, e, k, h => by
    unfold backE
    rw [List.getElem?_set_ne (by intro z; exact h (z ▸ List.mem_cons_self))]
    exact back_out fun z => h (List.mem_cons_of_mem _ z)
theorem back_env {is : List Nat} {env e : List Sl} (h : wipeE is e = wipeE is env) : backE env is e = env := by
  have hl : e.length = env.length := by
    have := congrArg List.length h
    rwa [wipM_len, wipM_len] at this
  apply List.ext_getElem?
  intro k
  by_cases hk : k ∈ is
  · by_cases hlt : k < e.length
    · rw [back_in hk hlt, List.getElem?_eq_getElem (by omega)]
      rfl
    · rw [List.getElem?_eq_none (by rw [back_len]; omega), List.getElem?_eq_none (by omega)]
  · rw [back_out hk, ← wipM_get hk, h, wipM_get hk]
section
variable {t : PTg} {cond : S → R Bool} {elt : S → R D} {env : List Sl}
variable {α : Type} {f g : α → D}
/-- a comprehension whose items each have their own result -/
theorem compL_map {b : Bx} {sx : α → List Sl} : ∀ {xs : List α}, (∀ x ∈ xs, asgT t (f x) ⟨wipeE t.slots env, b⟩ = some ⟨sx x, b⟩ ∧ wipeE t.slots (sx x) = wipeE t.slots env ∧ cond ⟨sx x, b⟩ = .ok true ⟨sx x, b⟩ ∧ elt ⟨sx x, b⟩ = .ok (g x) ⟨sx x, b⟩) → ∀ {e : List Sl}, wipeE t.slots e = wipeE t.slots env → ∃ e', compL t cond elt (xs.map f) ⟨e, b⟩ = .ok (xs.map g) ⟨e', b⟩ ∧ wipeE t.slots e' = wipeE t.slots env
  | [], _, e, he => ⟨e, rfl, he⟩
  | x :: xs, h, e, he => by
    obtain ⟨h1, h2, h3, h4⟩ := h x List.mem_cons_self
    obtain ⟨e', q1, q2⟩ := compL_map (xs := xs) (fun y hy => h y (List.mem_cons_of_mem _ hy)) h2
    refine ⟨e', ?_, q2⟩
    rw [List.map_cons, List.map_cons]
    unfold compL
    rw [show ({ (⟨e, b⟩ : S) with env := wipeE t.slots (⟨e, b⟩ : S).env } : S) = ⟨wipeE t.slots env, b⟩ from by rw [← he], h1]
    simp [bindR, noX, h3, h4, q1, retR]
theorem compR_map {b : Bx} {sx : α → List Sl} {xs : List α} (hp : plainAt t.slots env = true) (hl : xs.length ≤ big) (h : ∀ x ∈ xs, asgT t (f x) ⟨wipeE t.slots env, b⟩ = some ⟨sx x, b⟩ ∧ wipeE t.slots (sx x) = wipeE t.slots env ∧ cond ⟨sx x, b⟩ = .ok true ⟨sx x, b⟩ ∧ elt ⟨sx x, b⟩ = .ok (g x) ⟨sx x, b⟩) : compR t cond elt (xs.map f) ⟨env, b⟩ = .ok (.lst (xs.map g)) ⟨env, b⟩ := by
  obtain ⟨e', q1, q2⟩ := compL_map h (e := env) rfl
  unfold compR
  have hp : (plainAt t.slots (⟨env, b⟩ : S).env && decide ((xs.map f).length ≤ big)) = true := by
    rw [Bool.and_eq_true, decide_eq_true_eq, List.length_map]; exact ⟨hp, hl⟩
  rw [if_pos hp, q1]
  dsimp only
  rw [back_env q2]
/-- .. one name -/
theorem compR_oneA {b : Bx} {j : Nat} {xs : List α} (hp : plainAt [j] env = true) (hl : xs.length ≤ big) (h : ∀ x ∈ xs, elt ⟨env.set j (.v (f x)), b⟩ = .ok (g x) ⟨env.set j (.v (f x)), b⟩) : compR (.name j) (retR true) elt (xs.map f) ⟨env, b⟩ = .ok (.lst (xs.map g)) ⟨env, b⟩ := by
  have hj : j < env.length := by
    unfold plainAt at hp
    cases e : env[j]? with
    | none => rw [e] at hp; simp at hp
    | some y => exact (List.getElem?_eq_some_iff.mp e).1
  refine compR_map (sx := fun x => env.set j (.v (f x))) hp hl fun x hx => ⟨?_, ?_, rfl, h x hx⟩
  · show (if j < (env.set j .no).length then some (⟨(env.set j .no).set j (.v (f x)), b⟩ : S) else none) = _
    rw [if_pos (by simp [hj]), List.set_set]
  · show (env.set j (.v (f x))).set j .no = env.set j .no
    rw [List.set_set]
theorem compR_one {b : Bx} {j : Nat} {g : D → D} {xs : List D} (hp : plainAt [j] env = true) (hl : xs.length ≤ big) (h : ∀ x ∈ xs, elt ⟨env.set j (.v x), b⟩ = .ok (g x) ⟨env.set j (.v x), b⟩) : compR (.name j) (retR true) elt xs ⟨env, b⟩ = .ok (.lst (xs.map g)) ⟨env, b⟩ := by
  have := compR_oneA (f := fun x : D => x) (g := g) hp hl h
  rwa [List.map_id'] at this
/-- .. two names -/
theorem compR_two {b : Bx} {i j : Nat} {xs : List α} {u v : α → D} (hne : i ≠ j) (hp : plainAt [i, j] env = true) (hl : xs.length ≤ big) (h : ∀ x ∈ xs, elt ⟨(env.set i (.v (u x))).set j (.v (v x)), b⟩ = .ok (g x) ⟨(env.set i (.v (u x))).set j (.v (v x)), b⟩) : compR (.tup [i, j]) (retR true) elt (xs.map fun x => .tup [u x, v x]) ⟨env, b⟩ = .ok (.lst (xs.map g)) ⟨env, b⟩ := by
  have hi : i < env.length ∧ j < env.length := by
    unfold plainAt plainAt at hp
    cases e : env[i]? with
    | none => rw [e] at hp; simp at hp
    | some y =>
      cases e2 : env[j]? with
      | none => rw [e, e2] at hp; simp at hp
      | some y2 => exact ⟨(List.getElem?_eq_some_iff.mp e).1, (List.getElem?_eq_some_iff.mp e2).1⟩
  have key : ∀ u v : Sl, (((env.set j .no).set i .no).set i u).set j v = (env.set i u).set j v := fun u v => by
    rw [List.set_set, List.set_comm _ _ hne.symm, List.set_set]
  have key2 : ∀ u v : Sl, (((env.set i u).set j v).set j .no).set i .no = (env.set j .no).set i .no := fun u v => by
    rw [List.set_set, List.set_comm _ _ hne.symm, List.set_set, List.set_comm _ _ hne]
  refine compR_map (sx := fun x => (env.set i (.v (u x))).set j (.v (v x))) hp hl fun x hx => ⟨?_, key2 _ _, rfl, h x hx⟩
  simp [asgT, PTg.slots, wipeE, setAll, hi]
  rw [List.set_comm _ _ hne.symm, List.set_set]
end
end PV

namespace PV
open PySem PySem.Spec
def bIsInt : PSts := (.cons (.ret (.bop true (.cons (.isi (.slot 0) .int) (.cons (.not (.isi (.slot 0) .bool)) .nil)))) .nil)
def bBetw (i : Nat) : PSts := (.cons (.ret (.bop true (.cons (.call i (.cons (.slot 0) .nil)) (.cons (.chain .le .le (.slot 1) (.slot 0) (.slot 2)) .nil)))) .nil)
def bIsTup : PSts := (.cons (.ret (.bop true (.cons (.isi (.slot 0) .tuple) (.cons (.cmp .eq (.blt .len (.cons (.slot 0) .nil)) (.slot 1)) .nil)))) .nil)
def eIF (i : Nat) : PX := (.call i (.cons (.slot 1) .nil))
def eAF (i : Nat) : PX := (.call i (.cons (.slot 2) .nil))
def eAP : PX := (.cmp .gt (.ix (.slot 2) (.int 0)) (.int 0))
def bIsFrac (t i : Nat) : PSts := (.cons (.iff (.bop false (.cons (.not (.val (.call t (.cons (.slot 0) (.cons (.int 2) .nil))))) (.cons (.not (.val (.blt .all (.cons (.comp (eIF i) (.name 1) (.seq (.slot 0))) .nil)))) .nil))) (.cons (.ret (.bl false)) .nil) .nil) (.cons (.ret (.bop true (.cons (.cmp .gt (.ix (.slot 0) (.int 1)) (.int 0)) (.cons (.cmp .eq (.blt .gcd (.cons (.ix (.slot 0) (.int 0)) (.cons (.ix (.slot 0) (.int 1)) .nil))) (.int 1)) .nil)))) .nil))
def bAreF (t f : Nat) : PSts := (.cons (.ret (.bop true (.cons (.call t (.cons (.slot 0) (.cons (.slot 1) .nil))) (.cons (.blt .all (.cons (.comp (eAF f) (.name 2) (.seq (.slot 0))) .nil)) .nil)))) .nil)
def bAreP (a : Nat) : PSts := (.cons (.ret (.bop true (.cons (.call a (.cons (.slot 0) (.cons (.slot 1) .nil))) (.cons (.blt .all (.cons (.comp eAP (.name 2) (.seq (.slot 0))) .nil)) .nil)))) .nil)
def bChkN (w e : Nat) : PSts := (.cons (.iff (.not (.val (.call w (.cons (.slot 0) (.cons (.slot 1) (.cons (.slot 2) .nil)))))) (.cons (.raise e 1 (.cons (.slot 0) .nil)) .nil) .nil) .nil)
def bChkD (p e m : Nat) : PSts := (.cons (.iff (.bop false (.cons (.not (.val (.isi (.slot 0) .tuple))) (.cons (.not (.val (.chain .le .le (.int 1) (.blt .len (.cons (.slot 0) .nil)) (.glob m)))) .nil))) (.cons (.raise e 1 (.cons (.slot 0) .nil)) .nil) .nil) (.cons (.iff (.not (.val (.call p (.cons (.slot 0) (.cons (.blt .len (.cons (.slot 0) .nil)) .nil))))) (.cons (.raise e 1 (.cons (.slot 0) .nil)) .nil) .nil) .nil))
/-- no def -/
def nf0 : D → Bool
  | .fn _ => false
  | _ => true
def nf1 : D → Bool
  | .fn _ => false
  | .tup xs => xs.all nf0
  | _ => true
def nf2 : D → Bool
  | .fn _ => false
  | .tup xs => xs.all nf1
  | _ => true
theorem nf1_0 {d : D} (h : nf1 d = true) : nf0 d = true := by cases d <;> first | rfl | exact h
theorem nf2_0 {d : D} (h : nf2 d = true) : nf0 d = true := by cases d <;> first | rfl | exact h
def isIntB : D → Bool
  | .int _ => true
  | _ => false
def betB (d : D) (lo hi : Int) : Bool := match d with
  | .int i => decide (lo ≤ i) && decide (i ≤ hi)
  | _ => false
def isTupB (d : D) (n : Int) : Bool := match d with
  | .tup xs => decide ((xs.length : Int) = n)
  | _ => false
def frB : D → Bool
  | .tup [.int a, .int c] => decide (0 < c) && decide ((Nat.gcd a.natAbs c.natAbs : Int) = 1)
  | _ => false
def areFB (d : D) (n : Int) : Bool := match d with
  | .tup xs => decide ((xs.length : Int) = n) && xs.all frB
  | _ => false
def posB : D → Bool
  | .tup (.int a :: _) => decide (0 < a)
  | _ => false
def arePB (d : D) (n : Int) : Bool := areFB d n && (match d with
  | .tup xs => xs.all posB
  | _ => false)
def goodB (d : D) : Bool := match d with
  | .tup xs => decide (1 ≤ xs.length) && decide (xs.length ≤ 40) && xs.all frB && xs.all posB
  | _ => false
theorem all_bls {α : Type} {f : α → Bool} : ∀ {xs : List α}, bls? (xs.map fun x => .bl (f x)) = some (xs.map f)
  | [] => rfl
  | x :: xs => by
    rw [List.map_cons]
    unfold bls?
    rw [all_bls (xs := xs)]
    rfl
theorem all_blt {α : Type} {f : α → Bool} {xs : List α} : bltD .all [.lst (xs.map fun x => .bl (f x))] = some (.bl (xs.all f)) := by
  simp [bltD, all_bls]
def IntAt (F : FT) (i : Nat) : Prop := ∀ (d : D) (b : Bx), nf0 d = true → F i [d] b = .ok (.bl (isIntB d)) b
def BetAt (F : FT) (i : Nat) : Prop := ∀ (d : D) (lo hi : Int) (b : Bx), nf0 d = true → F i [d, .int lo, .int hi] b = .ok (.bl (betB d lo hi)) b
def TupAt (F : FT) (i : Nat) : Prop := ∀ (d : D) (n : Int) (b : Bx), nf0 d = true → F i [d, .int n] b = .ok (.bl (isTupB d n)) b
def FrAt (F : FT) (i : Nat) : Prop := ∀ (d : D) (b : Bx), nf1 d = true → F i [d] b = .ok (.bl (frB d)) b
def ArFAt (F : FT) (i : Nat) : Prop := ∀ (d : D) (n : Int) (b : Bx), nf2 d = true → n ≤ 1000 → F i [d, .int n] b = .ok (.bl (areFB d n)) b
def ArPAt (F : FT) (i : Nat) : Prop := ∀ (d : D) (n : Int) (b : Bx), nf2 d = true → n ≤ 1000 → F i [d, .int n] b = .ok (.bl (arePB d n)) b
def ChkNAt (F : FT) (i e : Nat) : Prop := ∀ (d : D) (lo hi : Int) (b : Bx), nf0 d = true → F i [d, .int lo, .int hi] b = if betB d lo hi then .ok .non b else .exc e [d] b
def ChkDAt (F : FT) (i e : Nat) : Prop := ∀ (d : D) (b : Bx), nf2 d = true → F i [d] b = if goodB d then .ok .non b else .exc e [d] b
section
variable {F : FT} {con : Nat → D} {fw : Nat} {b : Bx} {d : D}
theorem run_isInt (h : nf0 d = true) : runF F con fw ⟨1, 1, bIsInt⟩ [d] b = .ok (.bl (isIntB d)) b := by
  cases d <;> first | (exact absurd h Bool.false_ne_true) | (simp [runF, bIsInt, evalSs, evalS, evalE, evalB, evalT, bindS, bindR, retR, optR, slotE, slotP, pk, truR, truD, isiD, isIntB])
theorem run_betw {i : Nat} {lo hi : Int} (hI : IntAt F i) (h : nf0 d = true) : runF F con fw ⟨3, 3, bBetw i⟩ [d, .int lo, .int hi] b = .ok (.bl (betB d lo hi)) b := by
  have e := hI d b h
  cases d <;> first | (exact absurd h Bool.false_ne_true) | skip
  case int n =>
    by_cases h1 : lo ≤ n
    · simp [runF, bBetw, evalSs, evalS, evalE, evalEs, evalB, bindS, bindR, retR, optR, slotE, slotP, pk, truR, truD, callR, e, isIntB, betB, cpD, h1]
    · simp [runF, bBetw, evalSs, evalS, evalE, evalEs, evalB, bindS, bindR, retR, optR, slotE, slotP, pk, truR, truD, callR, e, isIntB, betB, cpD, h1]
  all_goals simp [runF, bBetw, evalSs, evalS, evalE, evalEs, evalB, bindS, bindR, retR, optR, slotE, slotP, pk, truR, truD, callR, e, isIntB, betB]
theorem run_isTup {n : Int} (h : nf0 d = true) : runF F con fw ⟨2, 2, bIsTup⟩ [d, .int n] b = .ok (.bl (isTupB d n)) b := by
  cases d <;> first | (exact absurd h Bool.false_ne_true) | (simp [runF, bIsTup, evalSs, evalS, evalE, evalPs, evalB, bindS, bindR, retR, optR, slotE, slotP, pk, truR, truD, isiD, isTupB, bltD, cpD, eqD])
theorem tup_of {d : D} {n : Int} (h : isTupB d n = true) : ∃ xs, d = .tup xs ∧ (xs.length : Int) = n := by
  cases d <;> first | (exact absurd h Bool.false_ne_true) | skip
  case tup xs => exact ⟨xs, rfl, by simpa [isTupB] using h⟩
theorem isInt_of {d : D} (h : isIntB d = true) : ∃ a, d = .int a := by
  cases d <;> first | (exact absurd h Bool.false_ne_true) | exact ⟨_, rfl⟩
theorem fr_of {d : D} (h : frB d = true) : ∃ a c, d = .tup [.int a, .int c] ∧ 0 < c ∧ (Nat.gcd a.natAbs c.natAbs : Int) = 1 := by
  unfold frB at h
  split at h
  · rw [Bool.and_eq_true, decide_eq_true_eq, decide_eq_true_eq] at h
    exact ⟨_, _, rfl, h.1, h.2⟩
  · cases h
theorem run_isFrac {t i : Nat} (hT : TupAt F t) (hI : IntAt F i) (h : nf1 d = true) : runF F con fw ⟨1, 2, bIsFrac t i⟩ [d] b = .ok (.bl (frB d)) b := by
  have eT := hT d 2 b (nf1_0 h)
  by_cases hp : isTupB d 2 = true
  · obtain ⟨xs, rfl, hl⟩ := tup_of hp
    match xs, hl with
    | [x, y], _ =>
      have hx : nf0 x = true ∧ nf0 y = true := by simpa [nf1] using h
      have hc := compR_one (elt := evalE F con (eIF i)) (env := [.v (.tup [x, y]), .no]) (b := b) (j := 1) (g := fun z => .bl (isIntB z)) (xs := [x, y]) rfl (by show 2 ≤ big; decide) fun z hz => by
        have hz : nf0 z = true := by
          rcases List.mem_cons.mp hz with rfl | hz
          · exact hx.1
          · rw [List.mem_singleton.mp hz]; exact hx.2
        have e := hI z b hz
        simp [eIF, evalE, evalEs, bindR, retR, slotE, callR, e]
      have ha := all_blt (f := isIntB) (xs := [x, y])
      simp only [List.map_cons, List.map_nil] at ha hc
      by_cases hi : isIntB x = true ∧ isIntB y = true
      · obtain ⟨a, rfl⟩ := isInt_of hi.1
        obtain ⟨c, rfl⟩ := isInt_of hi.2
        rw [hp] at eT
        simp only [List.all_cons, List.all_nil, isIntB] at ha hc
        by_cases h0 : 0 < c
        · simp [runF, bIsFrac, evalSs, evalS, evalE, evalEs, evalPs, evalB, evalT, evalTB, evalI, bindS, bindR, retR, optR, slotE, slotP, pk, truR, truD, callR, eT, hc, seqD, frB, h0, ixD, L2.atI, L2.ixN, cpD, eqD, bltD, bls?]
        · simp [runF, bIsFrac, evalSs, evalS, evalE, evalEs, evalPs, evalB, evalT, evalTB, evalI, bindS, bindR, retR, optR, slotE, slotP, pk, truR, truD, callR, eT, hc, bltD, bls?, seqD, frB, h0, ixD, L2.atI, L2.ixN, cpD, eqD]
      · have hf : frB (.tup [x, y]) = false := by
          cases e : frB (.tup [x, y]) with
          | false => rfl
          | true =>
            obtain ⟨a, c, q, _⟩ := fr_of e
            cases q
            exact absurd ⟨rfl, rfl⟩ hi
        have hf2 : (isIntB x && (isIntB y && true)) = false := by
          rw [Bool.and_true]
          cases e : isIntB x && isIntB y with
          | false => rfl
          | true => exact absurd (by simpa using e) hi
        simp only [List.all_cons, List.all_nil, hf2] at ha
        rw [hf]
        simp [runF, bIsFrac, evalSs, evalS, evalE, evalEs, evalPs, evalT, evalTB, evalI, bindS, bindR, retR, optR, slotE, slotP, pk, truR, truD, callR, eT, hp, hc, ha, seqD]
  · have hf : frB d = false := by
      cases e : frB d with
      | false => rfl
      | true => obtain ⟨a, c, rfl, _⟩ := fr_of e; exact absurd rfl hp
    have hp : isTupB d 2 = false := by simpa using hp
    simp [runF, bIsFrac, evalSs, evalS, evalE, evalEs, evalT, evalTB, bindS, bindR, retR, optR, slotE, slotP, pk, truR, truD, callR, eT, hp, hf]
theorem run_areF {t f : Nat} {n : Int} (hT : TupAt F t) (hI : FrAt F f) (h : nf2 d = true) (hn : n ≤ 1000) : runF F con fw ⟨2, 3, bAreF t f⟩ [d, .int n] b = .ok (.bl (areFB d n)) b := by
  have eT := hT d n b (nf2_0 h)
  by_cases hp : isTupB d n = true
  · obtain ⟨xs, rfl, hl⟩ := tup_of hp
    have hx : ∀ x ∈ xs, nf1 x = true := by simpa [nf2] using h
    have hc := compR_one (elt := evalE F con (eAF f)) (env := [.v (.tup xs), .v (.int n), .no]) (b := b) (j := 2) (g := fun z => .bl (frB z)) (xs := xs) rfl (by unfold big; omega) fun z hz => by
      have e := hI z b (hx z hz)
      simp [eAF, evalE, evalEs, bindR, retR, slotE, callR, e]
    have ha := all_blt (f := frB) (xs := xs)
    have hr : areFB (.tup xs) n = xs.all frB := by simp [areFB, hl]
    rw [hr]
    simp [runF, bAreF, evalSs, evalS, evalE, evalEs, evalPs, evalB, evalI, bindS, bindR, retR, optR, slotE, slotP, pk, truR, truD, callR, eT, hp, hc, ha, seqD]
  · have hp : isTupB d n = false := by simpa using hp
    have hf : areFB d n = false := by
      cases d <;> first | rfl | skip
      case tup xs => simp [isTupB] at hp; simp [areFB, hp]
    simp [runF, bAreF, evalSs, evalS, evalE, evalEs, evalB, bindS, bindR, retR, optR, slotE, slotP, pk, truR, truD, callR, eT, hp, hf]
theorem run_areP {a : Nat} {n : Int} (hA : ArFAt F a) (h : nf2 d = true) (hn : n ≤ 1000) : runF F con fw ⟨2, 3, bAreP a⟩ [d, .int n] b = .ok (.bl (arePB d n)) b := by
  have eA := hA d n b h hn
  by_cases hp : areFB d n = true
  · obtain ⟨xs, rfl, hl, hq⟩ : ∃ xs, d = .tup xs ∧ (xs.length : Int) = n ∧ xs.all frB = true := by
      cases d <;> first | (exact absurd hp Bool.false_ne_true) | skip
      case tup xs => simp [areFB] at hp; exact ⟨xs, rfl, hp.1, by simpa using hp.2⟩
    have hc := compR_one (elt := evalE F con eAP) (env := [.v (.tup xs), .v (.int n), .no]) (b := b) (j := 2) (g := fun z => .bl (posB z)) (xs := xs) rfl (by unfold big; omega) fun z hz => by
      obtain ⟨a, c, rfl, _⟩ := fr_of (List.all_eq_true.mp hq z hz)
      simp [eAP, evalE, evalEs, bindR, retR, slotE, slotP, pk, optR, ixD, L2.atI, L2.ixN, cpD, posB]
    have ha := all_blt (f := posB) (xs := xs)
    have hr : arePB (.tup xs) n = xs.all posB := by simp [arePB, hp]
    rw [hr]
    simp [runF, bAreP, evalSs, evalS, evalE, evalEs, evalPs, evalB, evalI, bindS, bindR, retR, optR, slotE, slotP, pk, truR, truD, callR, eA, hp, hc, ha, seqD]
  · have hp : areFB d n = false := by simpa using hp
    have hf : arePB d n = false := by simp [arePB, hp]
    simp [runF, bAreP, evalSs, evalS, evalE, evalEs, evalB, bindS, bindR, retR, optR, slotE, slotP, pk, truR, truD, callR, eA, hp, hf]
theorem run_chkN {w e : Nat} {lo hi : Int} (hW : BetAt F w) (h : nf0 d = true) : runF F con fw ⟨3, 3, bChkN w e⟩ [d, .int lo, .int hi] b = if betB d lo hi then .ok .non b else .exc e [d] b := by
  have eW := hW d lo hi b h
  cases hb : betB d lo hi with
  | true => simp [runF, bChkN, evalSs, evalS, evalE, evalEs, evalT, bindS, bindR, retR, optR, slotE, slotP, pk, truR, truD, callR, eW, hb]
  | false => simp [runF, bChkN, evalSs, evalS, evalE, evalEs, evalT, bindS, bindR, retR, optR, slotE, slotP, pk, truR, truD, callR, eW, hb]
theorem run_chkD {p e m : Nat} (hP : ArPAt F p) (hm : con m = .int 40) (h : nf2 d = true) : runF F con fw ⟨1, 1, bChkD p e m⟩ [d] b = if goodB d then .ok .non b else .exc e [d] b := by
  cases d <;> first | (exact absurd h Bool.false_ne_true) | skip
  case tup xs =>
    by_cases h1 : 1 ≤ xs.length ∧ xs.length ≤ 40
    · have eP := hP (.tup xs) xs.length b h (by omega)
      have hg : goodB (.tup xs) = arePB (.tup xs) xs.length := by simp [goodB, arePB, areFB, h1]
      have h2 : (1 : Int) ≤ xs.length ∧ (xs.length : Int) ≤ 40 := by omega
      rw [hg]
      cases hb : arePB (.tup xs) xs.length with
      | true => simp [runF, bChkD, evalSs, evalS, evalE, evalEs, evalPs, evalT, evalTB, bindS, bindR, retR, optR, slotE, slotP, pk, truR, truD, callR, eP, hb, isiD, cpD, bltD, hm, h2]
      | false => simp [runF, bChkD, evalSs, evalS, evalE, evalEs, evalPs, evalT, evalTB, bindS, bindR, retR, optR, slotE, slotP, pk, truR, truD, callR, eP, hb, isiD, cpD, bltD, hm, h2]
    · have hg : goodB (.tup xs) = false := by
        unfold goodB
        dsimp only
        by_cases h2 : 1 ≤ xs.length
        · have h3 : ¬ xs.length ≤ 40 := fun z => h1 ⟨h2, z⟩
          simp [h3]
        · simp [h2]
      by_cases h2 : (1 : Int) ≤ xs.length
      · have h3 : ¬ (xs.length : Int) ≤ 40 := by omega
        simp [runF, bChkD, evalSs, evalS, evalE, evalEs, evalPs, evalT, evalTB, bindS, bindR, retR, optR, slotE, slotP, pk, truR, truD, callR, isiD, cpD, bltD, hm, h2, h3, hg]
      · simp [runF, bChkD, evalSs, evalS, evalE, evalEs, evalPs, evalT, evalTB, bindS, bindR, retR, optR, slotE, slotP, pk, truR, truD, callR, isiD, cpD, bltD, hm, h2, hg]
  all_goals simp [runF, bChkD, evalSs, evalS, evalE, evalEs, evalPs, evalT, evalTB, bindS, bindR, retR, optR, slotE, slotP, pk, truR, truD, isiD, goodB]
end
end PV

/-! discounts: forward, par and swap rates -/
namespace PV
open PySem PySem.Spec
def eFw (s d one : Nat) : PX := (.call s (.cons (.call d (.cons (.slot 1) (.cons (.slot 2) .nil))) (.cons (.glob one) .nil)))
def bFwd (c s d one : Nat) : PSts := (.cons (.expr (.call c (.cons (.slot 0) .nil))) (.cons (.ret (.blt .tuple (.cons (.comp (eFw s d one) (.tup [1, 2]) (.zip (.tup (.cons (.glob one) (.star (.slot 0) .nil))) (.slot 0))) .nil))) .nil))
def lPar (t s d one : Nat) : PSts := (.cons (.asg (.name 3) (.call t (.cons (.lst (.cons (.slot 3) (.cons (.slot 1) .nil))) .nil))) (.cons (.append 2 (.call d (.cons (.call s (.cons (.glob one) (.cons (.slot 1) .nil))) (.cons (.slot 3) .nil)))) .nil))
def bPar (c t s d zero one : Nat) : PSts := (.cons (.expr (.call c (.cons (.slot 0) .nil))) (.cons (.par [(2, true), (3, false)] (.cons (.lst .nil) (.cons (.glob zero) .nil))) (.cons (.for (.name 1) (.seq (.slot 0)) (lPar t s d one)) (.cons (.ret (.blt .tuple (.cons (.slot 2) .nil))) .nil))))
def bSwp (c n t s d one : Nat) : PSts := (.cons (.expr (.call c (.cons (.slot 0) .nil))) (.cons (.expr (.call n (.cons (.slot 1) (.cons (.int 0) (.cons (.bin .sub (.blt .len (.cons (.slot 0) .nil)) (.int 1)) .nil))))) (.cons (.expr (.call n (.cons (.slot 2) (.cons (.bin .add (.slot 1) (.int 1)) (.cons (.blt .len (.cons (.slot 0) .nil)) .nil))))) (.cons (.asg (.name 3) (.ite (.val (.cmp .eq (.slot 1) (.int 0))) (.glob one) (.ix (.slot 0) (.bin .sub (.slot 1) (.int 1))))) (.cons (.ret (.call d (.cons (.call s (.cons (.slot 3) (.cons (.ix (.slot 0) (.bin .sub (.slot 2) (.int 1))) .nil))) (.cons (.call t (.cons (.slLH (.slot 0) (.slot 1) (.slot 2)) .nil)) .nil)))) .nil)))))
/-- discounts -/
structure Dis (qs : List Rat) : Prop where
  l1 : 1 ≤ qs.length
  l2 : qs.length ≤ 40
  sz : ∀ q ∈ qs, Sz 7 q
  ps : ∀ q ∈ qs, 0 < q
def disD (qs : List Rat) : D := .tup (qs.map qD)
theorem num_pos {q : Rat} (h : 0 < q) : 0 < q.num := by
  have := (Rat.lt_iff 0 q).mp h
  simpa using this
theorem fr_qD (q : Rat) : frB (qD q) = true := by
  unfold qD frB
  rw [Bool.and_eq_true, decide_eq_true_eq, decide_eq_true_eq]
  refine ⟨by have := q.den_pos; omega, ?_⟩
  have := q.reduced
  rw [Int.natAbs_natCast]
  unfold Nat.Coprime at this
  omega
theorem nf1_qD (q : Rat) : nf1 (qD q) = true := rfl
theorem Dis.good {qs : List Rat} (h : Dis qs) : goodB (disD qs) = true := by
  have h1 := h.l1
  have h2 := h.l2
  have h3 : (qs.map qD).all frB = true := by
    rw [List.all_eq_true]
    intro x hx
    obtain ⟨q, hq, rfl⟩ := List.mem_map.mp hx
    exact fr_qD q
  have h4 : (qs.map qD).all posB = true := by
    rw [List.all_eq_true]
    intro x hx
    obtain ⟨q, hq, rfl⟩ := List.mem_map.mp hx
    have := num_pos (h.ps q hq)
    simp [qD, posB, this]
  unfold goodB disD
  dsimp only
  rw [h3, h4]
  simp [h1, h2]
theorem Dis.nf {qs : List Rat} (h : Dis qs) : nf2 (disD qs) = true := by
  unfold nf2 disD
  dsimp only
  rw [List.all_eq_true]
  intro x hx
  obtain ⟨q, hq, rfl⟩ := List.mem_map.mp hx
  rfl
def fwQ (qs : List Rat) : List Rat := ((1 :: qs).zip qs).map fun p => p.1 / p.2 - 1
def parQ (acc : Rat) : List Rat → List Rat
  | [] => []
  | q :: qs => ((1 - q) / (acc + q)) :: parQ (acc + q) qs
def atQ (qs : List Rat) (k : Nat) : Rat := qs.getD k 0
def swQ (qs : List Rat) (f l : Nat) : Rat := ((if f = 0 then 1 else atQ qs (f - 1)) - atQ qs (l - 1)) / sumQ 0 ((qs.drop f).take (l - f))
theorem zip_q : ∀ (as bs : List Rat), zipD (as.map qD) (bs.map qD) = (as.zip bs).map fun p => .tup [qD p.1, qD p.2]
  | [], _ => by simp [zipD]
  | a :: as, [] => by simp [zipD]
  | a :: as, b :: bs => by simp [zipD, zip_q as bs]
theorem sz1 : Sz 1 1 := ⟨by decide, by decide⟩
theorem sz0 : Sz 1 0 := ⟨by decide, by decide⟩
theorem num_ne {q : Rat} (h : 0 < q) : q.num ≠ 0 := by have := num_pos h; omega
def TotAt (F : FT) (t : Nat) : Prop := (∀ (p q : Rat) (n m : Nat) (b : Bx), Sz n p → Sz m q → n ≤ 900 → m ≤ 900 → F t [.lst [qD p, qD q]] b = .ok (qD (p + q)) b) ∧ ∀ (qs : List Rat) (b : Bx), (∀ q ∈ qs, Sz 7 q) → qs.length ≤ 100 → F t [.tup (qs.map qD)] b = .ok (qD (sumQ 0 qs)) b
section
variable {F : FT} {con : Nat → D} {fw c t s d one zero n e en : Nat} {b : Bx} {qs : List Rat}
theorem run_fwd (hC : ChkDAt F c e) (hS : SubAt F s) (hD : DivAt F d) (h1 : con one = qD 1) (h : Dis qs) : runF F con fw ⟨1, 3, bFwd c s d one⟩ [disD qs] b = .ok (.tup ((fwQ qs).map qD)) b := by
  have eC := hC (disD qs) b h.nf
  rw [if_pos h.good] at eC
  have hl := h.l2
  have hc := compR_two (elt := evalE F con (eFw s d one)) (env := [.v (disD qs), .no, .no]) (b := b) (i := 1) (j := 2) (xs := (1 :: qs).zip qs) (u := fun p => qD p.1) (v := fun p => qD p.2) (g := fun p => qD (p.1 / p.2 - 1)) (by decide) rfl (by rw [List.length_zip]; unfold big; omega) fun p hp => by
    obtain ⟨p1, p2⟩ := p
    have m := List.of_mem_zip hp
    have s1 : Sz 7 p1 := by
      rcases List.mem_cons.mp m.1 with rfl | m1
      · exact sz1.mono (by omega)
      · exact h.sz _ m1
    have s2 := h.sz _ m.2
    have n2 := num_ne (h.ps _ m.2)
    have e1 := hD p1 p2 7 7 b s1 s2 (by omega) n2
    have e2 := hS (p1 / p2) 1 14 1 b (s1.div s2 n2) sz1 (by omega)
    simp [eFw, evalE, evalEs, bindR, retR, slotE, callR, e1, e2, h1]
  have hz := zip_q (1 :: qs) qs
  rw [List.map_cons] at hz
  have hb : (qD 1 :: qs.map qD).length ≤ big := by rw [List.length_cons, List.length_map]; unfold big; omega
  have hr : (fwQ qs).map qD = ((1 :: qs).zip qs).map fun p => qD (p.1 / p.2 - 1) := by unfold fwQ; rw [List.map_map]; rfl
  rw [hr]
  unfold disD at *
  have hb : qs.length + 1 ≤ big := by unfold big; omega
  simp [runF, bFwd, evalSs, evalS, evalE, evalEs, evalPs, evalI, bindS, bindR, retR, optR, slotE, slotP, pk, callR, eC, seqD, h1, bltD, hb, hz, hc]
theorem run_fwd_bad {x : D} (hC : ChkDAt F c e) (hn : nf2 x = true) (h : goodB x = false) : runF F con fw ⟨1, 3, bFwd c s d one⟩ [x] b = .exc e [x] b := by
  have eC := hC x b hn
  rw [h] at eC
  simp [runF, bFwd, evalSs, evalS, evalE, evalEs, bindS, bindR, retR, slotE, callR, eC]
theorem run_par_bad {x : D} (hC : ChkDAt F c e) (hn : nf2 x = true) (h : goodB x = false) : runF F con fw ⟨1, 4, bPar c t s d zero one⟩ [x] b = .exc e [x] b := by
  have eC := hC x b hn
  rw [h] at eC
  simp [runF, bPar, evalSs, evalS, evalE, evalEs, bindS, bindR, retR, slotE, callR, eC]
theorem run_swp_bad {x y z : D} (hC : ChkDAt F c e) (hn : nf2 x = true) (h : goodB x = false) : runF F con fw ⟨3, 4, bSwp c n t s d one⟩ [x, y, z] b = .exc e [x] b := by
  have eC := hC x b hn
  rw [h] at eC
  simp [runF, bSwp, evalSs, evalS, evalE, evalEs, bindS, bindR, retR, slotE, callR, eC]
theorem run_swp_bad1 {y z : D} (hC : ChkDAt F c e) (hN : ChkNAt F n en) (h : Dis qs) (hn : nf0 y = true) (hb : betB y 0 (qs.length - 1) = false) : runF F con fw ⟨3, 4, bSwp c n t s d one⟩ [disD qs, y, z] b = .exc en [y] b := by
  have eC := hC (disD qs) b h.nf
  rw [if_pos h.good] at eC
  have eN := hN y 0 (qs.length - 1) b hn
  rw [hb] at eN
  unfold disD at *
  simp [runF, bSwp, evalSs, evalS, evalE, evalEs, evalPs, bindS, bindR, retR, optR, slotE, slotP, pk, callR, eC, bltD, binD, eN]
theorem run_swp_bad2 {f : Int} {z : D} (hC : ChkDAt F c e) (hN : ChkNAt F n en) (h : Dis qs) (hf : 0 ≤ f ∧ f ≤ qs.length - 1) (hn : nf0 z = true) (hb : betB z (f + 1) qs.length = false) : runF F con fw ⟨3, 4, bSwp c n t s d one⟩ [disD qs, .int f, z] b = .exc en [z] b := by
  have eC := hC (disD qs) b h.nf
  rw [if_pos h.good] at eC
  have eN := hN (.int f) 0 (qs.length - 1) b rfl
  rw [show betB (.int f) 0 (qs.length - 1) = true from by simp [betB, hf]] at eN
  have eM := hN z (f + 1) qs.length b hn
  rw [hb] at eM
  unfold disD at *
  simp [runF, bSwp, evalSs, evalS, evalE, evalEs, evalPs, bindS, bindR, retR, optR, slotE, slotP, pk, callR, eC, bltD, binD, eN, eM]
theorem atQ_ix {k : Nat} (h : k < qs.length) : L2.atI (qs.map qD) (k : Int) = some (qD (atQ qs k)) := by
  rw [at_get (by rw [List.length_map]; exact h), List.getElem_map]
  unfold atQ
  rw [List.getD_eq_getElem?_getD, List.getElem?_eq_getElem h]
  rfl
theorem atQ_mem {k : Nat} (h : k < qs.length) : atQ qs k ∈ qs := by
  unfold atQ
  rw [List.getD_eq_getElem?_getD, List.getElem?_eq_getElem h]
  exact List.getElem_mem h
theorem cut_nat {xs : List D} {f l : Nat} (h1 : f ≤ l) (h2 : l ≤ xs.length) : cutD xs (some (f : Int)) (some (l : Int)) = (xs.drop f).take (l - f) := by
  unfold cutD
  rw [HT.sIx_nat, HT.sIx_nat, Nat.min_eq_left (by omega), Nat.min_eq_left (by omega)]
theorem add_pos' {acc q : Rat} (ha : 0 ≤ acc) (h1 : 0 < q) : 0 < acc + q := by
  have := Rat.add_lt_add_left (c := acc) |>.mpr h1
  rw [Rat.add_zero] at this
  exact Rat.not_le.mp fun z => Rat.not_le.mpr this (Rat.le_trans z ha)
theorem sumQ_pos : ∀ {qs : List Rat} {acc : Rat}, (∀ q ∈ qs, 0 < q) → 0 ≤ acc → (qs ≠ [] ∨ 0 < acc) → 0 < sumQ acc qs
  | [], acc, _, _, h => by
    rcases h with h | h
    · exact absurd rfl h
    · exact h
  | q :: qs, acc, hq, ha, _ => by
    unfold sumQ
    have h1 := hq q List.mem_cons_self
    have h2 := add_pos' ha h1
    exact sumQ_pos (fun r hr => hq r (List.mem_cons_of_mem _ hr)) (Rat.le_of_lt h2) (.inr h2)
theorem par_loop (hT : TotAt F t) (hS : SubAt F s) (hD : DivAt F d) (h1 : con one = qD 1) {x : D} : ∀ {qs : List Rat} {acc : Rat} {m : Nat} {y : Sl} {ds : List D}, (∀ q ∈ qs, Sz 7 q) → (∀ q ∈ qs, 0 < q) → 0 ≤ acc → Sz m acc → m + qs.length * 8 ≤ 800 → ds.length + qs.length < big →
    ∃ y', loopF (.name 1) (evalSs F con fw (lPar t s d one)) (qs.map qD) ⟨[.v x, y, .own ds, .v (qD acc)], b⟩ = .next ⟨[.v x, y', .own (ds ++ (parQ acc qs).map qD), .v (qD (sumQ acc qs))], b⟩
  | [], acc, m, y, ds, _, _, _, _, _, _ => ⟨y, by simp [loopF, parQ, sumQ]⟩
  | q :: qs, acc, m, y, ds, hq, hp, ha, h, hm, hb => by
    have q1 := hq q List.mem_cons_self
    have q2 := add_pos' ha (hp q List.mem_cons_self)
    rw [List.length_cons, Nat.succ_mul] at hm
    rw [List.length_cons] at hb
    have e1 := hT.1 acc q m 7 b h q1 (by omega) (by omega)
    have sz := h.add q1
    have e2 := hS 1 q 1 7 b sz1 q1 (by omega)
    have e3 := hD (1 - q) (acc + q) 9 (m + 7 + 1) b (sz1.sub q1) sz (by omega) (num_ne q2)
    obtain ⟨y', e⟩ := par_loop hT hS hD h1 (x := x) (qs := qs) (acc := acc + q) (m := m + 7 + 1) (y := .v (qD q)) (ds := ds ++ [qD ((1 - q) / (acc + q))]) (fun r hr => hq r (List.mem_cons_of_mem _ hr)) (fun r hr => hp r (List.mem_cons_of_mem _ hr)) (Rat.le_of_lt q2) sz (by omega) (by rw [List.length_append, List.length_singleton]; omega)
    refine ⟨y', ?_⟩
    rw [List.map_cons]
    unfold loopF
    simp [asgT]
    have b2 : (2 : Nat) ≤ big := by decide
    have eb : evalSs F con fw (lPar t s d one) ⟨[.v x, .v (qD q), .own ds, .v (qD acc)], b⟩ = .next ⟨[.v x, .v (qD q), .own (ds ++ [qD ((1 - q) / (acc + q))]), .v (qD (acc + q))], b⟩ := by
      have b3 : ds.length < big := by omega
      simp [lPar, evalSs, evalS, evalE, evalEs, bindS, bindR, retR, slotE, callR, e1, e2, e3, asgT, appSl, h1, b2, b3]
    rw [eb]
    dsimp only
    rw [e]
    simp [parQ, sumQ]
theorem run_par (hC : ChkDAt F c e) (hT : TotAt F t) (hS : SubAt F s) (hD : DivAt F d) (h0 : con zero = qD 0) (h1 : con one = qD 1) (h : Dis qs) : runF F con fw ⟨1, 4, bPar c t s d zero one⟩ [disD qs] b = .ok (.tup ((parQ 0 qs).map qD)) b := by
  have eC := hC (disD qs) b h.nf
  rw [if_pos h.good] at eC
  have h40 := h.l2
  obtain ⟨y', e⟩ := par_loop (con := con) (fw := fw) (b := b) hT hS hD h1 (x := disD qs) (qs := qs) (acc := 0) (m := 1) (y := .no) (ds := []) h.sz h.ps Rat.le_refl sz0 (by omega) (by show 0 + qs.length < big; unfold big; omega)
  have b0 : (0 : Nat) ≤ big := Nat.zero_le _
  simp only [List.nil_append] at e
  unfold disD at *
  simp [runF, bPar, evalSs, evalS, evalE, evalEs, evalPs, evalI, bindS, bindR, retR, optR, slotE, slotP, pk, callR, eC, storeL, seqD, h0, e, bltD]
theorem run_swp {f l : Nat} (hC : ChkDAt F c e) (hN : ChkNAt F n en) (hT : TotAt F t) (hS : SubAt F s) (hD : DivAt F d) (h1 : con one = qD 1) (h : Dis qs) (hfl : f < l) (hl : l ≤ qs.length) : runF F con fw ⟨3, 4, bSwp c n t s d one⟩ [disD qs, .int f, .int l] b = .ok (qD (swQ qs f l)) b := by
  have eC := hC (disD qs) b h.nf
  rw [if_pos h.good] at eC
  have h40 := h.l2
  have eN := hN (.int f) 0 (qs.length - 1) b rfl
  rw [show betB (.int f) 0 (qs.length - 1) = true from by simp [betB]; omega] at eN
  have eM := hN (.int l) (f + 1) qs.length b rfl
  rw [show betB (.int l) (f + 1) qs.length = true from by simp [betB]; omega] at eM
  have sub : ∀ q ∈ (qs.drop f).take (l - f), q ∈ qs := fun q hq => List.mem_of_mem_drop (List.mem_of_mem_take hq)
  have eT := hT.2 ((qs.drop f).take (l - f)) b (fun q hq => h.sz q (sub q hq)) (by rw [List.length_take, List.length_drop]; omega)
  rw [List.map_take, List.map_drop] at eT
  have hne : (qs.drop f).take (l - f) ≠ [] := by
    intro z
    have := congrArg List.length z
    rw [List.length_take, List.length_drop, List.length_nil] at this
    omega
  have tp := sumQ_pos (qs := (qs.drop f).take (l - f)) (acc := 0) (fun q hq => h.ps q (sub q hq)) (Rat.le_refl) (.inl hne)
  have tz := sumQ_sz (n := 7) (qs := (qs.drop f).take (l - f)) (acc := 0) (fun q hq => h.sz q (sub q hq)) sz0
  have tz := tz.mono (n := 400) (by rw [List.length_take, List.length_drop]; omega)
  have hlast := atQ_ix (qs := qs) (k := l - 1) (by omega)
  have slast := h.sz _ (atQ_mem (qs := qs) (k := l - 1) (by omega))
  have hsl := cut_nat (xs := qs.map qD) (f := f) (l := l) (by omega) (by rw [List.length_map]; exact hl)
  have cl : ((l - 1 : Nat) : Int) = (l : Int) - 1 := by omega
  rw [cl] at hlast
  have lo : ∀ p : Rat, Sz 7 p → ∀ b, F d [qD (p - atQ qs (l - 1)), qD (sumQ 0 ((qs.drop f).take (l - f)))] b = .ok (qD ((p - atQ qs (l - 1)) / sumQ 0 ((qs.drop f).take (l - f)))) b ∧ F s [qD p, qD (atQ qs (l - 1))] b = .ok (qD (p - atQ qs (l - 1))) b := fun p hp b => ⟨hD _ _ 15 400 b (hp.sub slast) tz (by omega) (num_ne tp), hS _ _ 7 7 b hp slast (by omega)⟩
  unfold disD swQ at *
  by_cases hf : f = 0
  · have hf2 : (f = 0) = True := eq_true hf
    have hf3 : ¬ 0 < f := by omega
    have lo1 := lo 1 (sz1.mono (by omega)) b
    simp [runF, bSwp, evalSs, evalS, evalE, evalEs, evalPs, evalT, bindS, bindR, retR, optR, slotE, slotP, pk, callR, eC, bltD, binD, eN, eM, truR, truD, cpD, eq_int, h1, asgT, ixD, hlast, lo1.2, lo1.1, intR, slD, hsl, eT, hf2, hf3]
  · have hst := atQ_ix (qs := qs) (k := f - 1) (by omega)
    have cf : ((f - 1 : Nat) : Int) = (f : Int) - 1 := by omega
    rw [cf] at hst
    have lo1 := lo (atQ qs (f - 1)) (h.sz _ (atQ_mem (qs := qs) (k := f - 1) (by omega))) b
    simp [runF, bSwp, evalSs, evalS, evalE, evalEs, evalPs, evalT, bindS, bindR, retR, optR, slotE, slotP, pk, callR, eC, bltD, binD, eN, eM, truR, truD, cpD, eq_int, h1, asgT, ixD, hlast, lo1.2, lo1.1, intR, slD, hsl, eT, hf, hst]
end
end PV

namespace PV
open PySem PySem.Spec
theorem big1 : (1 : Nat) ≤ big := by decide
theorem big2 : (2 : Nat) ≤ big := by decide
theorem big3 : (3 : Nat) ≤ big := by decide
theorem big4 : (4 : Nat) ≤ big := by decide
theorem big5 : (5 : Nat) ≤ big := by decide
theorem big6 : (6 : Nat) ≤ big := by decide
theorem big7 : (7 : Nat) ≤ big := by decide
theorem big8 : (8 : Nat) ≤ big := by decide
theorem big9 : (9 : Nat) ≤ big := by decide
theorem big10 : (10 : Nat) ≤ big := by decide
theorem big11 : (11 : Nat) ≤ big := by decide
theorem big12 : (12 : Nat) ≤ big := by decide
theorem big13 : (13 : Nat) ≤ big := by decide
def TakeAt (F : FT) (i : Nat) : Prop := ∀ (many : Int) (m : Nat) (b : Bx), 1 ≤ many → many < 2 ^ 62 → BI m b → m ≤ 1000000000 → ∃ (t : Int) (b' : Bx), F i [.box, .int many] b = .ok (.int t) b' ∧ 0 ≤ t ∧ t < many ∧ BI (m + 1) b'
theorem bi_mono {m n : Nat} {b : Bx} (h : BI m b) (hl : m ≤ n) : BI n b := ⟨h.n0, h.r0, h.r1, h.c0, Int.le_trans h.c1 (by omega)⟩
section
variable {x y z : D} {rest : List D}
theorem at0 : L2.atI (x :: rest) 0 = some x := by simp [L2.atI, L2.ixN]
theorem at1 : L2.atI (x :: y :: rest) 1 = some y := by
  unfold L2.atI L2.ixN
  rw [if_pos (by omega), if_pos (by simp only [List.length_cons]; omega)]
  rfl
theorem at2 : L2.atI (x :: y :: z :: rest) 2 = some z := by
  unfold L2.atI L2.ixN
  rw [if_pos (by omega), if_pos (by simp only [List.length_cons]; omega)]
  rfl
end
theorem mk_sz {a c : Int} {n : Nat} (h1 : 1 ≤ a) (h2 : a < 2 ^ n) (h3 : 1 ≤ c) (h4 : c < 2 ^ n) : Sz n (Rat.divInt a c) ∧ 0 < Rat.divInt a c := by
  have n0 : Rat.divInt a c ≠ 0 := fun z => by
    have := (Rat.divInt_eq_divInt_iff (n₁ := a) (d₁ := c) (n₂ := 0) (d₂ := 1) (by omega) (by omega)).mp (by rw [z]; rfl)
    omega
  have e : ((2 ^ n : Nat) : Int) = 2 ^ n := by simp
  exact ⟨divInt_sz (by omega) (by omega) (by omega), Rat.lt_of_le_of_ne (Rat.divInt_nonneg (by omega) (by omega)) (Ne.symm n0)⟩
theorem rng_nat (n : Nat) : rangeD 0 (n : Int) = (List.range n).map fun (j : Nat) => D.int (j : Int) := by
  unfold rangeD
  simp
theorem rng2 : rangeD 0 2 = [.int 0, .int 1] := rfl
theorem rng3 : rangeD 0 3 = [.int 0, .int 1, .int 2] := rfl
theorem rng4 : rangeD 0 4 = [.int 0, .int 1, .int 2, .int 3] := rfl
theorem rngOk_nat {n : Nat} (h : n ≤ 1000000) : rngOk (n : Int) = true := by
  unfold rngOk
  rw [Bool.and_eq_true, decide_eq_true_eq, decide_eq_true_eq]
  omega
section
variable {F : FT} {con : Nat → D} {fw : Nat} {s s1 s2 s' : S} {a : PSt} {r : PSts}
theorem sq {q : RS} (h : evalS F con fw a s = .next s') (h2 : evalSs F con fw r s' = q) : evalSs F con fw (.cons a r) s = q := by
  rw [evalSs]
  dsimp only
  rw [h]
  exact h2
theorem sr {d : D} {b : Bx} (h : evalS F con fw a s = .ret d b) : evalSs F con fw (.cons a r) s = .ret d b := by
  rw [evalSs]
  dsimp only
  rw [h]
theorem se {e : Nat} {fs : List D} (h : evalS F con fw a s = .exc e fs s') : evalSs F con fw (.cons a r) s = .exc e fs s' := by
  rw [evalSs]
  dsimp only
  rw [h]
theorem s0 : evalSs F con fw .nil s = .next s := by rw [evalSs]
theorem ev_range1s {e : PX} {env : List Sl} {b : Bx} {n : Nat} (h : evalE F con e ⟨env, b⟩ = .ok (.int (n : Int)) ⟨env, b⟩) (hn : n ≤ 1000000) : evalI F con (.range1 e) ⟨env, b⟩ = .ok (rangeD 0 (n : Int)) ⟨env, b⟩ := by
  rw [ev_range1, bindR_ok h, bindR_ok (show intR (.int (n : Int)) ⟨env, b⟩ = .ok (n : Int) ⟨env, b⟩ from rfl), if_pos (rngOk_nat hn)]
  rfl
theorem ev_for {t : PTg} {it : PIt} {l : PSts} {xs : List D} (h : evalI F con it s = .ok xs s1) : evalS F con fw (.for t it l) s = loopF t (evalSs F con fw l) xs s1 := by
  rw [evalS]
  unfold bindS
  rw [h]
theorem ev_asg {t : PTg} {e : PX} {d : D} (h : evalE F con e s = .ok d s1) (h2 : asgT t d s1 = some s2) : evalS F con fw (.asg t e) s = .next s2 := by
  rw [evalS]
  unfold bindS
  rw [h]
  dsimp only
  rw [h2]
theorem ev_ret {e : PX} {d : D} (h : evalE F con e s = .ok d s1) : evalS F con fw (.ret e) s = .ret d s1.bx := by
  rw [evalS]
  unfold bindS
  rw [h]
theorem ev_comp {elt : PX} {g : PTg} {it : PIt} {xs : List D} {d : D} (h : evalI F con it s = .ok xs s1) (h2 : compR g (retR true) (evalE F con elt) xs s1 = .ok d s2) : evalE F con (.comp elt g it) s = .ok d s2 := by
  rw [evalE, bindR_ok h]
  exact h2
theorem ev_tupc {elt : PX} {g : PTg} {it : PIt} {xs : List D} (h : evalE F con (.comp elt g it) s = .ok (.lst xs) s1) : evalE F con (.blt .tuple (.cons (.comp elt g it) .nil)) s = .ok (.tup xs) s1 := by
  rw [evalE, evalPs, evalPs]
  have e1 : bindR (pk (.comp elt g it) (evalE F con (.comp elt g it))) (fun d => bindR (retR ([] : List D)) fun ds => retR (d :: ds)) s = .ok [.lst xs] s1 := by
    rw [bindR_ok (show pk (.comp elt g it) (evalE F con (.comp elt g it)) s = _ from h)]
    rfl
  rw [bindR_ok e1]
  rfl
theorem ev_callc {i : Nat} {es : PXs} {ds : List D} {d : D} {b1 : Bx} (h : evalEs F con es s = .ok ds s1) (h2 : F i ds s1.bx = .ok d b1) : evalE F con (.call i es) s = .ok d { s1 with bx := b1 } := by
  rw [evalE, bindR_ok h]
  unfold callR
  rw [h2]
theorem ev_es1 {e : PX} {r : PXs} {d : D} {ds : List D} (h : evalE F con e s = .ok d s1) (h2 : evalEs F con r s1 = .ok ds s2) : evalEs F con (.cons e r) s = .ok (d :: ds) s2 := by
  rw [evalEs, bindR_ok h, bindR_ok h2]
  rfl
theorem ev_es0 : evalEs F con .nil s = .ok [] s := by rw [evalEs]; rfl
theorem ev_iffno {t : PTt} {a : PSts} (h : evalT F con t s = .ok false s1) : evalS F con fw (.iff t a .nil) s = .next s1 := by
  rw [evalS]
  unfold bindS
  dsimp only
  rw [h]
  simp [evalSs]
theorem ev_iffT {t : PTt} {a b : PSts} {q : RS} (h : evalT F con t s = .ok true s1) (h2 : evalSs F con fw a s1 = q) : evalS F con fw (.iff t a b) s = q := by
  rw [evalS]
  unfold bindS
  dsimp only
  rw [h]
  simpa using h2
theorem ev_iffF {t : PTt} {a b : PSts} {q : RS} (h : evalT F con t s = .ok false s1) (h2 : evalSs F con fw b s1 = q) : evalS F con fw (.iff t a b) s = q := by
  rw [evalS]
  unfold bindS
  dsimp only
  rw [h]
  simpa using h2
/-- `not f(..)` of a def that answers True -/
theorem ev_not {i : Nat} {es : PXs} (h : evalE F con (.call i es) s = .ok (.bl true) s1) : evalT F con (.not (.val (.call i es))) s = .ok false s1 := by
  rw [evalT, evalT]
  have e1 : bindR (pk (.call i es) (evalE F con (.call i es))) (fun x => truR x) s = .ok true s1 := by
    rw [bindR_ok (show pk (.call i es) (evalE F con (.call i es)) s = _ from h)]
    rfl
  rw [bindR_ok e1]
  rfl
/-- `a or b`, both not -/
theorem ev_or {t u : PTt} (h : evalT F con t s = .ok false s1) (h2 : evalT F con u s1 = .ok false s2) : evalT F con (.bop false (.cons t (.cons u .nil))) s = .ok false s2 := by
  rw [evalT, evalTB, evalTB, bindR_ok h]
  · exact h2
  · intro z; cases z
theorem ev_slot {j : Nat} {d : D} (h : s.env[j]? = some (.v d)) : evalE F con (.slot j) s = .ok d s := by
  rw [evalE]
  unfold slotE
  rw [h]
theorem ev_seqL {e : PX} {xs : List D} (h : evalE F con e s = .ok (.lst xs) s1) : evalI F con (.seq e) s = .ok xs s1 := by
  rw [evalI, bindR_ok h]
  rfl
/-- a call of a def, by its depth -/
theorem ev_def {defs : List Df} {k i : Nat} {d : Df} {ds : List D} {b : Bx} (h : defs[i]? = some d) : evF defs con fw (k + 3) i ds b = runF (evF defs con fw (k + 2)) con fw d ds b := by
  show (if k + 2 < 2 then RF.bad else match defs[i]? with | some d => runF (evF defs con fw (k + 2)) con fw d ds b | none => .bad) = _
  rw [if_neg (by omega), h]
end
theorem run_exc {F : FT} {con : Nat → D} {fw par sl : Nat} {body : PSts} {ds : List D} {e : Nat} {fs : List D} {s : S} {b : Bx} (hl : ds.length = par) (h : evalSs F con fw body ⟨ds.map Sl.v ++ List.replicate (sl - par) .no, b⟩ = .exc e fs s) : runF F con fw ⟨par, sl, body⟩ ds b = .exc e fs s.bx := by
  unfold runF
  rw [if_pos hl, h]
theorem run_next {F : FT} {con : Nat → D} {fw par sl : Nat} {body : PSts} {ds : List D} {s : S} {b : Bx} (hl : ds.length = par) (h : evalSs F con fw body ⟨ds.map Sl.v ++ List.replicate (sl - par) .no, b⟩ = .next s) : runF F con fw ⟨par, sl, body⟩ ds b = .ok .non s.bx := by
  unfold runF
  rw [if_pos hl, h]
theorem fw_big (e : Nat) : ∃ fw : Nat, ∀ n : Nat, n.log2 < e → n < fw := ⟨2 ^ e, fun n hn => by
  by_cases h0 : n = 0
  · subst h0; exact Nat.pow_pos (by decide)
  · exact (Nat.log2_lt h0).mp hn⟩
end PV

/-! `_law_same` in its other form (told 0, due 1, k 2, key 3) -/
namespace PV
open PySem PySem.Spec
def cSameB (i : Nat) : PTt := (.not (.val (.call i (.cons (.ix (.slot 0) (.slot 2)) (.cons (.ix (.slot 1) (.slot 2)) .nil)))))
def eSB (i : Nat) : PX := (.compIf (.slot 2) (.name 2) (.range1 (.blt .len (.cons (.slot 1) .nil))) (cSameB i))
def eCB (i : Nat) : PX := (.cmp .eq (eSB i) (.lst .nil))
def eLB : PX := (.cmp .eq (.blt .len (.cons (.slot 0) .nil)) (.blt .len (.cons (.slot 1) .nil)))
def aS3B : PSts := (.cons (.ret (.bop true (.cons (.isi (.slot 0) .str) (.cons (.cmp .eq (.blt .len (.cons (.slot 0) .nil)) (.blt .len (.cons (.slot 1) .nil))) (.cons (.cmp .eq (.compIf (.slot 2) (.name 2) (.range1 (.blt .len (.cons (.slot 1) .nil))) (.val (.cmp .ne (.slLH (.slot 0) (.slot 2) (.bin .add (.slot 2) (.int 1))) (.ix (.slot 1) (.slot 2))))) (.lst .nil)) .nil))))) .nil)
def tS5B : PTt := (.bop false (.cons (.not (.val (.isiT (.slot 0) [.list, .tuple]))) (.cons (.val (.cmp .ne (.isi (.slot 0) .list) (.isi (.slot 1) .list))) .nil)))
def aS7B (i : Nat) : PSts := (.cons (.ret (.bop true (.cons eLB (.cons (eCB i) .nil)))) .nil)
def bSameB (i : Nat) (a4 : PSts) : PSts := (.cons (.iff tS1 aS1 .nil) (.cons (.iff tS2 aS2 .nil) (.cons (.iff tS3 aS3B .nil) (.cons (.iff tS4 a4 .nil) (.cons (.iff tS5B aS5 .nil) (aS7B i))))))
section
variable {F : FT} {con : Nat → D} {fw i : Nat} {b : Bx} {a4 : PSts}
theorem sameB_non : runF F con fw ⟨2, 4, bSameB i a4⟩ [.non, .non] b = .ok (.bl true) b :=
  run_of rfl (iff_yes (s' := ⟨[.v .non, .v .non, .no, .no], b⟩) (by simp [tS1, evalTB, evalT, evalE, bindR, retR, optR, slotE, slotP, pk, cpD, truR, truD, isNonD]) (by simp [aS1, evalSs, evalS, evalE, evalT, bindS, bindR, retR, optR, slotE, slotP, pk, cpD, truR, truD, isNonD]))
theorem sameB_bl (x : Bool) : runF F con fw ⟨2, 4, bSameB i a4⟩ [.bl x, .bl x] b = .ok (.bl true) b :=
  run_of rfl (iff_yes (s' := ⟨[.v (.bl x), .v (.bl x), .no, .no], b⟩) (by simp [tS1, evalTB, evalT, evalE, bindR, retR, optR, slotE, slotP, pk, cpD, truR, truD, isNonD, isiD]) (by cases x <;> simp [aS1, evalSs, evalS, evalE, evalB, evalT, bindS, bindR, retR, optR, slotE, slotP, pk, cpD, truR, truD, isNonD, isiD, eq_bl]))
theorem sameB_int (x : Int) : runF F con fw ⟨2, 4, bSameB i a4⟩ [.int x, .int x] b = .ok (.bl true) b := by
  refine run_of rfl ((iff_no (s' := ⟨[.v (.int x), .v (.int x), .no, .no], b⟩) ?_).trans (iff_yes (s' := ⟨[.v (.int x), .v (.int x), .no, .no], b⟩) ?_ ?_))
  · simp [tS1, evalTB, evalT, evalE, bindR, retR, optR, slotE, slotP, pk, cpD, truR, truD, isNonD, isiD]
  · simp [tS2, evalTB, evalT, evalE, bindR, retR, optR, slotE, slotP, pk, cpD, truR, truD, isNonD, isiD]
  · simp [aS2, evalSs, evalS, evalE, evalB, evalEs, evalPs, evalT, bindS, bindR, retR, optR, slotE, slotP, pk, cpD, truR, truD, isNonD, isiD, eq_int, bltD, binD]
theorem seqB_tests {d : D} {n : Nat} (hd : (∃ xs : List D, d = .lst xs ∧ xs.length = n) ∨ ∃ xs : List D, d = .tup xs ∧ xs.length = n) : evalSs F con fw (bSameB i a4) ⟨[.v d, .v d, .no, .no], b⟩ = evalSs F con fw (aS7B i) ⟨[.v d, .v d, .no, .no], b⟩ := by
  unfold bSameB
  rcases hd with ⟨xs, rfl, _⟩ | ⟨xs, rfl, _⟩
  · have n1 : evalT F con tS1 ⟨[.v (.lst xs), .v (.lst xs), .no, .no], b⟩ = .ok false ⟨[.v (.lst xs), .v (.lst xs), .no, .no], b⟩ := by simp [tS1, evalTB, evalT, evalE, bindR, retR, optR, slotE, slotP, pk, cpD, truR, truD, isNonD, isiD]
    have n2 : evalT F con tS2 ⟨[.v (.lst xs), .v (.lst xs), .no, .no], b⟩ = .ok false ⟨[.v (.lst xs), .v (.lst xs), .no, .no], b⟩ := by simp [tS2, evalTB, evalT, evalE, bindR, retR, optR, slotE, slotP, pk, cpD, truR, truD, isNonD, isiD]
    have n3 : evalT F con tS3 ⟨[.v (.lst xs), .v (.lst xs), .no, .no], b⟩ = .ok false ⟨[.v (.lst xs), .v (.lst xs), .no, .no], b⟩ := by simp [tS3, evalTB, evalT, evalE, bindR, retR, optR, slotE, slotP, pk, cpD, truR, truD, isNonD, isiD]
    have n4 : evalT F con tS4 ⟨[.v (.lst xs), .v (.lst xs), .no, .no], b⟩ = .ok false ⟨[.v (.lst xs), .v (.lst xs), .no, .no], b⟩ := by simp [tS4, evalTB, evalT, evalE, bindR, retR, optR, slotE, slotP, pk, cpD, truR, truD, isNonD, isiD]
    have n5 : evalT F con tS5B ⟨[.v (.lst xs), .v (.lst xs), .no, .no], b⟩ = .ok false ⟨[.v (.lst xs), .v (.lst xs), .no, .no], b⟩ := by simp [tS5B, evalTB, evalT, evalE, bindR, retR, optR, slotE, slotP, pk, cpD, truR, truD, isNonD, isiD, isiTD, eq_bl]
    rw [iff_no n1, iff_no n2, iff_no n3, iff_no n4, iff_no n5]
  · have n1 : evalT F con tS1 ⟨[.v (.tup xs), .v (.tup xs), .no, .no], b⟩ = .ok false ⟨[.v (.tup xs), .v (.tup xs), .no, .no], b⟩ := by simp [tS1, evalTB, evalT, evalE, bindR, retR, optR, slotE, slotP, pk, cpD, truR, truD, isNonD, isiD]
    have n2 : evalT F con tS2 ⟨[.v (.tup xs), .v (.tup xs), .no, .no], b⟩ = .ok false ⟨[.v (.tup xs), .v (.tup xs), .no, .no], b⟩ := by simp [tS2, evalTB, evalT, evalE, bindR, retR, optR, slotE, slotP, pk, cpD, truR, truD, isNonD, isiD]
    have n3 : evalT F con tS3 ⟨[.v (.tup xs), .v (.tup xs), .no, .no], b⟩ = .ok false ⟨[.v (.tup xs), .v (.tup xs), .no, .no], b⟩ := by simp [tS3, evalTB, evalT, evalE, bindR, retR, optR, slotE, slotP, pk, cpD, truR, truD, isNonD, isiD]
    have n4 : evalT F con tS4 ⟨[.v (.tup xs), .v (.tup xs), .no, .no], b⟩ = .ok false ⟨[.v (.tup xs), .v (.tup xs), .no, .no], b⟩ := by simp [tS4, evalTB, evalT, evalE, bindR, retR, optR, slotE, slotP, pk, cpD, truR, truD, isNonD, isiD]
    have n5 : evalT F con tS5B ⟨[.v (.tup xs), .v (.tup xs), .no, .no], b⟩ = .ok false ⟨[.v (.tup xs), .v (.tup xs), .no, .no], b⟩ := by simp [tS5B, evalTB, evalT, evalE, bindR, retR, optR, slotE, slotP, pk, cpD, truR, truD, isNonD, isiD, isiTD, eq_bl]
    rw [iff_no n1, iff_no n2, iff_no n3, iff_no n4, iff_no n5]
theorem pkB1 {m : S → R D} : pk (eSB i) m = m := rfl
theorem u1 {st : S} {ys : List D} (e0 : evalI F con (.range1 (.blt .len (.cons (.slot 1) .nil))) st = .ok ys st) (hc : compR (.name 2) (evalT F con (cSameB i)) (evalE F con (.slot 2)) ys st = .ok (.lst []) st) : evalE F con (eSB i) st = .ok (.lst []) st := by
    unfold eSB
    rw [ev_compIf, bindR_ok e0]
    exact hc
theorem u2 {st : S} (h : evalE F con (eSB i) st = .ok (.lst []) st) : evalE F con (eCB i) st = .ok (.bl true) st := by
  unfold eCB
  rw [ev_cmp, pkB1, pk2, bindR_ok h, bindR_ok ev_nil, bindR_ok eq_nil2]
  rfl
theorem pkL {j : Nat} {m : S → R D} : pk (.blt .len (.cons (.slot j) .nil)) m = m := rfl
theorem u0 {n : Int} {st : S} (h : evalE F con (.blt .len (.cons (.slot 0) .nil)) st = .ok (.int n) st) (h2 : evalE F con (.blt .len (.cons (.slot 1) .nil)) st = .ok (.int n) st) : evalE F con eLB st = .ok (.bl true) st := by
  have e3 : optR (cpD .eq (.int n) (.int n)) st = .ok true st := by
    have : cpD .eq (.int n) (.int n) = some true := by
      show eqD (.int n) (.int n) = some true
      rw [eq_int]; simp
    rw [this]; rfl
  unfold eLB
  rw [ev_cmp, pkL, pkL, bindR_ok h, bindR_ok h2, bindR_ok e3]
  rfl
theorem u3 {st : S} (h : evalE F con eLB st = .ok (.bl true) st) (h2 : evalE F con (eCB i) st = .ok (.bl true) st) : evalSs F con fw (aS7B i) st = .ret (.bl true) st.bx := by
  unfold aS7B
  rw [evalSs, evalS]
  unfold bindS
  dsimp only
  have e : evalE F con (.bop true (.cons eLB (.cons (eCB i) .nil))) st = .ok (.bl true) st := by
    rw [evalE, evalB, evalB, bindR_ok h, bindR_ok (show truR (.bl true) st = .ok true st from rfl)]
    · exact h2
    · intro z; cases z
  rw [e]
theorem sameB_lst {xs : List D} (hl : xs.length ≤ big) (hF : ∀ x ∈ xs, F i [x, x] b = .ok (.bl true) b) : runF F con fw ⟨2, 4, bSameB i a4⟩ [.lst xs, .lst xs] b = .ok (.bl true) b := by
  have hr : rngOk (xs.length : Int) = true := by
    have h2 : xs.length ≤ 16000000 := hl
    unfold rngOk
    rw [Bool.and_eq_true, decide_eq_true_eq, decide_eq_true_eq]
    exact ⟨by omega, by omega⟩
  have hc := compR_none (cond := evalT F con (cSameB i)) (elt := evalE F con (.slot 2)) (j := 2) (env := [.v (.lst xs), .v (.lst xs), .no, .no]) (b := b) rfl (xs := rangeD 0 (xs.length : Int)) (by rw [rng_len]; exact hl) fun y hy => by
    obtain ⟨k, hk, rfl⟩ := rng_mem hy
    have f := hF xs[k] (List.getElem_mem hk)
    simp [cSameB, evalT, evalE, evalEs, bindR, retR, optR, slotE, slotP, pk, ixD, at_get hk, callR, f, truR, truD]
  exact run_of rfl ((seqB_tests (.inl ⟨xs, rfl, rfl⟩)).trans (u3 (u0 (ev_len (.inl rfl)) (ev_len (.inl rfl))) (u2 (u1 (ev_rlen (.inl rfl) hr) hc))))
theorem sameB_tup {xs : List D} (hl : xs.length ≤ big) (hF : ∀ x ∈ xs, F i [x, x] b = .ok (.bl true) b) : runF F con fw ⟨2, 4, bSameB i a4⟩ [.tup xs, .tup xs] b = .ok (.bl true) b := by
  have hr : rngOk (xs.length : Int) = true := by
    have h2 : xs.length ≤ 16000000 := hl
    unfold rngOk
    rw [Bool.and_eq_true, decide_eq_true_eq, decide_eq_true_eq]
    exact ⟨by omega, by omega⟩
  have hc := compR_none (cond := evalT F con (cSameB i)) (elt := evalE F con (.slot 2)) (j := 2) (env := [.v (.tup xs), .v (.tup xs), .no, .no]) (b := b) rfl (xs := rangeD 0 (xs.length : Int)) (by rw [rng_len]; exact hl) fun y hy => by
    obtain ⟨k, hk, rfl⟩ := rng_mem hy
    have f := hF xs[k] (List.getElem_mem hk)
    simp [cSameB, evalT, evalE, evalEs, bindR, retR, optR, slotE, slotP, pk, ixD, at_get hk, callR, f, truR, truD]
  exact run_of rfl ((seqB_tests (.inr ⟨xs, rfl, rfl⟩)).trans (u3 (u0 (ev_len (.inr rfl)) (ev_len (.inr rfl))) (u2 (u1 (ev_rlen (.inr rfl) hr) hc))))
end
/-- the same text -/
def SameTB (x : Str) : Prop := ∀ (F : FT) (con : Nat → D) (fw i : Nat) (a4 : PSts) (b : Bx), runF F con fw ⟨2, 4, bSameB i a4⟩ [.str x, .str x] b = .ok (.bl true) b
theorem sb_fraction : SameTB "fraction" := fun F con fw i a4 b => by kernel_rfl
theorem sb_rate : SameTB "rate" := fun F con fw i a4 b => by kernel_rfl
theorem sb_number : SameTB "number" := fun F con fw i a4 b => by kernel_rfl
theorem sb_flow : SameTB "flow" := fun F con fw i a4 b => by kernel_rfl
theorem sb_1 : SameTB "1" := fun F con fw i a4 b => by kernel_rfl
theorem sb_5 : SameTB "5" := fun F con fw i a4 b => by kernel_rfl
theorem sb_9 : SameTB "9" := fun F con fw i a4 b => by kernel_rfl
theorem sb_12 : SameTB "12" := fun F con fw i a4 b => by kernel_rfl
/-- plain data of a depth -/
inductive PlB : Nat → D → Prop
  | non {n : Nat} : PlB n .non
  | bl {n : Nat} (x : Bool) : PlB n (.bl x)
  | int {n : Nat} (x : Int) : PlB n (.int x)
  | str {n : Nat} {x : Str} (h : SameTB x) : PlB n (.str x)
  | lst {n : Nat} {xs : List D} (hl : xs.length ≤ big) (h : ∀ x ∈ xs, PlB n x) : PlB (n + 1) (.lst xs)
  | tup {n : Nat} {xs : List D} (hl : xs.length ≤ big) (h : ∀ x ∈ xs, PlB n x) : PlB (n + 1) (.tup xs)
theorem PlB.up : ∀ {n : Nat} {d : D}, PlB n d → PlB (n + 1) d
  | _, _, .non => .non
  | _, _, .bl x => .bl x
  | _, _, .int x => .int x
  | _, _, .str h => .str h
  | _, _, .lst hl h => .lst hl fun x hx => (h x hx).up
  | _, _, .tup hl h => .tup hl fun x hx => (h x hx).up
theorem PlB.upTo {n : Nat} {d : D} (h : PlB n d) {m : Nat} (hl : n ≤ m) : PlB m d := by
  obtain ⟨k, rfl⟩ := Nat.le.dest hl
  induction k with
  | zero => exact h
  | succ k ih => exact (ih (Nat.le_add_right _ _)).up
theorem plB_all {n : Nat} {xs : List D} (h : ∀ x ∈ xs, PlB n x) (hl : xs.length ≤ 1000000) : PlB (n + 1) (.lst xs) := .lst (by unfold big; omega) h
theorem plB_pair {n : Nat} {x y : D} (hx : PlB n x) (hy : PlB n y) : PlB (n + 1) (.lst [x, y]) := .lst (by show 2 ≤ big; decide) fun z hz => by
  rcases List.mem_cons.mp hz with rfl | hz
  · exact hx
  · rw [List.mem_singleton.mp hz]; exact hy
theorem plB_two {n : Nat} {x y : D} (hx : PlB n x) (hy : PlB n y) : PlB (n + 1) (.tup [x, y]) := .tup (by show 2 ≤ big; decide) fun z hz => by
  rcases List.mem_cons.mp hz with rfl | hz
  · exact hx
  · rw [List.mem_singleton.mp hz]; exact hy
theorem plB_q (q : Rat) : PlB 1 (qD q) := plB_two (.int _) (.int _)
theorem sameB_step {F : FT} {con : Nat → D} {fw i : Nat} {b : Bx} {a4 : PSts} {n : Nat} {d : D} (h : PlB n d) (hF : ∀ m e, n = m + 1 → PlB m e → F i [e, e] b = .ok (.bl true) b) : runF F con fw ⟨2, 4, bSameB i a4⟩ [d, d] b = .ok (.bl true) b := by
  cases h with
  | non => exact sameB_non
  | bl x => exact sameB_bl x
  | int x => exact sameB_int x
  | str h => exact h _ _ _ _ _ _
  | lst hl h => exact sameB_lst hl fun x hx => hF _ x rfl (h x hx)
  | tup hl h => exact sameB_tup hl fun x hx => hF _ x rfl (h x hx)
theorem sameB_all {defs : List Df} {con : Nat → D} {fw i : Nat} {a4 : PSts} (hd : defs[i]? = some ⟨2, 4, bSameB i a4⟩) : ∀ (n k : Nat) (d : D) (b : Bx), PlB n d → evF defs con fw (n + k + 3) i [d, d] b = .ok (.bl true) b := by
  have ev : ∀ (k : Nat) (ds : List D) (b : Bx), evF defs con fw (k + 3) i ds b = runF (evF defs con fw (k + 2)) con fw ⟨2, 4, bSameB i a4⟩ ds b := fun k ds b => by
    show (if k + 2 < 2 then RF.bad else match defs[i]? with | some d => runF (evF defs con fw (k + 2)) con fw d ds b | none => .bad) = _
    rw [if_neg (by omega), hd]
  intro n
  induction n with
  | zero =>
    intro k d b h
    rw [ev]
    exact sameB_step h (fun m e hm => by omega)
  | succ n ih =>
    intro k d b h
    rw [ev]
    refine sameB_step h (fun m e hm he => ?_)
    have hm : m = n := by omega
    subst hm
    rw [show m + 1 + k + 2 = m + k + 3 from by omega]
    exact ih k e b he
end PV

/-! rates, sums of steps, payments -/
namespace PV
open PySem PySem.Spec
def bChkF (f e : Nat) : PSts := (.cons (.iff (.not (.val (.call f (.cons (.slot 0) .nil)))) (.cons (.raise e 1 (.cons (.slot 0) .nil)) .nil) .nil) .nil)
def bIsRate (f : Nat) : PSts := (.cons (.ret (.bop true (.cons (.call f (.cons (.slot 0) .nil)) (.cons (.cmp .gt (.bin .add (.ix (.slot 0) (.int 0)) (.ix (.slot 0) (.int 1))) (.int 0)) .nil)))) .nil)
def bFactor (a one : Nat) : PSts := (.cons (.ret (.call a (.cons (.glob one) (.cons (.slot 0) .nil)))) .nil)
def lSteps (a m one : Nat) : PSts := (.cons (.asg (.name 2) (.call a (.cons (.glob one) (.cons (.call m (.cons (.slot 0) (.cons (.slot 2) .nil))) .nil)))) .nil)
def bSteps (a m one zero : Nat) : PSts := (.cons (.asg (.name 2) (.glob zero)) (.cons (.for (.name 3) (.range1 (.slot 1)) (lSteps a m one)) (.cons (.ret (.slot 2)) .nil)))
def bWorth (d f m s one : Nat) : PSts := (.cons (.asg (.name 4) (.call d (.cons (.glob one) (.cons (.call f (.cons (.slot 1) .nil)) .nil)))) (.cons (.ret (.call m (.cons (.call m (.cons (.slot 0) (.cons (.slot 4) .nil))) (.cons (.call s (.cons (.call m (.cons (.call f (.cons (.slot 2) .nil)) (.cons (.slot 4) .nil))) (.cons (.slot 3) .nil))) .nil)))) .nil))
def bPayFor (d w one zero : Nat) : PSts := (.cons (.ret (.call d (.cons (.slot 0) (.cons (.call w (.cons (.glob one) (.cons (.slot 1) (.cons (.glob zero) (.cons (.slot 2) .nil))))) .nil)))) .nil)
def rateB (d : D) : Bool := frB d && (match d with
  | .tup [.int a, .int c] => decide (0 < a + c)
  | _ => false)
/-- 1 and the powers of a fraction, so many together -/
def hornQ (q : Rat) : Nat → Rat
  | 0 => 0
  | n + 1 => 1 + q * hornQ q n
def powQ (q : Rat) : Nat → Rat
  | 0 => 1
  | n + 1 => powQ q n * q
theorem horn_pow (q : Rat) : ∀ n, hornQ q n + powQ q n = 1 + q * hornQ q n
  | 0 => by simp only [hornQ, powQ]; grind
  | n + 1 => by
    have ih := horn_pow q n
    simp only [hornQ, powQ]
    grind
theorem pow_mul (p q : Rat) : ∀ n, powQ (p * q) n = powQ p n * powQ q n
  | 0 => by simp only [powQ]; grind
  | n + 1 => by
    have ih := pow_mul p q n
    simp only [powQ]
    grind
theorem geo (s : Rat) : ∀ n, (1 - s) * hornQ s n = 1 - powQ s n
  | 0 => by simp only [hornQ, powQ]; grind
  | n + 1 => by
    have ih := horn_pow s n
    have i2 := geo s n
    simp only [hornQ, powQ]
    grind
theorem horn_nn {q : Rat} (h : 0 ≤ q) : ∀ n, 0 ≤ hornQ q n
  | 0 => Rat.le_refl
  | n + 1 => by
    have := Rat.mul_nonneg h (horn_nn h n)
    exact Rat.le_of_lt (by
      have := add_pos' this (show (0 : Rat) < 1 by decide)
      rw [Rat.add_comm] at this
      exact this)
theorem horn_pos {q : Rat} (h : 0 ≤ q) {n : Nat} (hn : 1 ≤ n) : 0 < hornQ q n := by
  obtain ⟨k, rfl⟩ : ∃ k, n = k + 1 := ⟨n - 1, by omega⟩
  have := add_pos' (Rat.mul_nonneg h (horn_nn h k)) (show (0 : Rat) < 1 by decide)
  rw [Rat.add_comm] at this
  exact this
theorem pow_pos' {q : Rat} (h : 0 < q) : ∀ n, 0 < powQ q n
  | 0 => by show (0 : Rat) < 1; decide
  | n + 1 => Rat.mul_pos (pow_pos' h n) h
theorem horn_sz {q : Rat} {m : Nat} (h : Sz m q) : ∀ n, Sz (1 + n * (m + 2)) (hornQ q n)
  | 0 => sz0.mono (by omega)
  | n + 1 => (sz1.add (h.mul (horn_sz h n))).mono (by rw [Nat.succ_mul]; omega)
theorem pow_sz {q : Rat} {m : Nat} (h : Sz m q) : ∀ n, Sz (1 + n * m) (powQ q n)
  | 0 => sz1.mono (by omega)
  | n + 1 => ((pow_sz h n).mul h).mono (by rw [Nat.succ_mul]; omega)
/-- the present value of so many growing payments -/
def worthQ (a r g : Rat) (n : Nat) : Rat := a * (1 / (1 + r)) * hornQ ((1 + g) * (1 / (1 + r))) n
def ChkFAt (F : FT) (i e : Nat) : Prop := ∀ (d : D) (b : Bx), nf1 d = true → F i [d] b = if frB d then .ok .non b else .exc e [d] b
def RateAt (F : FT) (i : Nat) : Prop := ∀ (d : D) (b : Bx), nf1 d = true → F i [d] b = .ok (.bl (rateB d)) b
def ChkRAt (F : FT) (i e : Nat) : Prop := ∀ (d : D) (b : Bx), nf1 d = true → F i [d] b = if rateB d then .ok .non b else .exc e [d] b
def FacAt (F : FT) (i : Nat) : Prop := ∀ (r : Rat) (n : Nat) (b : Bx), Sz n r → n ≤ 4000 → F i [qD r] b = .ok (qD (1 + r)) b
def StepsAt (F : FT) (i : Nat) : Prop := ∀ (q : Rat) (n m : Nat) (b : Bx), Sz m q → m ≤ 40 → n ≤ 60 → F i [qD q, .int n] b = .ok (qD (hornQ q n)) b
def WorthAt (F : FT) (i : Nat) : Prop := ∀ (a r g : Rat) (n m : Nat) (b : Bx), Sz m a → m ≤ 2500 → Sz 11 (1 + r) → Sz 9 r → 0 < 1 + r → Sz 11 (1 + g) → Sz 9 g → n ≤ 60 → F i [qD a, qD r, qD g, .int n] b = .ok (qD (worthQ a r g n)) b
def PayAt (F : FT) (i : Nat) : Prop := ∀ (a r : Rat) (n : Nat) (b : Bx), Sz 40 a → Sz 9 r → 0 < 1 + r → 1 ≤ n → n ≤ 60 → F i [qD a, qD r, .int n] b = .ok (qD (a / worthQ 1 r 0 n)) b
section
variable {F : FT} {con : Nat → D} {fw : Nat} {b : Bx} {d : D}
theorem run_chkF {f e : Nat} (hF : FrAt F f) (h : nf1 d = true) : runF F con fw ⟨1, 1, bChkF f e⟩ [d] b = if frB d then .ok .non b else .exc e [d] b := by
  have eF := hF d b h
  cases hb : frB d with
  | true => simp [runF, bChkF, evalSs, evalS, evalE, evalEs, evalT, bindS, bindR, retR, optR, slotE, slotP, pk, truR, truD, callR, eF, hb]
  | false => simp [runF, bChkF, evalSs, evalS, evalE, evalEs, evalT, bindS, bindR, retR, optR, slotE, slotP, pk, truR, truD, callR, eF, hb]
theorem run_chkR {f e : Nat} (hF : RateAt F f) (h : nf1 d = true) : runF F con fw ⟨1, 1, bChkF f e⟩ [d] b = if rateB d then .ok .non b else .exc e [d] b := by
  have eF := hF d b h
  cases hb : rateB d with
  | true => simp [runF, bChkF, evalSs, evalS, evalE, evalEs, evalT, bindS, bindR, retR, optR, slotE, slotP, pk, truR, truD, callR, eF, hb]
  | false => simp [runF, bChkF, evalSs, evalS, evalE, evalEs, evalT, bindS, bindR, retR, optR, slotE, slotP, pk, truR, truD, callR, eF, hb]
theorem run_isRate {f : Nat} (hF : FrAt F f) (h : nf1 d = true) : runF F con fw ⟨1, 1, bIsRate f⟩ [d] b = .ok (.bl (rateB d)) b := by
  have eF := hF d b h
  cases hb : frB d with
  | true =>
    obtain ⟨a, c, rfl, _⟩ := fr_of hb
    have hr : rateB (.tup [.int a, .int c]) = decide (0 < a + c) := by unfold rateB; rw [hb]; simp
    rw [hr]
    simp [runF, bIsRate, evalSs, evalS, evalE, evalEs, evalB, bindS, bindR, retR, optR, slotE, slotP, pk, truR, truD, callR, eF, hb, ixD, at0, at1, binD, cpD]
  | false =>
    have hr : rateB d = false := by unfold rateB; rw [hb]; rfl
    rw [hr]
    simp [runF, bIsRate, evalSs, evalS, evalE, evalEs, evalB, bindS, bindR, retR, optR, slotE, slotP, pk, truR, truD, callR, eF, hb]
theorem run_factor {a one : Nat} (hA : AddAt F a) (h1 : con one = qD 1) {r : Rat} {n : Nat} (hr : Sz n r) (hn : n ≤ 4000) : runF F con fw ⟨1, 1, bFactor a one⟩ [qD r] b = .ok (qD (1 + r)) b := by
  have e := hA 1 r 1 n b sz1 hr (by omega)
  simp [runF, bFactor, evalSs, evalS, evalE, evalEs, bindS, bindR, retR, slotE, callR, e, h1]
theorem steps_loop {a m one : Nat} (hA : AddAt F a) (hM : MulAt F m) (h1 : con one = qD 1) {q : Rat} {sz : Nat} (hq : Sz sz q) (hs : sz ≤ 40) {x1 : Sl} : ∀ (xs : List D) {k : Nat} {y : Sl}, k + xs.length ≤ 60 → ∃ y', loopF (.name 3) (evalSs F con fw (lSteps a m one)) xs ⟨[.v (qD q), x1, .v (qD (hornQ q k)), y], b⟩ = .next ⟨[.v (qD q), x1, .v (qD (hornQ q (k + xs.length))), y'], b⟩
  | [], k, y, _ => ⟨y, rfl⟩
  | x :: xs, k, y, h => by
    rw [List.length_cons] at h
    have hz := horn_sz hq k
    have hz2 : 1 + k * (sz + 2) ≤ 3000 := by
      have : k * (sz + 2) ≤ 60 * 42 := Nat.mul_le_mul (by omega) (by omega)
      omega
    have e1 := hM q (hornQ q k) sz _ b hq hz (by omega)
    have e2 := hA 1 (q * hornQ q k) 1 _ b sz1 (hq.mul hz) (by omega)
    obtain ⟨y', e3⟩ := steps_loop hA hM h1 hq hs (x1 := x1) xs (k := k + 1) (y := .v x) (by omega)
    refine ⟨y', ?_⟩
    unfold loopF
    have eb : evalSs F con fw (lSteps a m one) ⟨[.v (qD q), x1, .v (qD (hornQ q k)), .v x], b⟩ = .next ⟨[.v (qD q), x1, .v (qD (hornQ q (k + 1))), .v x], b⟩ := by
      simp [lSteps, evalSs, evalS, evalE, evalEs, bindS, bindR, retR, slotE, callR, e1, e2, h1, asgT, hornQ]
    simp [asgT, eb]
    rw [e3]
    simp [Nat.add_assoc, Nat.add_comm 1]
theorem run_steps {a m one zero : Nat} (hA : AddAt F a) (hM : MulAt F m) (h1 : con one = qD 1) (h0 : con zero = qD 0) {q : Rat} {n sz : Nat} (hq : Sz sz q) (hs : sz ≤ 40) (hn : n ≤ 60) : runF F con fw ⟨2, 4, bSteps a m one zero⟩ [qD q, .int n] b = .ok (qD (hornQ q n)) b := by
  obtain ⟨y', e⟩ := steps_loop (con := con) (fw := fw) (b := b) hA hM h1 hq hs (x1 := .v (.int (n : Int))) (rangeD 0 (n : Int)) (k := 0) (y := .no) (by rw [rng_len]; omega)
  rw [rng_len, Nat.zero_add] at e
  refine run_of rfl ?_
  unfold bSteps
  refine sq (s' := ⟨[.v (qD q), .v (.int (n : Int)), .v (qD 0), .no], b⟩) ?_ (sq (s' := ⟨[.v (qD q), .v (.int (n : Int)), .v (qD (hornQ q n)), y'], b⟩) ?_ (sr (ev_ret (ev_slot (s := ⟨[.v (qD q), .v (.int (n : Int)), .v (qD (hornQ q n)), y'], b⟩) rfl))))
  · simp [evalS, evalE, bindS, retR, h0, asgT]
  · rw [ev_for (ev_range1s (n := n) (ev_slot rfl) (by omega))]
    exact e
theorem run_worth {di f m s one : Nat} (hD : DivAt F di) (hf : FacAt F f) (hM : MulAt F m) (hs : StepsAt F s) (h1 : con one = qD 1) {a r g : Rat} {n k : Nat} (ha : Sz k a) (hk : k ≤ 2500) (hr : Sz 11 (1 + r)) (hr9 : Sz 9 r) (hp : 0 < 1 + r) (hg : Sz 11 (1 + g)) (hg9 : Sz 9 g) (hn : n ≤ 60) : runF F con fw ⟨4, 5, bWorth di f m s one⟩ [qD a, qD r, qD g, .int n] b = .ok (qD (worthQ a r g n)) b := by
  have e1 := hf r 9 b hr9 (by omega)
  have e2 := hD 1 (1 + r) 1 11 b sz1 hr (by omega) (num_ne hp)
  have z2 : Sz 12 (1 / (1 + r)) := sz1.div hr (num_ne hp)
  have e3 := hM a (1 / (1 + r)) k 12 b ha z2 (by omega)
  have e4 := hf g 9 b hg9 (by omega)
  have e5 := hM (1 + g) (1 / (1 + r)) 11 12 b hg z2 (by omega)
  have z5 : Sz 23 ((1 + g) * (1 / (1 + r))) := hg.mul z2
  have e6 := hs _ n 23 b z5 (by omega) hn
  have z6 := horn_sz z5 n
  have z7 : 1 + n * (23 + 2) ≤ 1600 := by omega
  have e7 := hM _ _ (k + 12) _ b (ha.mul z2) z6 (by omega)
  unfold worthQ
  simp [runF, bWorth, evalSs, evalS, evalE, evalEs, bindS, bindR, retR, slotE, callR, h1, asgT, e1, e2, e3, e4, e5, e6, e7]
theorem worth_sz {a r g : Rat} {n k : Nat} (ha : Sz k a) (hr : Sz 11 (1 + r)) (hp : 0 < 1 + r) (hg : Sz 11 (1 + g)) (hn : n ≤ 60) : Sz (k + 1700) (worthQ a r g n) := by
  have z2 : Sz 12 (1 / (1 + r)) := sz1.div hr (num_ne hp)
  exact ((ha.mul z2).mul (horn_sz (hg.mul z2) n)).mono (by omega)
theorem inv_pos' {q : Rat} (h : 0 < q) : 0 < 1 / q := by
  have := (Rat.lt_div_iff (a := 0) (b := 1) h).mpr (by rw [Rat.zero_mul]; decide)
  exact this
theorem worth_pos {a r g : Rat} {n : Nat} (ha : 0 < a) (hp : 0 < 1 + r) (hg : 0 < 1 + g) (hn : 1 ≤ n) : 0 < worthQ a r g n := by
  have i := inv_pos' hp
  exact Rat.mul_pos (Rat.mul_pos ha i) (horn_pos (Rat.le_of_lt (Rat.mul_pos hg i)) hn)
theorem sz_one0 : Sz 11 ((1 : Rat) + 0) := by rw [Rat.add_zero]; exact sz1.mono (by omega)
theorem run_payFor {di w one zero : Nat} (hD : DivAt F di) (hW : WorthAt F w) (h1 : con one = qD 1) (h0 : con zero = qD 0) {a r : Rat} {n : Nat} (ha : Sz 40 a) (hr9 : Sz 9 r) (hp : 0 < 1 + r) (hn1 : 1 ≤ n) (hn : n ≤ 60) : runF F con fw ⟨3, 3, bPayFor di w one zero⟩ [qD a, qD r, .int n] b = .ok (qD (a / worthQ 1 r 0 n)) b := by
  have hr : Sz 11 (1 + r) := (sz1.add hr9).mono (by omega)
  have e1 := hW 1 r 0 n 1 b sz1 (by omega) hr hr9 hp sz_one0 (sz0.mono (by omega)) hn
  have wp := worth_pos (a := 1) (r := r) (g := 0) (n := n) (by decide) hp (by rw [Rat.add_zero]; decide) hn1
  have e2 := hD a _ 40 1701 b ha (worth_sz sz1 hr hp sz_one0 hn) (by omega) (num_ne wp)
  simp [runF, bPayFor, evalSs, evalS, evalE, evalEs, bindS, bindR, retR, slotE, callR, h1, h0, e1, e2]
end
end PV

/-! drawn rates, and what is none -/
namespace PV
open PySem PySem.Spec
def bLRate (l t : Nat) : PSts := (.cons (.asg (.name 1) (.lst (.cons (.tup (.cons (.int 0) (.cons (.int 1) .nil))) (.cons (.tup (.cons (.int 1) (.cons (.int 10) .nil))) (.cons (.tup (.cons (.int 1) (.cons (.int 20) .nil))) (.cons (.call l (.cons (.bin .add (.int 1) (.call t (.cons (.slot 0) (.cons (.int 12) .nil)))) (.cons (.int 12) .nil))) (.cons (.tup (.cons (.int 1) (.cons (.int 1) .nil))) (.cons (.call l (.cons (.bin .sub (.neg (.int 1)) (.call t (.cons (.slot 0) (.cons (.int 5) .nil)))) (.cons (.int 7) .nil))) .nil)))))))) (.cons (.asg (.name 1) (.bin .add (.slot 1) (.lst (.cons (.tup (.cons (.call t (.cons (.slot 0) (.cons (.int 4) .nil))) (.cons (.int 1) .nil))) (.cons (.call l (.cons (.bin .add (.int 3) (.call t (.cons (.slot 0) (.cons (.int 40) .nil)))) (.cons (.int 400) .nil))) .nil))))) (.cons (.ret (.ix (.slot 1) (.call t (.cons (.slot 0) (.cons (.int 8) .nil))))) .nil)))
def bNoFr (t : Nat) : PSts := (.cons (.ret (.ix (.lst (.cons .non (.cons (.int 5) (.cons (.bl true) (.cons (.str "1") (.cons (.tup (.cons (.int 2) (.cons (.int 4) .nil))) (.cons (.tup (.cons (.int 1) (.cons (.int 0) .nil))) (.cons (.tup (.cons (.int 1) (.cons (.neg (.int 2)) .nil))) (.cons (.tup (.cons (.int 0) (.cons (.int 2) .nil))) (.cons (.lst (.cons (.int 1) (.cons (.int 2) .nil))) (.cons (.tup (.cons (.int 1) (.cons (.bl true) .nil))) (.cons (.tup (.cons (.int 1) .nil)) (.cons (.tup (.cons (.tup (.cons (.int 1) (.cons (.int 1) .nil))) (.cons (.int 1) .nil))) .nil))))))))))))) (.call t (.cons (.slot 0) (.cons (.int 12) .nil))))) .nil)
def bNoRate (f t : Nat) : PSts := (.cons (.ret (.ix (.lst (.cons (.tup (.cons (.neg (.int 1)) (.cons (.int 1) .nil))) (.cons (.tup (.cons (.neg (.int 3)) (.cons (.int 2) .nil))) (.cons (.call f (.cons (.slot 0) .nil)) (.cons (.call f (.cons (.slot 0) .nil)) .nil))))) (.call t (.cons (.slot 0) (.cons (.int 4) .nil))))) .nil)
def bNoNum (t : Nat) : PSts := (.cons (.ret (.ix (.lst (.cons (.int 0) (.cons (.int 61) (.cons (.neg (.int 1)) (.cons .non (.cons (.bl true) (.cons (.str "5") (.cons (.tup (.cons (.int 5) .nil)) (.cons (.tup (.cons (.int 5) (.cons (.int 1) .nil))) (.cons (.bin .pow (.int 10) (.int 29)) .nil)))))))))) (.call t (.cons (.slot 0) (.cons (.int 9) .nil))))) .nil)
theorem atI_mem {xs : List D} {t : Int} (h0 : 0 ≤ t) (h1 : t < xs.length) : ∃ x ∈ xs, L2.atI xs t = some x := by
  obtain ⟨k, rfl⟩ := Int.eq_ofNat_of_zero_le h0
  have hk : k < xs.length := by omega
  exact ⟨xs[k], List.getElem_mem hk, at_get hk⟩
/-- no fraction -/
structure NoF (x : D) : Prop where
  nf : nf1 x = true
  fr : frB x = false
  pl : PlB 2 x
/-- no rate -/
structure NoR (x : D) : Prop where
  nf : nf1 x = true
  rt : rateB x = false
  lo : frB x = false ∨ ∃ a c : Int, x = .tup [.int a, .int c] ∧ a < 1
  pl : PlB 2 x
/-- no number from 1 to 60 -/
structure NoN60 (x : D) : Prop where
  nf : nf0 x = true
  bt : betB x 1 60 = false
  pl : PlB 2 x
def RateDrAt (F : FT) (i : Nat) : Prop := ∀ (m : Nat) (b : Bx), BI m b → m ≤ 900000000 → ∃ (r : Rat) (b' : Bx), F i [.box] b = .ok (qD r) b' ∧ Sz 9 r ∧ 0 < 1 + r ∧ BI (m + 5) b'
def NoFrAt (F : FT) (i : Nat) : Prop := ∀ (m : Nat) (b : Bx), BI m b → m ≤ 950000000 → ∃ (x : D) (b' : Bx), F i [.box] b = .ok x b' ∧ NoF x ∧ BI (m + 1) b'
def NoRAt (F : FT) (i : Nat) : Prop := ∀ (m : Nat) (b : Bx), BI m b → m ≤ 900000000 → ∃ (x : D) (b' : Bx), F i [.box] b = .ok x b' ∧ NoR x ∧ BI (m + 3) b'
def NoNAt (F : FT) (i : Nat) : Prop := ∀ (m : Nat) (b : Bx), BI m b → m ≤ 900000000 → ∃ (x : D) (b' : Bx), F i [.box] b = .ok x b' ∧ NoN60 x ∧ BI (m + 1) b'
theorem rate_of {r : Rat} : rateB (qD r) = true ↔ 0 < 1 + r := by
  have h1 : rateB (qD r) = decide (0 < r.num + (r.den : Int)) := by
    unfold rateB
    rw [fr_qD]
    simp [qD]
  rw [h1, decide_eq_true_eq]
  have e1 : (0 : Rat) < 1 + r ↔ -1 < r := by
    rw [← Rat.add_lt_add_left (c := -1) (a := 0) (b := 1 + r)]
    have a1 : (-1 : Rat) + 0 = -1 := by grind
    have a2 : (-1 : Rat) + (1 + r) = r := by grind
    rw [a1, a2]
  have hn : (-1 : Rat).num = -1 := rfl
  have hd : (-1 : Rat).den = 1 := rfl
  rw [e1, Rat.lt_iff, hn, hd]
  omega
theorem noF_R {x : D} (h : NoF x) : NoR x := ⟨h.nf, by unfold rateB; rw [h.fr]; rfl, .inl h.fr, h.pl⟩
section
variable {F : FT} {con : Nat → D} {fw : Nat}
theorem run_noFr {t : Nat} (hT : TakeAt F t) : ∀ (m : Nat) (b : Bx), BI m b → m ≤ 950000000 → ∃ (x : D) (b' : Bx), runF F con fw ⟨1, 1, bNoFr t⟩ [.box] b = .ok x b' ∧ NoF x ∧ BI (m + 1) b' := fun m b hb hm => by
  obtain ⟨u, b1, e1, p1, p2, i1⟩ := hT 12 m b (by omega) (by omega) hb (by omega)
  have pi : ∀ x : D, PlB 0 x → PlB 2 x := fun x h => h.upTo (by omega)
  have hL : ∀ x ∈ ([.non, .int 5, .bl true, .str "1", .tup [.int 2, .int 4], .tup [.int 1, .int 0], .tup [.int 1, .int (-2)], .tup [.int 0, .int 2], .lst [.int 1, .int 2], .tup [.int 1, .bl true], .tup [.int 1], .tup [.tup [.int 1, .int 1], .int 1]] : List D), NoF x := by
    intro x hx
    simp only [List.mem_cons, List.not_mem_nil, or_false] at hx
    rcases hx with rfl | rfl | rfl | rfl | rfl | rfl | rfl | rfl | rfl | rfl | rfl | rfl
    · exact ⟨rfl, rfl, .non⟩
    · exact ⟨rfl, rfl, .int _⟩
    · exact ⟨rfl, rfl, .bl _⟩
    · exact ⟨rfl, rfl, .str sb_1⟩
    · exact ⟨rfl, by decide, plB_two (.int _) (.int _)⟩
    · exact ⟨rfl, rfl, plB_two (.int _) (.int _)⟩
    · exact ⟨rfl, rfl, plB_two (.int _) (.int _)⟩
    · exact ⟨rfl, by decide, plB_two (.int _) (.int _)⟩
    · exact ⟨rfl, rfl, plB_pair (.int _) (.int _)⟩
    · exact ⟨rfl, rfl, plB_two (.int _) (.bl _)⟩
    · exact ⟨rfl, rfl, .tup big1 fun y hy => by rw [List.mem_singleton.mp hy]; exact .int _⟩
    · exact ⟨rfl, rfl, plB_two (plB_two (.int _) (.int _)) (.int _)⟩
  obtain ⟨x, hx, ha⟩ := atI_mem (xs := [.non, .int 5, .bl true, .str "1", .tup [.int 2, .int 4], .tup [.int 1, .int 0], .tup [.int 1, .int (-2)], .tup [.int 0, .int 2], .lst [.int 1, .int 2], .tup [.int 1, .bl true], .tup [.int 1], .tup [.tup [.int 1, .int 1], .int 1]]) p1 p2
  refine ⟨x, b1, ?_, hL x hx, i1⟩
  simp [runF, bNoFr, evalSs, evalS, evalE, evalEs, bindS, bindR, retR, optR, slotE, pk, callR, e1, intR, ixD, ha, big1, big2, big12]
theorem run_noRate {f t : Nat} (hT : TakeAt F t) (hN : NoFrAt F f) : ∀ (m : Nat) (b : Bx), BI m b → m ≤ 900000000 → ∃ (x : D) (b' : Bx), runF F con fw ⟨1, 1, bNoRate f t⟩ [.box] b = .ok x b' ∧ NoR x ∧ BI (m + 3) b' := fun m b hb hm => by
  obtain ⟨x1, b1, e1, h1, i1⟩ := hN m b hb (by omega)
  obtain ⟨x2, b2, e2, h2, i2⟩ := hN (m + 1) b1 i1 (by omega)
  obtain ⟨u, b3, e3, p1, p2, i3⟩ := hT 4 (m + 2) b2 (by omega) (by omega) i2 (by omega)
  have hL : ∀ x ∈ ([.tup [.int (-1), .int 1], .tup [.int (-3), .int 2], x1, x2] : List D), NoR x := by
    intro x hx
    simp only [List.mem_cons, List.not_mem_nil, or_false] at hx
    rcases hx with rfl | rfl | rfl | rfl
    · exact ⟨rfl, by decide, .inr ⟨_, _, rfl, by decide⟩, plB_two (.int _) (.int _)⟩
    · exact ⟨rfl, by decide, .inr ⟨_, _, rfl, by decide⟩, plB_two (.int _) (.int _)⟩
    · exact noF_R h1
    · exact noF_R h2
  obtain ⟨x, hx, ha⟩ := atI_mem (xs := [.tup [.int (-1), .int 1], .tup [.int (-3), .int 2], x1, x2]) p1 p2
  refine ⟨x, b3, ?_, hL x hx, i3⟩
  simp [runF, bNoRate, evalSs, evalS, evalE, evalEs, bindS, bindR, retR, optR, slotE, pk, callR, e1, e2, e3, intR, ixD, ha, big1, big2, big4]
theorem run_noNum {t : Nat} (hT : TakeAt F t) : ∀ (m : Nat) (b : Bx), BI m b → m ≤ 900000000 → ∃ (x : D) (b' : Bx), runF F con fw ⟨1, 1, bNoNum t⟩ [.box] b = .ok x b' ∧ NoN60 x ∧ BI (m + 1) b' := fun m b hb hm => by
  obtain ⟨u, b1, e1, p1, p2, i1⟩ := hT 9 m b (by omega) (by omega) hb (by omega)
  have hL : ∀ x ∈ ([.int 0, .int 61, .int (-1), .non, .bl true, .str "5", .tup [.int 5], .tup [.int 5, .int 1], .int 100000000000000000000000000000] : List D), NoN60 x := by
    intro x hx
    simp only [List.mem_cons, List.not_mem_nil, or_false] at hx
    rcases hx with rfl | rfl | rfl | rfl | rfl | rfl | rfl | rfl | rfl
    · exact ⟨rfl, by decide, .int _⟩
    · exact ⟨rfl, by decide, .int _⟩
    · exact ⟨rfl, by decide, .int _⟩
    · exact ⟨rfl, rfl, .non⟩
    · exact ⟨rfl, rfl, .bl _⟩
    · exact ⟨rfl, rfl, .str sb_5⟩
    · exact ⟨rfl, rfl, .tup big1 fun y hy => by rw [List.mem_singleton.mp hy]; exact .int _⟩
    · exact ⟨rfl, rfl, plB_two (.int _) (.int _)⟩
    · exact ⟨rfl, by decide, .int _⟩
  obtain ⟨x, hx, ha⟩ := atI_mem (xs := [.int 0, .int 61, .int (-1), .non, .bl true, .str "5", .tup [.int 5], .tup [.int 5, .int 1], .int 100000000000000000000000000000]) p1 p2
  refine ⟨x, b1, ?_, hL x hx, i1⟩
  simp [runF, bNoNum, evalSs, evalS, evalE, evalEs, bindS, bindR, retR, optR, slotE, pk, callR, e1, intR, binD, powOk, ixD, ha, big1, big2, big9]
theorem run_lrate {l t : Nat} (hT : TakeAt F t) (hL : LowAt F l) : ∀ (m : Nat) (b : Bx), BI m b → m ≤ 900000000 → ∃ (r : Rat) (b' : Bx), runF F con fw ⟨1, 2, bLRate l t⟩ [.box] b = .ok (qD r) b' ∧ Sz 9 r ∧ 0 < 1 + r ∧ BI (m + 5) b' := fun m b hb hm => by
  obtain ⟨t1, b1, e1, p1, q1, i1⟩ := hT 12 m b (by omega) (by omega) hb (by omega)
  obtain ⟨t2, b2, e2, p2, q2, i2⟩ := hT 5 (m + 1) b1 (by omega) (by omega) i1 (by omega)
  obtain ⟨t3, b3, e3, p3, q3, i3⟩ := hT 4 (m + 2) b2 (by omega) (by omega) i2 (by omega)
  obtain ⟨t4, b4, e4, p4, q4, i4⟩ := hT 40 (m + 3) b3 (by omega) (by omega) i3 (by omega)
  obtain ⟨t5, b5, e5, p5, q5, i5⟩ := hT 8 (m + 4) b4 (by omega) (by omega) i4 (by omega)
  have l1 := hL (1 + t1) 12 b1 (by omega) (by decide)
  have l2 := hL (-1 - t2) 7 b2 (by omega) (by decide)
  have l4 := hL (3 + t4) 400 b4 (by omega) (by decide)
  have pos : ∀ r : Rat, 0 < r → 0 < 1 + r := fun r h => add_pos' (by decide) h
  have hM : ∀ x ∈ ([qD 0, qD (Rat.divInt 1 10), qD (Rat.divInt 1 20), qD (Rat.divInt (1 + t1) 12), qD 1, qD (Rat.divInt (-1 - t2) 7), qD (t3 : Rat), qD (Rat.divInt (3 + t4) 400)] : List D), ∃ r, x = qD r ∧ Sz 9 r ∧ 0 < 1 + r := by
    intro x hx
    simp only [List.mem_cons, List.not_mem_nil, or_false] at hx
    rcases hx with rfl | rfl | rfl | rfl | rfl | rfl | rfl | rfl
    · exact ⟨_, rfl, sz0.mono (by omega), by decide +kernel⟩
    · have z := mk_sz (a := 1) (c := 10) (n := 9) (by omega) (by omega) (by omega) (by omega)
      exact ⟨_, rfl, z.1, pos _ z.2⟩
    · have z := mk_sz (a := 1) (c := 20) (n := 9) (by omega) (by omega) (by omega) (by omega)
      exact ⟨_, rfl, z.1, pos _ z.2⟩
    · have z := mk_sz (a := 1 + t1) (c := 12) (n := 9) (by omega) (by omega) (by omega) (by omega)
      exact ⟨_, rfl, z.1, pos _ z.2⟩
    · exact ⟨_, rfl, sz1.mono (by omega), by decide +kernel⟩
    · refine ⟨_, rfl, divInt_sz (by omega) (by omega) (by omega), ?_⟩
      have e : (1 : Rat) + Rat.divInt (-1 - t2) 7 = Rat.divInt (6 - t2) 7 := by
        have : (1 : Rat) = Rat.divInt 7 7 := by decide
        rw [this, Rat.divInt_add_divInt _ _ (by decide) (by decide)]
        exact (Rat.divInt_eq_divInt_iff (by decide) (by decide)).mpr (by omega)
      rw [e]
      exact (mk_sz (a := 6 - t2) (c := 7) (n := 9) (by omega) (by omega) (by omega) (by omega)).2
    · refine ⟨_, rfl, ⟨by show t3.natAbs < 512; omega, by show 1 < 512; omega⟩, ?_⟩
      have : (0 : Rat) ≤ (t3 : Rat) := Rat.intCast_nonneg.mpr p3
      have := add_pos' this (show (0 : Rat) < 1 by decide)
      rwa [Rat.add_comm] at this
    · have z := mk_sz (a := 3 + t4) (c := 400) (n := 9) (by omega) (by omega) (by omega) (by omega)
      exact ⟨_, rfl, z.1, pos _ z.2⟩
  obtain ⟨x, hx, ha⟩ := atI_mem (xs := [qD 0, qD (Rat.divInt 1 10), qD (Rat.divInt 1 20), qD (Rat.divInt (1 + t1) 12), qD 1, qD (Rat.divInt (-1 - t2) 7), qD (t3 : Rat), qD (Rat.divInt (3 + t4) 400)]) p5 q5
  obtain ⟨r, rfl, hr⟩ := hM x hx
  refine ⟨r, b5, ?_, hr.1, hr.2, i5⟩
  rw [show qD 0 = .tup [.int 0, .int 1] from rfl, show qD 1 = .tup [.int 1, .int 1] from rfl, show qD (Rat.divInt 1 10) = .tup [.int 1, .int 10] from by kernel_rfl, show qD (Rat.divInt 1 20) = .tup [.int 1, .int 20] from by kernel_rfl, show qD (t3 : Rat) = .tup [.int t3, .int 1] from rfl] at ha
  simp [runF, bLRate, evalSs, evalS, evalE, evalEs, bindS, bindR, retR, optR, slotE, slotP, pk, callR, e1, e2, e3, e4, e5, l1, l2, l4, intR, binD, asgT, ixD, ha, big1, big2, big6, big8]
end
end PV

/-! plans of loans -/
namespace PV
open PySem PySem.Spec
/-- what is left behind k payments -/
def leftQ (a r P : Rat) (k : Nat) : Rat := a * powQ (1 + r) k - P * hornQ (1 + r) k
def rowQ (a r P : Rat) (k : Nat) : D := .tup [qD P, qD (r * leftQ a r P k), qD (P - r * leftQ a r P k), qD (leftQ a r P (k + 1))]
theorem left_step (a r P : Rat) (k : Nat) : leftQ a r P k - (P - r * leftQ a r P k) = leftQ a r P (k + 1) := by
  unfold leftQ
  rw [powQ, hornQ]
  generalize powQ (1 + r) k = p
  generalize hornQ (1 + r) k = h
  grind
theorem left_zero (a r P : Rat) : leftQ a r P 0 = a := by
  unfold leftQ
  rw [powQ, hornQ]
  grind
theorem worth10 (r : Rat) (n : Nat) : worthQ 1 r 0 n = (1 / (1 + r)) * hornQ (1 / (1 + r)) n := by
  have e0 : ((1 : Rat) + 0) * (1 / (1 + r)) = 1 / (1 + r) := by grind
  unfold worthQ
  rw [e0]
  grind
theorem horn_turn {f s : Rat} (h : f * s = 1) : ∀ n, hornQ f n = powQ f n * (s * hornQ s n)
  | 0 => by simp only [hornQ, powQ]; grind
  | n + 1 => by
    have ih := horn_turn h n
    have i1 := horn_pow f n
    simp only [hornQ, powQ]
    grind
theorem fs_one {r : Rat} (hp : 0 < 1 + r) : (1 + r) * (1 / (1 + r)) = 1 := by
  have : (1 + r) ≠ 0 := fun z => by rw [z] at hp; exact Rat.lt_irrefl hp
  grind
theorem left_end {a r : Rat} {n : Nat} (hp : 0 < 1 + r) (hn : 1 ≤ n) : leftQ a r (a / worthQ 1 r 0 n) n = 0 := by
  have wp := worth_pos (a := 1) (r := r) (g := 0) (n := n) (by decide) hp (by rw [Rat.add_zero]; decide) hn
  unfold leftQ
  rw [worth10] at *
  rw [horn_turn (fs_one hp)]
  generalize (1 / (1 + r)) * hornQ (1 / (1 + r)) n = w at *
  generalize powQ (1 + r) n = p
  have hw : w ≠ 0 := fun z => by rw [z] at wp; exact Rat.lt_irrefl wp
  grind
theorem pay_sz {a r : Rat} {n k : Nat} (ha : Sz k a) (hr : Sz 9 r) (hp : 0 < 1 + r) (h1 : 1 ≤ n) (hn : n ≤ 60) : Sz (k + 860) (a / worthQ 1 r 0 n) := by
  have wp := worth_pos (a := 1) (r := r) (g := 0) (n := n) (by decide) hp (by rw [Rat.add_zero]; decide) h1
  have zr : Sz 11 (1 + r) := (sz1.add hr).mono (by omega)
  have zs : Sz 12 (1 / (1 + r)) := sz1.div zr (num_ne hp)
  have zw := zs.mul (horn_sz zs n)
  rw [← worth10] at zw
  exact (ha.div zw (num_ne wp)).mono (by omega)
theorem left_sz {a r P : Rat} {k m n : Nat} (ha : Sz k a) (hr : Sz 9 r) (hP : Sz m P) (hn : n ≤ 60) : Sz (k + m + 1443) (leftQ a r P n) := by
  have zr : Sz 11 (1 + r) := (sz1.add hr).mono (by omega)
  exact ((ha.mul (pow_sz zr n)).sub (hP.mul (horn_sz zr n))).mono (by omega)
def lPlan (m s : Nat) : PSts := (.cons (.asg (.name 7) (.call m (.cons (.slot 1) (.cons (.slot 5) .nil)))) (.cons (.asg (.name 8) (.call s (.cons (.slot 4) (.cons (.slot 7) .nil)))) (.cons (.asg (.name 5) (.call s (.cons (.slot 5) (.cons (.slot 8) .nil)))) (.cons (.append 6 (.tup (.cons (.slot 4) (.cons (.slot 7) (.cons (.slot 8) (.cons (.slot 5) .nil)))))) .nil))))
def lPayL (m a : Nat) : PSts := (.cons (.asg (.name 5) (.call m (.cons (.slot 5) (.cons (.slot 4) .nil)))) (.cons (.asg (.name 6) (.call a (.cons (.slot 6) (.cons (.slot 5) .nil)))) .nil))
section
variable {F : FT} {con : Nat → D} {fw : Nat} {b : Bx} {a r P : Rat} {n : Nat}
theorem plan_loop {m s : Nat} (hM : MulAt F m) (hS : SubAt F s) {k0 k1 : Nat} (ha : Sz k0 a) (hr : Sz 9 r) (hP : Sz k1 P) (hk : k0 ≤ 12) (hk1 : k1 ≤ 880) {x0 x2 : Sl} : ∀ (xs : List D) {k : Nat} {y y7 y8 : Sl}, k + xs.length ≤ 60 → ∃ z z7 z8, loopF (.name 3) (evalSs F con fw (lPlan m s)) xs ⟨[x0, .v (qD r), x2, y, .v (qD P), .v (qD (leftQ a r P k)), .own ((List.range k).map (rowQ a r P)), y7, y8], b⟩ = .next ⟨[x0, .v (qD r), x2, z, .v (qD P), .v (qD (leftQ a r P (k + xs.length))), .own ((List.range (k + xs.length)).map (rowQ a r P)), z7, z8], b⟩
  | [], k, y, y7, y8, _ => ⟨y, y7, y8, rfl⟩
  | x :: xs, k, y, y7, y8, h => by
    rw [List.length_cons] at h
    have zl := left_sz (n := k) ha hr hP (by omega)
    have e1 := hM r (leftQ a r P k) _ _ b hr zl (by omega)
    have z1 := hr.mul zl
    have e2 := hS P (r * leftQ a r P k) _ _ b hP z1 (by omega)
    have z2 := hP.sub z1
    have e3 := hS (leftQ a r P k) (P - r * leftQ a r P k) _ _ b zl z2 (by omega)
    rw [left_step] at e3
    obtain ⟨z, z7, z8, e4⟩ := plan_loop hM hS ha hr hP hk hk1 (x0 := x0) (x2 := x2) xs (k := k + 1) (y := .v x) (y7 := .v (qD (r * leftQ a r P k))) (y8 := .v (qD (P - r * leftQ a r P k))) (by omega)
    refine ⟨z, z7, z8, ?_⟩
    unfold loopF
    have hb : ((List.range k).map (rowQ a r P)).length < big := by rw [List.length_map, List.length_range]; unfold big; omega
    have hr' : (List.range (k + 1)).map (rowQ a r P) = (List.range k).map (rowQ a r P) ++ [rowQ a r P k] := by rw [List.range_succ, List.map_append]; rfl
    rw [hr'] at e4
    have eb : evalSs F con fw (lPlan m s) ⟨[x0, .v (qD r), x2, .v x, .v (qD P), .v (qD (leftQ a r P k)), .own ((List.range k).map (rowQ a r P)), y7, y8], b⟩ = .next ⟨[x0, .v (qD r), x2, .v x, .v (qD P), .v (qD (leftQ a r P (k + 1))), .own ((List.range k).map (rowQ a r P) ++ [rowQ a r P k]), .v (qD (r * leftQ a r P k)), .v (qD (P - r * leftQ a r P k))], b⟩ := by
      generalize (List.range k).map (rowQ a r P) = rows at hb
      unfold rowQ
      simp [lPlan, evalSs, evalS, evalE, evalEs, bindS, bindR, retR, slotE, callR, e1, e2, e3, asgT, appSl, hb, big4]
    simp only [asgT, List.length_cons, List.length_nil, List.set_cons_succ, List.set_cons_zero, Nat.zero_add, Nat.reduceAdd, Nat.reduceLT, if_true]
    rw [eb]
    dsimp only
    rw [e4]
    rw [show k + 1 + xs.length = k + (xs.length + 1) from by omega]
theorem payL_loop {m c : Nat} (hM : MulAt F m) (hA : AddAt F c) {s : Rat} (hs : Sz 12 s) {x0 x1 x2 : Sl} : ∀ (xs : List D) {k : Nat} {y : Sl}, k + xs.length ≤ 60 → ∃ z, loopF (.name 3) (evalSs F con fw (lPayL m c)) xs ⟨[x0, x1, x2, y, .v (qD s), .v (qD (powQ s k)), .v (qD (s * hornQ s k))], b⟩ = .next ⟨[x0, x1, x2, z, .v (qD s), .v (qD (powQ s (k + xs.length))), .v (qD (s * hornQ s (k + xs.length)))], b⟩
  | [], k, y, _ => ⟨y, rfl⟩
  | x :: xs, k, y, h => by
    rw [List.length_cons] at h
    have e1 := hM (powQ s k) s _ _ b (pow_sz hs k) hs (by omega)
    have e2 := hA (s * hornQ s k) (powQ s k * s) _ _ b (hs.mul (horn_sz hs k)) ((pow_sz hs k).mul hs) (by omega)
    have q : s * hornQ s k + powQ s k * s = s * hornQ s (k + 1) := by
      have := horn_pow s k
      rw [hornQ]
      grind
    rw [q] at e2
    obtain ⟨z, e4⟩ := payL_loop hM hA hs (x0 := x0) (x1 := x1) (x2 := x2) xs (k := k + 1) (y := .v x) (by omega)
    refine ⟨z, ?_⟩
    unfold loopF
    have eb : evalSs F con fw (lPayL m c) ⟨[x0, x1, x2, .v x, .v (qD s), .v (qD (powQ s k)), .v (qD (s * hornQ s k))], b⟩ = .next ⟨[x0, x1, x2, .v x, .v (qD s), .v (qD (powQ s (k + 1))), .v (qD (s * hornQ s (k + 1)))], b⟩ := by
      rw [powQ]
      simp [lPayL, evalSs, evalS, evalE, evalEs, bindS, bindR, retR, slotE, callR, e1, e2, asgT]
    simp only [asgT, List.length_cons, List.length_nil, List.set_cons_succ, List.set_cons_zero, Nat.zero_add, Nat.reduceAdd, Nat.reduceLT, if_true]
    rw [eb]
    dsimp only
    rw [e4]
    rw [show k + 1 + xs.length = k + (xs.length + 1) from by omega]
/-- sums whose partial sums are known -/
theorem sum_loopG {a : Nat} (hF : AddAt F a) {S q : Nat → Rat} {m m' : Nat} (hz : m + m' ≤ 8000) {d : D} (hS : ∀ k, k ≤ 60 → Sz m (S k)) (hq : ∀ k, k ≤ 60 → Sz m' (q k)) (hs : ∀ k, S k + q k = S (k + 1)) : ∀ (ks : List Nat) {k : Nat} {y : Sl}, (∀ j, (h : j < ks.length) → ks[j] = k + j) → k + ks.length ≤ 60 → ∃ y', loopF (.name 2) (evalSs F con fw (bSumW a)) (ks.map fun k => qD (q k)) ⟨[.v d, .v (qD (S k)), y], b⟩ = .next ⟨[.v d, .v (qD (S (k + ks.length))), y'], b⟩
  | [], k, y, _, _ => ⟨y, rfl⟩
  | j :: ks, k, y, hk, h => by
    rw [List.length_cons] at h
    have hj : j = k := by have := hk 0 (by simp); simpa using this
    subst hj
    have e := hF (S j) (q j) m m' b (hS j (by omega)) (hq j (by omega)) hz
    rw [hs] at e
    obtain ⟨y', e2⟩ := sum_loopG hF hz (d := d) hS hq hs ks (k := j + 1) (y := .v (qD (q j))) (fun i hi => by
      have := hk (i + 1) (by rw [List.length_cons]; omega)
      rw [List.getElem_cons_succ] at this
      omega) (by omega)
    refine ⟨y', ?_⟩
    rw [List.map_cons]
    unfold loopF
    have eb : evalSs F con fw (bSumW a) ⟨[.v d, .v (qD (S j)), .v (qD (q j))], b⟩ = .next ⟨[.v d, .v (qD (S (j + 1))), .v (qD (q j))], b⟩ := by
      simp [bSumW, evalSs, evalS, evalE, evalEs, bindS, bindR, retR, slotE, callR, e, asgT]
    simp only [asgT, List.length_cons, List.length_nil, List.set_cons_succ, List.set_cons_zero, Nat.zero_add, Nat.reduceAdd, Nat.reduceLT, if_true]
    rw [eb]
    dsimp only
    rw [e2]
    rw [show j + 1 + ks.length = j + (ks.length + 1) from by omega]
theorem run_sumG {a : Nat} (hF : AddAt F a) {S q : Nat → Rat} {m m' : Nat} (hz : m + m' ≤ 8000) (hS : ∀ k, k ≤ 60 → Sz m (S k)) (hq : ∀ k, k ≤ 60 → Sz m' (q k)) (hs : ∀ k, S k + q k = S (k + 1)) (h0 : S 0 = 0) (hn : n ≤ 60) : runF F con fw ⟨1, 3, bSum a⟩ [.lst ((List.range n).map fun k => qD (q k))] b = .ok (qD (S n)) b := by
  obtain ⟨y, e⟩ := sum_loopG (con := con) (fw := fw) (b := b) hF hz (d := .lst ((List.range n).map fun k => qD (q k))) hS hq hs (List.range n) (k := 0) (y := .no) (fun j hj => by simp) (by rw [List.length_range]; omega)
  rw [List.length_range, Nat.zero_add, h0] at e
  refine run_of rfl ?_
  unfold bSum
  refine sq (s' := ⟨[.v (.lst ((List.range n).map fun k => qD (q k))), .v (qD 0), .no], b⟩) ?_ (sq (s' := ⟨[.v (.lst ((List.range n).map fun k => qD (q k))), .v (qD (S n)), y], b⟩) ?_ (sr (ev_ret (ev_slot (s := ⟨[.v (.lst ((List.range n).map fun k => qD (q k))), .v (qD (S n)), y], b⟩) rfl))))
  · rw [show qD 0 = .tup [.int 0, .int 1] from rfl]
    simp [evalS, evalE, evalEs, bindS, bindR, retR, asgT, big2]
  · rw [ev_for (ev_seqL (ev_slot rfl))]
    exact e
end
/-! whole numbers -/
def intI (num den left : Int) : Int := (2 * left * num + den).fdiv (2 * den)
def paidI (most due : Int) (last : Bool) : Int := if last then due else if due < most then due else most
def rnd (num den most : Int) : Nat → Int → List (Int × Int × Int × Int)
  | 0, _ => []
  | j + 1, left => if left ≤ 0 then [] else
      (paidI most (left + intI num den left) (j == 0), intI num den left, paidI most (left + intI num den left) (j == 0) - intI num den left, left + intI num den left - paidI most (left + intI num den left) (j == 0)) :: rnd num den most j (left + intI num den left - paidI most (left + intI num den left) (j == 0))
def rowI (p : Int × Int × Int × Int) : D := .tup [.int p.1, .int p.2.1, .int p.2.2.1, .int p.2.2.2]
theorem rnd_len {num den most : Int} : ∀ {j : Nat} {left : Int}, (rnd num den most j left).length ≤ j
  | 0, _ => Nat.le_refl _
  | j + 1, left => by
    unfold rnd
    split
    · simp
    · rw [List.length_cons]; exact Nat.succ_le_succ rnd_len
theorem paid_le {most due : Int} {l : Bool} : paidI most due l ≤ due := by
  unfold paidI
  split
  · exact Int.le_refl _
  · split <;> omega
theorem rnd_sum {num den most : Int} : ∀ {j : Nat} {left : Int}, 0 ≤ left → (j = 0 → left = 0) → ((rnd num den most j left).map fun p => p.2.2.1).sum = left
  | 0, left, _, h => by rw [h rfl]; rfl
  | j + 1, left, h0, _ => by
    unfold rnd
    split
    · have : left = 0 := by omega
      rw [this]; rfl
    · rw [List.map_cons, List.sum_cons, rnd_sum (by have := paid_le (most := most) (due := left + intI num den left) (l := j == 0); omega) (fun hj => by subst hj; simp [paidI])]
      show paidI most (left + intI num den left) (j == 0) - intI num den left + _ = left
      omega
theorem int_sz {num den left : Int} {m : Nat} (hl : left.natAbs < 2 ^ m) (hn : num.natAbs < 2 ^ 9) (hd : 0 < den) (hd2 : den.natAbs < 2 ^ 9) (h0 : 0 ≤ left) (hn0 : 0 ≤ num) : 0 ≤ intI num den left ∧ (intI num den left).natAbs < 2 ^ (m + 12) := by
  have z1 := mul_sz (i := 2 * left) (j := num) (mul_sz (i := 2) (j := left) (n := 2) (by decide) hl) hn
  have e1 : 2 ^ (2 + m + 9) = 2 ^ (m + 11) := by rw [show 2 + m + 9 = m + 11 from by omega]
  rw [e1] at z1
  have z2 : den.natAbs < 2 ^ (m + 11) := Nat.lt_of_lt_of_le hd2 (Nat.pow_le_pow_right (by omega) (by omega))
  have z3 := add_sz z1 z2
  have p0 : 0 ≤ 2 * left * num + den := by
    have := Int.mul_nonneg (show 0 ≤ 2 * left by omega) hn0
    omega
  unfold intI
  rw [Int.fdiv_eq_ediv_of_nonneg _ (by omega)]
  refine ⟨Int.ediv_nonneg p0 (by omega), Nat.lt_of_le_of_lt (Int.natAbs_ediv_le_natAbs _ _) z3⟩
theorem ceil_eq {a c : Int} (hc : 0 < c) : -((-a).fdiv c) = a.fdiv c + (if a.fmod c > 0 then 1 else 0) := by
  rw [Int.fdiv_eq_ediv_of_nonneg _ (by omega), Int.fdiv_eq_ediv_of_nonneg _ (by omega), Int.fmod_eq_emod_of_nonneg _ (by omega)]
  have h1 := Int.emod_nonneg a (show c ≠ 0 by omega)
  have h2 := Int.emod_lt_of_pos a hc
  have h3 := Int.mul_ediv_add_emod a c
  generalize a / c = q at h3
  generalize a % c = t at h1 h2 h3
  split
  · rename_i h
    have : (-a) / c = -q - 1 := ((Int.ediv_emod_unique (a := -a) (b := c) (r := c - t) (q := -q - 1) hc).mpr ⟨by rw [Int.mul_sub, Int.mul_neg, Int.mul_one]; omega, by omega, by omega⟩).1
    omega
  · rename_i h
    have : (-a) / c = -q := ((Int.ediv_emod_unique (a := -a) (b := c) (r := 0) (q := -q) hc).mpr ⟨by rw [Int.mul_neg]; omega, by omega, by omega⟩).1
    omega
end PV

/-! flows: present values, final values, changes of sign -/
namespace PV
open PySem PySem.Spec
def wQ (s : Rat) : List Int → Rat
  | [] => 0
  | x :: xs => (x : Rat) + s * wQ s xs
def fQ (f : Rat) : Rat → List Int → Rat
  | acc, [] => acc
  | acc, x :: xs => fQ f (acc * f + (x : Rat)) xs
theorem fQ_acc (f : Rat) : ∀ (xs : List Int) (acc : Rat), fQ f acc xs = acc * powQ f xs.length + fQ f 0 xs
  | [], acc => by simp only [fQ, powQ, List.length_nil]; grind
  | x :: xs, acc => by
    have i1 := fQ_acc f xs (acc * f + (x : Rat))
    have i2 := fQ_acc f xs (0 * f + (x : Rat))
    simp only [fQ, powQ, List.length_cons]
    rw [i1, i2]
    grind
theorem fQ_turn {f s : Rat} (h : f * s = 1) : ∀ (xs : List Int), f * fQ f 0 xs = wQ s xs * powQ f xs.length
  | [] => by simp only [fQ, wQ, powQ, List.length_nil]; grind
  | x :: xs => by
    have ih := fQ_turn h xs
    have i1 := fQ_acc f xs (0 * f + (x : Rat))
    simp only [fQ, wQ, powQ, List.length_cons]
    rw [i1]
    generalize fQ f 0 xs = a at ih ⊢
    generalize wQ s xs = w at ih ⊢
    generalize powQ f xs.length = p at ih ⊢
    grind
theorem final_eq {f s : Rat} (h : f * s = 1) {xs : List Int} (hn : xs ≠ []) : fQ f 0 xs = wQ s xs * powQ f (xs.length - 1) := by
  have t := fQ_turn h xs
  obtain ⟨n, hn⟩ : ∃ n, xs.length = n + 1 := ⟨xs.length - 1, by have := List.length_pos_iff.mpr hn; omega⟩
  rw [hn] at t ⊢
  rw [powQ] at t
  rw [Nat.add_sub_cancel]
  have hf : f ≠ 0 := fun z => by rw [z] at h; grind
  generalize fQ f 0 xs = a at t ⊢
  generalize wQ s xs = w at t ⊢
  generalize powQ f n = p at t ⊢
  grind
/-- the sizes of a flow's items -/
def Fl (fs : List Int) : Prop := 1 ≤ fs.length ∧ fs.length ≤ 12 ∧ ∀ x ∈ fs, -1000000 ≤ x ∧ x ≤ 1000000
theorem int_sz20 {x : Int} (h : -1000000 ≤ x ∧ x ≤ 1000000) : Sz 20 (x : Rat) := ⟨by show x.natAbs < 1048576; omega, by show 1 < 1048576; omega⟩
theorem wQ_sz {s : Rat} (hs : Sz 12 s) : ∀ {xs : List Int}, (∀ x ∈ xs, -1000000 ≤ x ∧ x ≤ 1000000) → Sz (1 + 33 * xs.length) (wQ s xs)
  | [], _ => sz0
  | x :: xs, h => ((int_sz20 (h x List.mem_cons_self)).add (hs.mul (wQ_sz hs fun y hy => h y (List.mem_cons_of_mem _ hy)))).mono (by rw [List.length_cons]; omega)
theorem fQ_sz {f : Rat} (hf : Sz 11 f) : ∀ {xs : List Int} {acc : Rat} {m : Nat}, Sz m acc → (∀ x ∈ xs, -1000000 ≤ x ∧ x ≤ 1000000) → Sz (m + 32 * xs.length) (fQ f acc xs)
  | [], acc, m, ha, _ => ha.mono (by omega)
  | x :: xs, acc, m, ha, h => (fQ_sz hf ((ha.mul hf).add (int_sz20 (h x List.mem_cons_self))) fun y hy => h y (List.mem_cons_of_mem _ hy)).mono (by rw [List.length_cons]; omega)
def rowB (d : D) (n lo hi : Int) : Bool := match d with
  | .tup xs => decide ((xs.length : Int) = n) && xs.all fun x => betB x lo hi
  | _ => false
def flowB (d : D) : Bool := match d with
  | .tup xs => decide (1 ≤ xs.length) && decide (xs.length ≤ 12) && xs.all fun x => betB x (-1000000) 1000000
  | _ => false
def RowAt (F : FT) (i : Nat) : Prop := ∀ (d : D) (n lo hi : Int) (b : Bx), nf1 d = true → n ≤ 1000 → F i [d, .int n, .int lo, .int hi] b = .ok (.bl (rowB d n lo hi)) b
def FlowAt (F : FT) (i : Nat) : Prop := ∀ (d : D) (b : Bx), nf1 d = true → F i [d] b = .ok (.bl (flowB d)) b
def ChkFlAt (F : FT) (i e : Nat) : Prop := ∀ (d : D) (b : Bx), nf1 d = true → F i [d] b = if flowB d then .ok .non b else .exc e [d] b
def eRow (w : Nat) : PX := (.call w (.cons (.slot 4) (.cons (.slot 2) (.cons (.slot 3) .nil))))
def bRow (t w : Nat) : PSts := (.cons (.ret (.bop true (.cons (.call t (.cons (.slot 0) (.cons (.slot 1) .nil))) (.cons (.blt .all (.cons (.comp (eRow w) (.name 4) (.seq (.slot 0))) .nil)) .nil)))) .nil)
def bIsFlow (r m1 m2 : Nat) : PSts := (.cons (.iff (.bop false (.cons (.not (.val (.isi (.slot 0) .tuple))) (.cons (.not (.val (.chain .le .le (.int 1) (.blt .len (.cons (.slot 0) .nil)) (.glob m1)))) .nil))) (.cons (.ret (.bl false)) .nil) .nil) (.cons (.ret (.call r (.cons (.slot 0) (.cons (.blt .len (.cons (.slot 0) .nil)) (.cons (.neg (.glob m2)) (.cons (.glob m2) .nil)))))) .nil))
section
variable {F : FT} {con : Nat → D} {fw : Nat} {b : Bx} {d : D}
theorem run_row {t w : Nat} {n lo hi : Int} (hT : TupAt F t) (hW : BetAt F w) (h : nf1 d = true) (hn : n ≤ 1000) : runF F con fw ⟨4, 5, bRow t w⟩ [d, .int n, .int lo, .int hi] b = .ok (.bl (rowB d n lo hi)) b := by
  have eT := hT d n b (nf1_0 h)
  by_cases hp : isTupB d n = true
  · obtain ⟨xs, rfl, hl⟩ := tup_of hp
    have hx : ∀ x ∈ xs, nf0 x = true := by simpa [nf1] using h
    have hc := compR_one (elt := evalE F con (eRow w)) (env := [.v (.tup xs), .v (.int n), .v (.int lo), .v (.int hi), .no]) (b := b) (j := 4) (g := fun z => .bl (betB z lo hi)) (xs := xs) rfl (by unfold big; omega) fun z hz => by
      have e := hW z lo hi b (hx z hz)
      simp [eRow, evalE, evalEs, bindR, retR, slotE, callR, e]
    have ha := all_blt (f := fun z => betB z lo hi) (xs := xs)
    have hr : rowB (.tup xs) n lo hi = xs.all fun x => betB x lo hi := by simp [rowB, hl]
    rw [hr]
    simp [runF, bRow, evalSs, evalS, evalE, evalEs, evalPs, evalB, evalI, bindS, bindR, retR, optR, slotE, slotP, pk, truR, truD, callR, eT, hp, hc, ha, seqD]
  · have hp : isTupB d n = false := by simpa using hp
    have hf : rowB d n lo hi = false := by
      cases d <;> first | rfl | skip
      case tup xs => simp [isTupB] at hp; simp [rowB, hp]
    simp [runF, bRow, evalSs, evalS, evalE, evalEs, evalB, bindS, bindR, retR, optR, slotE, slotP, pk, truR, truD, callR, eT, hp, hf]
theorem run_isFlow {r m1 m2 : Nat} (hR : RowAt F r) (h1 : con m1 = .int 12) (h2 : con m2 = .int 1000000) (h : nf1 d = true) : runF F con fw ⟨1, 1, bIsFlow r m1 m2⟩ [d] b = .ok (.bl (flowB d)) b := by
  cases d <;> first | (exact absurd h Bool.false_ne_true) | skip
  case tup xs =>
    by_cases hl : 1 ≤ xs.length ∧ xs.length ≤ 12
    · have e := hR (.tup xs) xs.length (-1000000) 1000000 b h (by omega)
      have hg : rowB (.tup xs) xs.length (-1000000) 1000000 = flowB (.tup xs) := by simp [rowB, flowB, hl]
      rw [hg] at e
      have hl2 : (1 : Int) ≤ xs.length ∧ (xs.length : Int) ≤ 12 := by omega
      simp [runF, bIsFlow, evalSs, evalS, evalE, evalEs, evalPs, evalT, evalTB, bindS, bindR, retR, optR, slotE, slotP, pk, truR, truD, callR, intR, isiD, cpD, bltD, h1, h2, hl2, e]
    · have hg : flowB (.tup xs) = false := by
        unfold flowB
        dsimp only
        by_cases h2 : 1 ≤ xs.length
        · have h3 : ¬ xs.length ≤ 12 := fun z => hl ⟨h2, z⟩
          simp [h3]
        · simp [h2]
      by_cases hl2 : (1 : Int) ≤ xs.length
      · have h3 : ¬ (xs.length : Int) ≤ 12 := by omega
        simp [runF, bIsFlow, evalSs, evalS, evalE, evalEs, evalPs, evalT, evalTB, bindS, bindR, retR, optR, slotE, slotP, pk, truR, truD, callR, isiD, cpD, bltD, h1, hl2, h3, hg]
      · simp [runF, bIsFlow, evalSs, evalS, evalE, evalEs, evalPs, evalT, evalTB, bindS, bindR, retR, optR, slotE, slotP, pk, truR, truD, callR, isiD, cpD, bltD, h1, hl2, hg]
  all_goals simp [runF, bIsFlow, evalSs, evalS, evalE, evalEs, evalPs, evalT, evalTB, bindS, bindR, retR, optR, slotE, slotP, pk, truR, truD, isiD, flowB]
theorem run_chkFl {f e : Nat} (hF : FlowAt F f) (h : nf1 d = true) : runF F con fw ⟨1, 1, bChkF f e⟩ [d] b = if flowB d then .ok .non b else .exc e [d] b := by
  have eF := hF d b h
  cases hb : flowB d with
  | true => simp [runF, bChkF, evalSs, evalS, evalE, evalEs, evalT, bindS, bindR, retR, optR, slotE, slotP, pk, truR, truD, callR, eF, hb]
  | false => simp [runF, bChkF, evalSs, evalS, evalE, evalEs, evalT, bindS, bindR, retR, optR, slotE, slotP, pk, truR, truD, callR, eF, hb]
end
def flD (fs : List Int) : D := .tup (fs.map D.int)
theorem Fl.good {fs : List Int} (h : Fl fs) : flowB (flD fs) = true := by
  have h1 := h.1
  have h2 := h.2.1
  have h3 : (fs.map D.int).all (fun x => betB x (-1000000) 1000000) = true := by
    rw [List.all_eq_true]
    intro x hx
    obtain ⟨y, hy, rfl⟩ := List.mem_map.mp hx
    have := h.2.2 y hy
    simp [betB, this]
  unfold flowB flD
  dsimp only
  rw [h3]
  simp [h1, h2]
theorem nf1_fl (fs : List Int) : nf1 (flD fs) = true := by
  unfold nf1 flD
  dsimp only
  rw [List.all_eq_true]
  intro x hx
  obtain ⟨y, _, rfl⟩ := List.mem_map.mp hx
  rfl
end PV

namespace PV
open PySem PySem.Spec
section
variable {t : PTg} {cond : S → R Bool} {elt : S → R D} {env : List Sl} {α : Type} {f g : α → D}
/-- a comprehension with a test -/
theorem compL_fil {b : Bx} {sx : α → List Sl} {p : α → Bool} : ∀ {xs : List α}, (∀ x ∈ xs, asgT t (f x) ⟨wipeE t.slots env, b⟩ = some ⟨sx x, b⟩ ∧ wipeE t.slots (sx x) = wipeE t.slots env ∧ cond ⟨sx x, b⟩ = .ok (p x) ⟨sx x, b⟩ ∧ elt ⟨sx x, b⟩ = .ok (g x) ⟨sx x, b⟩) → ∀ {e : List Sl}, wipeE t.slots e = wipeE t.slots env → ∃ e', compL t cond elt (xs.map f) ⟨e, b⟩ = .ok ((xs.filter p).map g) ⟨e', b⟩ ∧ wipeE t.slots e' = wipeE t.slots env
  | [], _, e, he => ⟨e, rfl, he⟩
  | x :: xs, h, e, he => by
    obtain ⟨h1, h2, h3, h4⟩ := h x List.mem_cons_self
    obtain ⟨e', q1, q2⟩ := compL_fil (xs := xs) (fun y hy => h y (List.mem_cons_of_mem _ hy)) h2
    refine ⟨e', ?_, q2⟩
    rw [List.map_cons]
    unfold compL
    rw [show ({ (⟨e, b⟩ : S) with env := wipeE t.slots (⟨e, b⟩ : S).env } : S) = ⟨wipeE t.slots env, b⟩ from by rw [← he], h1]
    cases hp : p x with
    | true => rw [hp] at h3; simp [bindR, noX, h3, h4, q1, retR, hp]
    | false => rw [hp] at h3; simp [bindR, noX, h3, q1, retR, hp]
theorem compR_fil {b : Bx} {sx : α → List Sl} {p : α → Bool} {xs : List α} (hp : plainAt t.slots env = true) (hl : xs.length ≤ big) (h : ∀ x ∈ xs, asgT t (f x) ⟨wipeE t.slots env, b⟩ = some ⟨sx x, b⟩ ∧ wipeE t.slots (sx x) = wipeE t.slots env ∧ cond ⟨sx x, b⟩ = .ok (p x) ⟨sx x, b⟩ ∧ elt ⟨sx x, b⟩ = .ok (g x) ⟨sx x, b⟩) : compR t cond elt (xs.map f) ⟨env, b⟩ = .ok (.lst ((xs.filter p).map g)) ⟨env, b⟩ := by
  obtain ⟨e', q1, q2⟩ := compL_fil h (e := env) rfl
  unfold compR
  have hp : (plainAt t.slots (⟨env, b⟩ : S).env && decide ((xs.map f).length ≤ big)) = true := by
    rw [Bool.and_eq_true, decide_eq_true_eq, List.length_map]; exact ⟨hp, hl⟩
  rw [if_pos hp, q1]
  dsimp only
  rw [back_env q2]
theorem compR_fil1 {b : Bx} {j : Nat} {p : α → Bool} {xs : List α} (hp : plainAt [j] env = true) (hl : xs.length ≤ big) (h : ∀ x ∈ xs, cond ⟨env.set j (.v (f x)), b⟩ = .ok (p x) ⟨env.set j (.v (f x)), b⟩ ∧ elt ⟨env.set j (.v (f x)), b⟩ = .ok (g x) ⟨env.set j (.v (f x)), b⟩) : compR (.name j) cond elt (xs.map f) ⟨env, b⟩ = .ok (.lst ((xs.filter p).map g)) ⟨env, b⟩ := by
  have hj : j < env.length := by
    unfold plainAt at hp
    cases e : env[j]? with
    | none => rw [e] at hp; simp at hp
    | some y => exact (List.getElem?_eq_some_iff.mp e).1
  refine compR_fil (sx := fun x => env.set j (.v (f x))) hp hl fun x hx => ⟨?_, ?_, (h x hx).1, (h x hx).2⟩
  · show (if j < (env.set j .no).length then some (⟨(env.set j .no).set j (.v (f x)), b⟩ : S) else none) = _
    rw [if_pos (by simp [hj]), List.set_set]
  · show (env.set j (.v (f x))).set j .no = env.set j .no
    rw [List.set_set]
theorem compR_fil2 {b : Bx} {i j : Nat} {p : α → Bool} {xs : List α} {u v : α → D} (hne : i ≠ j) (hp : plainAt [i, j] env = true) (hl : xs.length ≤ big) (h : ∀ x ∈ xs, cond ⟨(env.set i (.v (u x))).set j (.v (v x)), b⟩ = .ok (p x) ⟨(env.set i (.v (u x))).set j (.v (v x)), b⟩ ∧ elt ⟨(env.set i (.v (u x))).set j (.v (v x)), b⟩ = .ok (g x) ⟨(env.set i (.v (u x))).set j (.v (v x)), b⟩) : compR (.tup [i, j]) cond elt (xs.map fun x => .tup [u x, v x]) ⟨env, b⟩ = .ok (.lst ((xs.filter p).map g)) ⟨env, b⟩ := by
  have hi : i < env.length ∧ j < env.length := by
    unfold plainAt plainAt at hp
    cases e : env[i]? with
    | none => rw [e] at hp; simp at hp
    | some y =>
      cases e2 : env[j]? with
      | none => rw [e, e2] at hp; simp at hp
      | some y2 => exact ⟨(List.getElem?_eq_some_iff.mp e).1, (List.getElem?_eq_some_iff.mp e2).1⟩
  have key2 : ∀ u v : Sl, (((env.set i u).set j v).set j .no).set i .no = (env.set j .no).set i .no := fun u v => by
    rw [List.set_set, List.set_comm _ _ hne.symm, List.set_set, List.set_comm _ _ hne]
  refine compR_fil (sx := fun x => (env.set i (.v (u x))).set j (.v (v x))) hp hl fun x hx => ⟨?_, key2 _ _, (h x hx).1, (h x hx).2⟩
  simp [asgT, PTg.slots, wipeE, setAll, hi]
  rw [List.set_comm _ _ hne.symm, List.set_set]
/-- a comprehension whose items draw of the box -/
theorem compL_box {j : Nat} (hj : j < env.length) {Q : D → Prop} {M : Nat} : ∀ {xs : List D} {b : Bx} {m : Nat}, BI m b → m + xs.length ≤ M → (∀ x ∈ xs, ∀ (b : Bx) (m : Nat), BI m b → m ≤ M → ∃ (d : D) (b' : Bx), elt ⟨env.set j (.v x), b⟩ = .ok d ⟨env.set j (.v x), b'⟩ ∧ Q d ∧ BI (m + 1) b') → ∀ {e : List Sl}, e.set j .no = env.set j .no → ∃ (ds : List D) (e' : List Sl) (b' : Bx), compL (.name j) (retR true) elt xs ⟨e, b⟩ = .ok ds ⟨e', b'⟩ ∧ e'.set j .no = env.set j .no ∧ ds.length = xs.length ∧ (∀ d ∈ ds, Q d) ∧ BI (m + xs.length) b'
  | [], b, m, hb, _, _, e, he => ⟨[], e, b, rfl, he, rfl, by simp, hb⟩
  | x :: xs, b, m, hb, hm, h, e, he => by
    rw [List.length_cons] at hm
    have hl : e.length = env.length := by have := congrArg List.length he; simpa using this
    have ea : asgT (.name j) x { (⟨e, b⟩ : S) with env := wipeE (PTg.slots (.name j)) e } = some ⟨env.set j (.v x), b⟩ := by
      show (if j < (e.set j .no).length then some (⟨(e.set j .no).set j (.v x), b⟩ : S) else none) = _
      rw [if_pos (by simp [hl, hj]), List.set_set, set_no he]
    obtain ⟨d, b1, e1, hq, i1⟩ := h x List.mem_cons_self b m hb (by omega)
    obtain ⟨ds, e', b2, q1, q2, q3, q4, i2⟩ := compL_box hj (Q := Q) (M := M) (xs := xs) i1 (by omega) (fun y hy => h y (List.mem_cons_of_mem _ hy)) (e := env.set j (.v x)) (by rw [List.set_set])
    refine ⟨d :: ds, e', b2, ?_, q2, by rw [List.length_cons, List.length_cons, q3], ?_, bi_mono i2 (by rw [List.length_cons]; omega)⟩
    · unfold compL
      rw [ea]
      simp [bindR, noX, retR, e1, q1]
    · intro y hy
      rcases List.mem_cons.mp hy with rfl | hy
      · exact hq
      · exact q4 y hy
theorem compR_box {j : Nat} (hp : plainAt [j] env = true) {Q : D → Prop} {M : Nat} {xs : List D} {b : Bx} {m : Nat} (hl : xs.length ≤ big) (hb : BI m b) (hm : m + xs.length ≤ M) (h : ∀ x ∈ xs, ∀ (b : Bx) (m : Nat), BI m b → m ≤ M → ∃ (d : D) (b' : Bx), elt ⟨env.set j (.v x), b⟩ = .ok d ⟨env.set j (.v x), b'⟩ ∧ Q d ∧ BI (m + 1) b') : ∃ (ds : List D) (b' : Bx), compR (.name j) (retR true) elt xs ⟨env, b⟩ = .ok (.lst ds) ⟨env, b'⟩ ∧ ds.length = xs.length ∧ (∀ d ∈ ds, Q d) ∧ BI (m + xs.length) b' := by
  have hj : j < env.length := by
    unfold plainAt at hp
    cases e : env[j]? with
    | none => rw [e] at hp; simp at hp
    | some y => exact (List.getElem?_eq_some_iff.mp e).1
  obtain ⟨ds, e', b', q1, q2, q3, q4, q5⟩ := compL_box hj (e := env) hb hm h rfl
  refine ⟨ds, b', ?_, q3, q4, q5⟩
  unfold compR
  have hp : (plainAt (PTg.slots (.name j)) (⟨env, b⟩ : S).env && decide (xs.length ≤ big)) = true := by
    rw [Bool.and_eq_true, decide_eq_true_eq]; exact ⟨hp, hl⟩
  rw [if_pos hp, q1]
  dsimp only
  have : backE env (PTg.slots (.name j)) e' = env := back_env q2
  rw [this]
end
/-- how many neighbours differ -/
def adj : List Int → Nat
  | a :: b :: r => (if a = b then 0 else 1) + adj (b :: r)
  | _ => 0
def sgI (x : Int) : Int := (if 0 < x then 1 else 0) - (if x < 0 then 1 else 0)
def nz (fs : List Int) : List Int := (fs.map sgI).filter fun x => !decide (x = 0)
def cntI (last : Int) : List Int → Int
  | [] => 0
  | x :: xs => if x = 0 then cntI last xs else (if last = -(if 0 < x then 1 else -1) then 1 else 0) + cntI (if 0 < x then 1 else -1) xs
theorem adj_zip : ∀ l : List Int, ((l.zip (l.drop 1)).filter fun p => !decide (p.1 = p.2)).length = adj l
  | [] => rfl
  | [a] => rfl
  | a :: b :: r => by
    have ih := adj_zip (b :: r)
    simp only [List.drop_succ_cons, List.drop_zero] at ih ⊢
    rw [List.zip_cons_cons, List.filter_cons]
    unfold adj
    by_cases h : a = b
    · first | (simp [h]; done) | (simp [h]; exact ih) | (simp [h]; rw [← ih]; simp [h])
    · first | (simp [h]; done) | (simp [h]; omega) | (simp [h]; rw [← ih]; simp [Nat.add_comm])
theorem cnt_adj : ∀ (fs : List Int) (last : Int), (last = 1 ∨ last = -1) → cntI last fs = (adj (last :: nz fs) : Int)
  | [], last, _ => by simp [cntI, nz, adj]
  | x :: xs, last, h => by
    unfold cntI
    by_cases hx : x = 0
    · have : nz (x :: xs) = nz xs := by subst hx; simp [nz, sgI]
      rw [if_pos hx, this]
      exact cnt_adj xs last h
    · rw [if_neg hx]
      by_cases hp : 0 < x
      · have hs : sgI x = 1 := by unfold sgI; rw [if_pos hp, if_neg (by omega)]; rfl
        have : nz (x :: xs) = 1 :: nz xs := by simp [nz, hs]
        rw [this, if_pos hp, cnt_adj xs 1 (.inl rfl)]
        rw [adj]
        rcases h with rfl | rfl <;> simp
      · have hs : sgI x = -1 := by unfold sgI; rw [if_neg hp, if_pos (by omega)]; rfl
        have : nz (x :: xs) = -1 :: nz xs := by simp [nz, hs]
        rw [this, if_neg hp, cnt_adj xs (-1) (.inr rfl)]
        rw [adj]
        rcases h with rfl | rfl <;> simp
theorem cnt_zero : ∀ (fs : List Int), cntI 0 fs = (adj (nz fs) : Int)
  | [] => rfl
  | x :: xs => by
    unfold cntI
    by_cases hx : x = 0
    · have : nz (x :: xs) = nz xs := by subst hx; simp [nz, sgI]
      rw [if_pos hx, this]
      exact cnt_zero xs
    · rw [if_neg hx]
      by_cases hp : 0 < x
      · have hs : sgI x = 1 := by unfold sgI; rw [if_pos hp, if_neg (by omega)]; rfl
        have : nz (x :: xs) = 1 :: nz xs := by simp [nz, hs]
        rw [this, if_pos hp, cnt_adj xs 1 (.inl rfl)]
        simp
      · have hs : sgI x = -1 := by unfold sgI; rw [if_neg hp, if_pos (by omega)]; rfl
        have : nz (x :: xs) = -1 :: nz xs := by simp [nz, hs]
        rw [this, if_neg hp, cnt_adj xs (-1) (.inr rfl)]
        simp
end PV

/-! `_law_same` in its other form, with empty dicts -/
namespace PV
open PySem PySem.Spec
def aD : PSts := (.cons (.ret (.bop true (.cons (.isi (.slot 0) .dict) (.cons (.cmp .eq (.blt .len (.cons (.slot 0) .nil)) (.blt .len (.cons (.slot 1) .nil))) (.cons (.dctN (.name 3) 1) .nil))))) .nil)
section
variable {F : FT} {con : Nat → D} {fw i : Nat} {b : Bx}
theorem ev_and1 {e : PX} {s s1 : S} {d : D} (h : evalE F con e s = .ok d s1) : evalB F con true (.cons e .nil) s = .ok d s1 := by
  rw [evalB]
  exact h
theorem ev_andT {e e2 : PX} {r : PXs} {s s1 s2 : S} {d : D} (h : evalE F con e s = .ok (.bl true) s1) (h2 : evalB F con true (.cons e2 r) s1 = .ok d s2) : evalB F con true (.cons e (.cons e2 r)) s = .ok d s2 := by
  rw [evalB, bindR_ok h, bindR_ok (show truR (.bl true) s1 = .ok true s1 from rfl)]
  · exact h2
  · intro z; cases z
theorem sameC_dct : runF F con fw ⟨2, 4, bSameB i aD⟩ [.dct [], .dct []] b = .ok (.bl true) b := by
  refine run_of rfl ?_
  have n1 : evalT F con tS1 ⟨[.v (.dct []), .v (.dct []), .no, .no], b⟩ = .ok false ⟨[.v (.dct []), .v (.dct []), .no, .no], b⟩ := by simp [tS1, evalTB, evalT, evalE, bindR, retR, optR, slotE, slotP, pk, cpD, truR, truD, isNonD, isiD]
  have n2 : evalT F con tS2 ⟨[.v (.dct []), .v (.dct []), .no, .no], b⟩ = .ok false ⟨[.v (.dct []), .v (.dct []), .no, .no], b⟩ := by simp [tS2, evalTB, evalT, evalE, bindR, retR, optR, slotE, slotP, pk, cpD, truR, truD, isNonD, isiD]
  have n3 : evalT F con tS3 ⟨[.v (.dct []), .v (.dct []), .no, .no], b⟩ = .ok false ⟨[.v (.dct []), .v (.dct []), .no, .no], b⟩ := by simp [tS3, evalTB, evalT, evalE, bindR, retR, optR, slotE, slotP, pk, cpD, truR, truD, isNonD, isiD]
  have n4 : evalT F con tS4 ⟨[.v (.dct []), .v (.dct []), .no, .no], b⟩ = .ok true ⟨[.v (.dct []), .v (.dct []), .no, .no], b⟩ := by simp [tS4, evalTB, evalT, evalE, bindR, retR, optR, slotE, slotP, pk, cpD, truR, truD, isNonD, isiD]
  have e0 : cpD .eq (.lst []) (.lst []) = some true := eq_nil
  have a4 : evalSs F con fw aD ⟨[.v (.dct []), .v (.dct []), .no, .no], b⟩ = .ret (.bl true) b := by
    have e1 : evalE F con (.dctN (.name 3) 1) ⟨[.v (.dct []), .v (.dct []), .no, .no], b⟩ = .ok (.bl true) ⟨[.v (.dct []), .v (.dct []), .no, .no], b⟩ := by
      rw [evalE, bindR_ok (show dctE 1 ⟨[.v (.dct []), .v (.dct []), .no, .no], b⟩ = .ok (.lst []) ⟨[.v (.dct []), .v (.dct []), .no, .no], b⟩ from rfl)]
      have e2 : bindR (retR ([] : List D)) (fun ds => if ds.length ≤ big then retR (D.lst ds) else badR) ⟨[.v (.dct []), .v (.dct []), .no, .no], b⟩ = .ok (.lst []) ⟨[.v (.dct []), .v (.dct []), .no, .no], b⟩ := by
        rw [bindR_ok (show retR ([] : List D) ⟨[.v (.dct []), .v (.dct []), .no, .no], b⟩ = .ok [] ⟨[.v (.dct []), .v (.dct []), .no, .no], b⟩ from rfl), if_pos (show ([] : List D).length ≤ big from Nat.zero_le _)]
        rfl
      rw [bindR_ok e2, e0]
      rfl
    have e3 : evalE F con (.bop true (.cons (.isi (.slot 0) .dict) (.cons (.cmp .eq (.blt .len (.cons (.slot 0) .nil)) (.blt .len (.cons (.slot 1) .nil))) (.cons (.dctN (.name 3) 1) .nil)))) ⟨[.v (.dct []), .v (.dct []), .no, .no], b⟩ = .ok (.bl true) ⟨[.v (.dct []), .v (.dct []), .no, .no], b⟩ := by
      have h1 : evalE F con (.isi (.slot 0) .dict) ⟨[.v (.dct []), .v (.dct []), .no, .no], b⟩ = .ok (.bl true) ⟨[.v (.dct []), .v (.dct []), .no, .no], b⟩ := by simp [evalE, bindR, retR, optR, slotP, pk, isiD]
      have h2 : evalE F con (.cmp .eq (.blt .len (.cons (.slot 0) .nil)) (.blt .len (.cons (.slot 1) .nil))) ⟨[.v (.dct []), .v (.dct []), .no, .no], b⟩ = .ok (.bl true) ⟨[.v (.dct []), .v (.dct []), .no, .no], b⟩ := by simp [evalE, evalPs, bindR, retR, optR, slotP, pk, bltD, cpD, eq_int]
      rw [evalE]
      exact ev_andT h1 (ev_andT h2 (ev_and1 e1))
    unfold aD
    rw [evalSs, evalS]
    unfold bindS
    dsimp only
    rw [e3]
  unfold bSameB
  show evalSs F con fw _ ⟨[.v (.dct []), .v (.dct []), .no, .no], b⟩ = _
  rw [iff_no n1, iff_no n2, iff_no n3, iff_yes n4 a4]
end
inductive PlC : Nat → D → Prop
  | non {n : Nat} : PlC n .non
  | bl {n : Nat} (x : Bool) : PlC n (.bl x)
  | int {n : Nat} (x : Int) : PlC n (.int x)
  | str {n : Nat} {x : Str} (h : SameTB x) : PlC n (.str x)
  | dct {n : Nat} : PlC n (.dct [])
  | lst {n : Nat} {xs : List D} (hl : xs.length ≤ big) (h : ∀ x ∈ xs, PlC n x) : PlC (n + 1) (.lst xs)
  | tup {n : Nat} {xs : List D} (hl : xs.length ≤ big) (h : ∀ x ∈ xs, PlC n x) : PlC (n + 1) (.tup xs)
theorem PlB.c : ∀ {n : Nat} {d : D}, PlB n d → PlC n d
  | _, _, .non => .non
  | _, _, .bl x => .bl x
  | _, _, .int x => .int x
  | _, _, .str h => .str h
  | _, _, .lst hl h => .lst hl fun x hx => (h x hx).c
  | _, _, .tup hl h => .tup hl fun x hx => (h x hx).c
theorem PlC.up : ∀ {n : Nat} {d : D}, PlC n d → PlC (n + 1) d
  | _, _, .non => .non
  | _, _, .bl x => .bl x
  | _, _, .int x => .int x
  | _, _, .str h => .str h
  | _, _, .dct => .dct
  | _, _, .lst hl h => .lst hl fun x hx => (h x hx).up
  | _, _, .tup hl h => .tup hl fun x hx => (h x hx).up
theorem PlC.upTo {n : Nat} {d : D} (h : PlC n d) {m : Nat} (hl : n ≤ m) : PlC m d := by
  obtain ⟨k, rfl⟩ := Nat.le.dest hl
  induction k with
  | zero => exact h
  | succ k ih => exact (ih (Nat.le_add_right _ _)).up
theorem plC_pair {n : Nat} {x y : D} (hx : PlC n x) (hy : PlC n y) : PlC (n + 1) (.lst [x, y]) := .lst (by show 2 ≤ big; decide) fun z hz => by
  rcases List.mem_cons.mp hz with rfl | hz
  · exact hx
  · rw [List.mem_singleton.mp hz]; exact hy
theorem sameC_step {F : FT} {con : Nat → D} {fw i : Nat} {b : Bx} {n : Nat} {d : D} (h : PlC n d) (hF : ∀ m e, n = m + 1 → PlC m e → F i [e, e] b = .ok (.bl true) b) : runF F con fw ⟨2, 4, bSameB i aD⟩ [d, d] b = .ok (.bl true) b := by
  cases h with
  | non => exact sameB_non
  | bl x => exact sameB_bl x
  | int x => exact sameB_int x
  | str h => exact h _ _ _ _ _ _
  | dct => exact sameC_dct
  | lst hl h => exact sameB_lst hl fun x hx => hF _ x rfl (h x hx)
  | tup hl h => exact sameB_tup hl fun x hx => hF _ x rfl (h x hx)
theorem sameC_all {defs : List Df} {con : Nat → D} {fw i : Nat} (hd : defs[i]? = some ⟨2, 4, bSameB i aD⟩) : ∀ (n k : Nat) (d : D) (b : Bx), PlC n d → evF defs con fw (n + k + 3) i [d, d] b = .ok (.bl true) b := by
  have ev : ∀ (k : Nat) (ds : List D) (b : Bx), evF defs con fw (k + 3) i ds b = runF (evF defs con fw (k + 2)) con fw ⟨2, 4, bSameB i aD⟩ ds b := fun k ds b => by
    show (if k + 2 < 2 then RF.bad else match defs[i]? with | some d => runF (evF defs con fw (k + 2)) con fw d ds b | none => .bad) = _
    rw [if_neg (by omega), hd]
  intro n
  induction n with
  | zero =>
    intro k d b h
    rw [ev]
    exact sameC_step h (fun m e hm => by omega)
  | succ n ih =>
    intro k d b h
    rw [ev]
    refine sameC_step h (fun m e hm he => ?_)
    have hm : m = n := by omega
    subst hm
    rw [show m + 1 + k + 2 = m + k + 3 from by omega]
    exact ih k e b he
end PV

/-! durations: plain facts -/
namespace PV
open PySem PySem.Spec
def Bg (fs : List Int) : Prop := fs.length ≤ 12 ∧ ∀ x ∈ fs, -132000000 ≤ x ∧ x ≤ 132000000
theorem Fl.bg {fs : List Int} (h : Fl fs) : Bg fs := ⟨h.2.1, fun x hx => by have := h.2.2 x hx; omega⟩
theorem int_szB {x : Int} (h : -132000000 ≤ x ∧ x ≤ 132000000) : Sz 27 (x : Rat) := ⟨by show x.natAbs < 134217728; omega, by show 1 < 134217728; omega⟩
theorem wQ_szB {s : Rat} (hs : Sz 12 s) : ∀ {xs : List Int}, (∀ x ∈ xs, -132000000 ≤ x ∧ x ≤ 132000000) → Sz (1 + 40 * xs.length) (wQ s xs)
  | [], _ => sz0
  | x :: xs, h => ((int_szB (h x List.mem_cons_self)).add (hs.mul (wQ_szB hs fun y hy => h y (List.mem_cons_of_mem _ hy)))).mono (by rw [List.length_cons]; omega)
def SeqI (d : D) (fs : List Int) : Prop := d = .tup (fs.map D.int) ∨ d = .lst (fs.map D.int)
theorem wQ_nn {s : Rat} (hs : 0 ≤ s) : ∀ {xs : List Int}, (∀ x ∈ xs, 0 ≤ x) → 0 ≤ wQ s xs
  | [], _ => Rat.le_refl
  | x :: xs, h => by
    have h1 : (0 : Rat) ≤ (x : Rat) := Rat.intCast_nonneg.mpr (h x List.mem_cons_self)
    have h2 := Rat.mul_nonneg hs (wQ_nn hs fun y hy => h y (List.mem_cons_of_mem _ hy))
    exact Rat.add_nonneg h1 h2
theorem wQ_pos {s : Rat} (hs : 0 < s) : ∀ {xs : List Int}, (∀ x ∈ xs, 0 ≤ x) → (∃ x ∈ xs, 0 < x) → 0 < wQ s xs
  | [], _, h => by obtain ⟨x, hx, _⟩ := h; cases hx
  | x :: xs, h, hp => by
    have h0 := h x List.mem_cons_self
    have ht : ∀ y ∈ xs, 0 ≤ y := fun y hy => h y (List.mem_cons_of_mem _ hy)
    by_cases hx : 0 < x
    · have h1 : (0 : Rat) < (x : Rat) := Rat.intCast_pos.mpr hx
      have h2 := Rat.mul_nonneg (Rat.le_of_lt hs) (wQ_nn (Rat.le_of_lt hs) ht)
      show (0 : Rat) < (x : Rat) + s * wQ s xs
      have := add_pos' h2 h1
      rwa [Rat.add_comm] at this
    · have hx0 : x = 0 := by omega
      subst hx0
      have h2 := wQ_pos hs (xs := xs) ht (by
        obtain ⟨y, hy, yp⟩ := hp
        rcases List.mem_cons.mp hy with rfl | hy
        · omega
        · exact ⟨y, hy, yp⟩)
      show (0 : Rat) < ((0 : Int) : Rat) + s * wQ s xs
      have := Rat.mul_pos hs h2
      rw [show ((0 : Int) : Rat) = 0 from rfl, Rat.zero_add]
      exact this
/-- not negative, not all zero -/
structure Pln (fs : List Int) : Prop where
  fl : Fl fs
  nn : ∀ x ∈ fs, 0 ≤ x
  ps : ∃ x ∈ fs, 0 < x
def prodI (fs gs : List Int) : List Int := (fs.zip gs).map fun p => p.1 * p.2
theorem prodI_bg {fs gs : List Int} (h : Fl fs) (hg : ∀ x ∈ gs, 0 ≤ x ∧ x ≤ 132) : Bg (prodI fs gs) := by
  refine ⟨by unfold prodI; rw [List.length_map, List.length_zip]; have := h.2.1; omega, fun x hx => ?_⟩
  obtain ⟨p, hp, rfl⟩ := List.mem_map.mp hx
  have h1 := h.2.2 p.1 (List.of_mem_zip hp).1
  have h2 := hg p.2 (List.of_mem_zip hp).2
  constructor
  · calc (-132000000 : Int) = -1000000 * 132 := by decide
      _ ≤ -1000000 * p.2 := by omega
      _ ≤ p.1 * p.2 := Int.mul_le_mul_of_nonneg_right h1.1 h2.1
  · calc p.1 * p.2 ≤ 1000000 * p.2 := Int.mul_le_mul_of_nonneg_right h1.2 h2.1
      _ ≤ 132000000 := by omega
/-- a weighted mean -/
def midQ (s : Rat) (fs gs : List Int) : Rat := wQ s (prodI fs gs) / wQ s fs
theorem mid_sz {s : Rat} (hs : Sz 12 s) (sp : 0 < s) {fs gs : List Int} (h : Pln fs) (hg : ∀ x ∈ gs, 0 ≤ x ∧ x ≤ 132) : Sz 962 (midQ s fs gs) := by
  have b1 := prodI_bg h.fl hg
  have b2 := h.fl.bg
  have z1 := wQ_szB hs b1.2
  have z2 := wQ_szB hs b2.2
  have := b1.1
  have := b2.1
  exact (z1.div z2 (num_ne (wQ_pos sp h.nn h.ps))).mono (by omega)
theorem minI_mem : ∀ {x : Int} {xs : List Int}, minI x xs ∈ x :: xs
  | x, [] => by simp [minI]
  | x, y :: ys => by
    unfold minI
    split
    · have := minI_mem (x := y) (xs := ys)
      exact List.mem_cons_of_mem _ this
    · have := minI_mem (x := x) (xs := ys)
      rcases List.mem_cons.mp this with e | e
      · rw [e]; exact List.mem_cons_self
      · exact List.mem_cons_of_mem _ (List.mem_cons_of_mem _ e)
theorem minI_le : ∀ {x : Int} {xs : List Int}, ∀ y ∈ x :: xs, minI x xs ≤ y
  | x, [], y, hy => by
    rw [List.mem_singleton.mp hy]; exact Int.le_refl _
  | x, z :: zs, y, hy => by
    unfold minI
    split
    · rename_i h
      have i := minI_le (x := z) (xs := zs)
      rcases List.mem_cons.mp hy with rfl | hy
      · have := i z List.mem_cons_self; omega
      · exact i y hy
    · rename_i h
      have i := minI_le (x := x) (xs := zs)
      rcases List.mem_cons.mp hy with rfl | hy
      · exact i _ List.mem_cons_self
      · rcases List.mem_cons.mp hy with rfl | hy
        · have := i x List.mem_cons_self; omega
        · exact i y (List.mem_cons_of_mem _ hy)
theorem maxI_mem : ∀ {x : Int} {xs : List Int}, maxI x xs ∈ x :: xs
  | x, [] => by simp [maxI]
  | x, y :: ys => by
    unfold maxI
    split
    · have := maxI_mem (x := y) (xs := ys)
      exact List.mem_cons_of_mem _ this
    · have := maxI_mem (x := x) (xs := ys)
      rcases List.mem_cons.mp this with e | e
      · rw [e]; exact List.mem_cons_self
      · exact List.mem_cons_of_mem _ (List.mem_cons_of_mem _ e)
theorem maxI_le : ∀ {x : Int} {xs : List Int}, ∀ y ∈ x :: xs, y ≤ maxI x xs
  | x, [], y, hy => by
    rw [List.mem_singleton.mp hy]; exact Int.le_refl _
  | x, z :: zs, y, hy => by
    unfold maxI
    split
    · rename_i h
      have i := maxI_le (x := z) (xs := zs)
      rcases List.mem_cons.mp hy with rfl | hy
      · have := i z List.mem_cons_self; omega
      · exact i y hy
    · rename_i h
      have i := maxI_le (x := x) (xs := zs)
      rcases List.mem_cons.mp hy with rfl | hy
      · exact i _ List.mem_cons_self
      · rcases List.mem_cons.mp hy with rfl | hy
        · have := i x List.mem_cons_self; omega
        · exact i y (List.mem_cons_of_mem _ hy)
theorem ints_map : ∀ (xs : List Int), ints? (xs.map D.int) = some xs
  | [] => rfl
  | x :: xs => by
    rw [List.map_cons]
    unfold ints?
    rw [ints_map xs]
    rfl
/-- the shares of two times -/
def shareQ (t0 t1 : Int) (m : Rat) : Rat := ((t1 : Rat) - m) / ((t1 - t0 : Int) : Rat)
theorem share_mid {t0 t1 : Int} (h : t0 ≠ t1) (v m : Rat) : v * shareQ t0 t1 m * (t0 : Rat) + v * (1 - shareQ t0 t1 m) * (t1 : Rat) = v * m := by
  have hd : ((t1 - t0 : Int) : Rat) ≠ 0 := fun z => by have : t1 - t0 = 0 := by exact_mod_cast z
                                                       omega
  have e : ((t1 - t0 : Int) : Rat) = (t1 : Rat) - (t0 : Rat) := Rat.intCast_sub _ _
  unfold shareQ
  rw [e] at hd ⊢
  grind
theorem share_sum {t0 t1 : Int} (v m : Rat) : v * shareQ t0 t1 m + v * (1 - shareQ t0 t1 m) = v := by grind
end PV

namespace PV
open PySem PySem.Spec
theorem nn_mul {a b : Rat} (h : 0 < a) : 0 ≤ b * a ↔ 0 ≤ b := by
  constructor
  · intro z
    apply Rat.not_lt.mp
    intro hb
    have h1 : (0 : Rat) < (-b) * a := Rat.mul_pos (by grind) h
    have h2 : (-b) * a = -(b * a) := by grind
    rw [h2] at h1
    grind
  · intro z
    exact Rat.mul_nonneg z (Rat.le_of_lt h)
theorem share_nn {t0 t1 : Int} (h : t0 ≠ t1) (m : Rat) : (0 ≤ shareQ t0 t1 m ∧ 0 ≤ 1 - shareQ t0 t1 m) ↔ (¬ m < ((minI t0 [t1] : Int) : Rat) ∧ ¬ ((maxI t0 [t1] : Int) : Rat) < m) := by
  have e : ((t1 - t0 : Int) : Rat) = (t1 : Rat) - (t0 : Rat) := Rat.intCast_sub _ _
  have hd : ((t1 - t0 : Int) : Rat) ≠ 0 := fun z => by have : t1 - t0 = 0 := by exact_mod_cast z
                                                       omega
  rw [e] at hd
  have s1 : shareQ t0 t1 m * ((t1 : Rat) - t0) = t1 - m := by unfold shareQ; rw [e]; grind
  by_cases hl : t0 < t1
  · have hq : (t0 : Rat) < t1 := Rat.intCast_lt_intCast.mpr hl
    have d : (0 : Rat) < (t1 : Rat) - t0 := by grind
    have i1 := nn_mul (b := shareQ t0 t1 m) d
    have i2 := nn_mul (b := 1 - shareQ t0 t1 m) d
    have s2 : (1 - shareQ t0 t1 m) * ((t1 : Rat) - t0) = m - t0 := by grind
    rw [s1] at i1
    rw [s2] at i2
    have m1 : minI t0 [t1] = t0 := by simp [minI]; omega
    have m2 : maxI t0 [t1] = t1 := by simp [maxI]; omega
    rw [m1, m2, ← i1, ← i2, Rat.not_lt, Rat.not_lt]
    constructor
    · intro ⟨z1, z2⟩; exact ⟨by grind, by grind⟩
    · intro ⟨z1, z2⟩; exact ⟨by grind, by grind⟩
  · have hl2 : t1 < t0 := by omega
    have hq : (t1 : Rat) < t0 := Rat.intCast_lt_intCast.mpr hl2
    have d : (0 : Rat) < (t0 : Rat) - t1 := by grind
    have i1 := nn_mul (b := shareQ t0 t1 m) d
    have i2 := nn_mul (b := 1 - shareQ t0 t1 m) d
    have s3 : shareQ t0 t1 m * ((t0 : Rat) - t1) = m - t1 := by grind
    have s2 : (1 - shareQ t0 t1 m) * ((t0 : Rat) - t1) = t0 - m := by grind
    rw [s3] at i1
    rw [s2] at i2
    have m1 : minI t0 [t1] = t1 := by simp [minI]; omega
    have m2 : maxI t0 [t1] = t0 := by simp [maxI]; omega
    rw [m1, m2, ← i1, ← i2, Rat.not_lt, Rat.not_lt]
    constructor
    · intro ⟨z1, z2⟩; exact ⟨by grind, by grind⟩
    · intro ⟨z1, z2⟩; exact ⟨by grind, by grind⟩
/-- both parts carried on are not negative just where the middle lies between the times -/
theorem share_in {t0 t1 : Int} (h : t0 ≠ t1) {v f0 f1 : Rat} (hv : 0 < v) (h0 : 0 < f0) (h1 : 0 < f1) (m : Rat) :
    (decide (0 ≤ (v * shareQ t0 t1 m * f0).num) && decide (0 ≤ (v * (1 - shareQ t0 t1 m) * f1).num)) = (!decide (m < ((minI t0 [t1] : Int) : Rat)) && !decide (((maxI t0 [t1] : Int) : Rat) < m)) := by
  have a1 : 0 ≤ (v * shareQ t0 t1 m * f0).num ↔ 0 ≤ shareQ t0 t1 m := by
    rw [Rat.num_nonneg, nn_mul h0, Rat.mul_comm, nn_mul hv]
  have a2 : 0 ≤ (v * (1 - shareQ t0 t1 m) * f1).num ↔ 0 ≤ 1 - shareQ t0 t1 m := by
    rw [Rat.num_nonneg, nn_mul h1, Rat.mul_comm, nn_mul hv]
  have := share_nn h m
  rw [Bool.eq_iff_iff]
  simp only [Bool.and_eq_true, decide_eq_true_eq, Bool.not_eq_true', decide_eq_false_iff_not]
  rw [a1, a2]
  exact this
section
variable {t : PTg} {cond : S → R Bool} {elt : S → R D} {env : List Sl} {α : Type} {f g : α → D}
theorem compL_boxN {j : Nat} (hj : j < env.length) {Q : D → Prop} {M c : Nat} : ∀ {xs : List D} {b : Bx} {m : Nat}, BI m b → m + c * xs.length ≤ M → (∀ x ∈ xs, ∀ (b : Bx) (m : Nat), BI m b → m ≤ M → ∃ (d : D) (b' : Bx), elt ⟨env.set j (.v x), b⟩ = .ok d ⟨env.set j (.v x), b'⟩ ∧ Q d ∧ BI (m + c) b') → ∀ {e : List Sl}, e.set j .no = env.set j .no → ∃ (ds : List D) (e' : List Sl) (b' : Bx), compL (.name j) (retR true) elt xs ⟨e, b⟩ = .ok ds ⟨e', b'⟩ ∧ e'.set j .no = env.set j .no ∧ ds.length = xs.length ∧ (∀ d ∈ ds, Q d) ∧ BI (m + c * xs.length) b'
  | [], b, m, hb, _, _, e, he => ⟨[], e, b, rfl, he, rfl, by simp, by simpa using hb⟩
  | x :: xs, b, m, hb, hm, h, e, he => by
    rw [List.length_cons, Nat.mul_add, Nat.mul_one] at hm
    have hl : e.length = env.length := by have := congrArg List.length he; simpa using this
    have ea : asgT (.name j) x { (⟨e, b⟩ : S) with env := wipeE (PTg.slots (.name j)) e } = some ⟨env.set j (.v x), b⟩ := by
      show (if j < (e.set j .no).length then some (⟨(e.set j .no).set j (.v x), b⟩ : S) else none) = _
      rw [if_pos (by simp [hl, hj]), List.set_set, set_no he]
    obtain ⟨d, b1, e1, hq, i1⟩ := h x List.mem_cons_self b m hb (by omega)
    obtain ⟨ds, e', b2, q1, q2, q3, q4, i2⟩ := compL_boxN hj (Q := Q) (M := M) (c := c) (xs := xs) i1 (by omega) (fun y hy => h y (List.mem_cons_of_mem _ hy)) (e := env.set j (.v x)) (by rw [List.set_set])
    refine ⟨d :: ds, e', b2, ?_, q2, by rw [List.length_cons, List.length_cons, q3], ?_, bi_mono i2 (by rw [List.length_cons, Nat.mul_add, Nat.mul_one]; omega)⟩
    · unfold compL
      rw [ea]
      simp [bindR, noX, retR, e1, q1]
    · intro y hy
      rcases List.mem_cons.mp hy with rfl | hy
      · exact hq
      · exact q4 y hy
theorem compR_boxN {j : Nat} (hp : plainAt [j] env = true) {Q : D → Prop} {M c : Nat} {xs : List D} {b : Bx} {m : Nat} (hl : xs.length ≤ big) (hb : BI m b) (hm : m + c * xs.length ≤ M) (h : ∀ x ∈ xs, ∀ (b : Bx) (m : Nat), BI m b → m ≤ M → ∃ (d : D) (b' : Bx), elt ⟨env.set j (.v x), b⟩ = .ok d ⟨env.set j (.v x), b'⟩ ∧ Q d ∧ BI (m + c) b') : ∃ (ds : List D) (b' : Bx), compR (.name j) (retR true) elt xs ⟨env, b⟩ = .ok (.lst ds) ⟨env, b'⟩ ∧ ds.length = xs.length ∧ (∀ d ∈ ds, Q d) ∧ BI (m + c * xs.length) b' := by
  have hj : j < env.length := by
    unfold plainAt at hp
    cases e : env[j]? with
    | none => rw [e] at hp; simp at hp
    | some y => exact (List.getElem?_eq_some_iff.mp e).1
  obtain ⟨ds, e', b', q1, q2, q3, q4, q5⟩ := compL_boxN hj (e := env) hb hm h rfl
  refine ⟨ds, b', ?_, q3, q4, q5⟩
  unfold compR
  have hp : (plainAt (PTg.slots (.name j)) (⟨env, b⟩ : S).env && decide (xs.length ≤ big)) = true := by
    rw [Bool.and_eq_true, decide_eq_true_eq]; exact ⟨hp, hl⟩
  rw [if_pos hp, q1]
  dsimp only
  have : backE env (PTg.slots (.name j)) e' = env := back_env q2
  rw [this]
end
end PV

/-! more steps of the evaluator -/
namespace PV
open PySem PySem.Spec
section
variable {F : FT} {con : Nat → D} {fw : Nat} {s s1 s2 s3 : S}
theorem ev_tval {e : PX} {d : D} {k : Bool} (h : pk e (evalE F con e) s = .ok d s1) (hk : truD d = some k) : evalT F con (.val e) s = .ok k s1 := by
  rw [evalT, bindR_ok h]
  unfold truR optR
  rw [hk]
theorem ev_tnot {t : PTt} {k : Bool} (h : evalT F con t s = .ok k s1) : evalT F con (.not t) s = .ok (!k) s1 := by
  rw [evalT, bindR_ok h]
  rfl
theorem ev_t1 {t : PTt} {k : Bool} {q : R Bool} (h : evalT F con t s = q) : evalT F con (.bop k (.cons t .nil)) s = q := by
  rw [evalT, evalTB]
  exact h
/-- `t or r`, t not; `t and r`, t -/
theorem ev_tgo {t u : PTt} {r : PTts} {k : Bool} {q : R Bool} (h : evalT F con t s = .ok k s1) (h2 : evalT F con (.bop k (.cons u r)) s1 = q) : evalT F con (.bop k (.cons t (.cons u r))) s = q := by
  rw [evalT, evalTB, bindR_ok h]
  · rw [evalT] at h2
    simpa using h2
  · intro z; cases z
/-- `t or r`, t; `t and r`, t not -/
theorem ev_tstop {t u : PTt} {r : PTts} {k : Bool} (h : evalT F con t s = .ok (!k) s1) : evalT F con (.bop k (.cons t (.cons u r))) s = .ok (!k) s1 := by
  rw [evalT, evalTB, bindR_ok h]
  · cases k <;> rfl
  · intro z; cases z
theorem ev_ixs {j : Nat} {i : Int} {x d : D} (h : s.env[j]? = some (.v x)) (h3 : ixD x (.int i) = some d) (hb : x ≠ .box) : evalE F con (.ix (.slot j) (.int i)) s = .ok d s := by
  have e1 : pk (.slot j) (evalE F con (.slot j)) s = .ok x s := by
    show slotP j s = _
    unfold slotP
    rw [h]
  rw [evalE, bindR_ok e1, evalE, bindR_ok (show retR (D.int i) s = .ok (.int i) s from rfl)]
  cases x <;> first | exact absurd rfl hb | (simp only [optR, h3])
theorem ev_ixx {e : PX} {i : Int} {x d : D} (hp : ∀ m, pk e m = m) (h : evalE F con e s = .ok x s1) (h3 : ixD x (.int i) = some d) (hb : x ≠ .box) : evalE F con (.ix e (.int i)) s = .ok d s1 := by
  rw [evalE, hp, bindR_ok h, evalE, bindR_ok (show retR (D.int i) s1 = .ok (.int i) s1 from rfl)]
  cases x <;> first | exact absurd rfl hb | (simp only [optR, h3])
theorem ev_slotP {j : Nat} {d : D} (h : s.env[j]? = some (.v d)) : pk (.slot j) (evalE F con (.slot j)) s = .ok d s := by
  show slotP j s = _
  unfold slotP
  rw [h]
theorem ev_cmpG {o : Cp} {a c : PX} {x y : D} {k : Bool} (ha : pk a (evalE F con a) s = .ok x s1) (hb : pk c (evalE F con c) s1 = .ok y s2) (hc : cpD o x y = some k) : evalE F con (.cmp o a c) s = .ok (.bl k) s2 := by
  rw [evalE, bindR_ok ha, bindR_ok hb, hc]
  rfl
theorem ev_valC {o : Cp} {a c : PX} {k : Bool} (h : evalE F con (.cmp o a c) s = .ok (.bl k) s1) : evalT F con (.val (.cmp o a c)) s = .ok k s1 :=
  ev_tval (show pk (.cmp o a c) (evalE F con (.cmp o a c)) s = _ from h) rfl
theorem ev_seqT {e : PX} {xs : List D} (h : evalE F con e s = .ok (.tup xs) s1) : evalI F con (.seq e) s = .ok xs s1 := by
  rw [evalI, bindR_ok h]
  rfl
theorem ev_compI {elt : PX} {g : PTg} {it : PIt} {cd : PTt} {xs : List D} {d : D} (h : evalI F con it s = .ok xs s1) (h2 : compR g (evalT F con cd) (evalE F con elt) xs s1 = .ok d s2) : evalE F con (.compIf elt g it cd) s = .ok d s2 := by
  rw [evalE, bindR_ok h]
  exact h2
/-- a built-in function of one argument -/
theorem ev_blt1 {o : Bt} {e : PX} {x d : D} (h : pk e (evalE F con e) s = .ok x s1) (h2 : bltD o [x] = some d) : evalE F con (.blt o (.cons e .nil)) s = .ok d s1 := by
  have e1 : evalPs F con (.cons e .nil) s = .ok [x] s1 := by
    rw [evalPs, bindR_ok h]
    rfl
  rw [evalE, bindR_ok e1]
  unfold optR
  rw [h2]
theorem ev_lst {es : PXs} {ds : List D} (h : evalEs F con es s = .ok ds s1) (hl : ds.length ≤ big) : evalE F con (.lst es) s = .ok (.lst ds) s1 := by
  rw [evalE, bindR_ok h, if_pos hl]
  rfl
theorem ev_tup {es : PXs} {ds : List D} (h : evalEs F con es s = .ok ds s1) (hl : ds.length ≤ big) : evalE F con (.tup es) s = .ok (.tup ds) s1 := by
  rw [evalE, bindR_ok h, if_pos hl]
  rfl
theorem ev_ixL {es : PXs} {i : PX} {ds : List D} {t : Int} {d : D} (h : evalE F con (.lst es) s = .ok (.lst ds) s1) (hi : evalE F con i s1 = .ok (.int t) s2) (ha : L2.atI ds t = some d) : evalE F con (.ix (.lst es) i) s = .ok d s2 := by
  have e1 : pk (.lst es) (evalE F con (.lst es)) s = .ok (.lst ds) s1 := h
  rw [evalE, bindR_ok e1, bindR_ok hi]
  simp only [optR, ixD, ha]
theorem ev_bin {o : Op2} {a c : PX} {x y d : D} (ha : pk a (evalE F con a) s = .ok x s1) (hb : pk c (evalE F con c) s1 = .ok y s2) (hc : binD o x y = some d) : evalE F con (.bin o a c) s = .ok d s2 := by
  rw [evalE, bindR_ok ha, bindR_ok hb, hc]
  rfl
theorem ev_ownL {i : Nat} {e : PX} {xs : List D} (h : evalE F con e s = .ok (.lst xs) s1) (hi : i < s1.env.length) : evalS F con fw (.own i e) s = .next { s1 with env := s1.env.set i (.own xs) } := by
  rw [evalS]
  unfold bindS
  rw [h]
  dsimp only
  unfold ownSl
  dsimp only
  rw [if_pos hi]
theorem ev_rangeS {e : PX} {n : Nat} (h : evalE F con e s = .ok (.int (n : Int)) s1) (hn : n ≤ 1000000) : evalI F con (.range1 e) s = .ok (rangeD 0 (n : Int)) s1 := by
  rw [ev_range1, bindR_ok h, bindR_ok (show intR (.int (n : Int)) s1 = .ok (n : Int) s1 from rfl), if_pos (rngOk_nat hn)]
  rfl
end
theorem eq_qq (p : Rat) : eqD (qD p) (qD p) = some true := by
  have h1 : eqD (qD p) (qD p) = if SeqAt.shaped (.tuple [.int p.num, .int p.den]) && SeqAt.shaped (.tuple [.int p.num, .int p.den]) then some (PyData.eqv (.tuple [.int p.num, .int p.den]) (.tuple [.int p.num, .int p.den])) else none := rfl
  have h2 : SeqAt.shaped (.tuple [.int p.num, .int p.den]) = true := by rfl
  rw [h1, h2]
  simp [PyData.eqv, PyData.eqvAll]
theorem cut_lo {xs : List D} {l : Nat} (h : l ≤ xs.length) : cutD xs (some (l : Int)) none = xs.drop l := by
  unfold cutD
  rw [HT.sIx_none, HT.sIx_nat, Nat.min_eq_left h, List.take_of_length_le (by simp)]
theorem cut_hi {xs : List D} {l : Nat} (h : l ≤ xs.length) : cutD xs none (some (l : Int)) = xs.take l := by
  unfold cutD
  rw [HT.sIx_none, HT.sIx_nat, Nat.min_eq_left h]
  simp
theorem plC_q {n : Nat} (p : Rat) : PlC (n + 1) (qD p) := ((plB_q p).upTo (n := 1) (by omega)).c
end PV

namespace HD
open PySem PySem.Spec PyProof.Rows L2 PV
def b_is_integer : PSts := (.cons (.ret (.bop true (.cons (.isi (.slot 0) .int) (.cons (.not (.isi (.slot 0) .bool)) .nil)))) .nil)
def b_is_between : PSts := (.cons (.ret (.bop true (.cons (.call 0 (.cons (.slot 0) .nil)) (.cons (.chain .le .le (.slot 1) (.slot 0) (.slot 2)) .nil)))) .nil)
def b_is_tuple_of : PSts := (.cons (.ret (.bop true (.cons (.isi (.slot 0) .tuple) (.cons (.cmp .eq (.blt .len (.cons (.slot 0) .nil)) (.slot 1)) .nil)))) .nil)
def b_is_row : PSts := (.cons (.ret (.bop true (.cons (.call 2 (.cons (.slot 0) (.cons (.slot 1) .nil))) (.cons (.blt .all (.cons (.comp (.call 1 (.cons (.slot 4) (.cons (.slot 2) (.cons (.slot 3) .nil)))) (.name 4) (.seq (.slot 0))) .nil)) .nil)))) .nil)
def b_is_fraction : PSts := (.cons (.iff (.bop false (.cons (.not (.val (.call 2 (.cons (.slot 0) (.cons (.int 2) .nil))))) (.cons (.not (.val (.blt .all (.cons (.comp (.call 0 (.cons (.slot 1) .nil)) (.name 1) (.seq (.slot 0))) .nil)))) .nil))) (.cons (.ret (.bl false)) .nil) .nil) (.cons (.ret (.bop true (.cons (.cmp .gt (.ix (.slot 0) (.int 1)) (.int 0)) (.cons (.cmp .eq (.blt .gcd (.cons (.ix (.slot 0) (.int 0)) (.cons (.ix (.slot 0) (.int 1)) .nil))) (.int 1)) .nil)))) .nil))
def b_lowest : PSts := (.cons (.asg (.name 2) (.blt .gcd (.cons (.slot 0) (.cons (.slot 1) .nil)))) (.cons (.iff (.val (.cmp .lt (.slot 1) (.int 0))) (.cons (.asg (.name 2) (.neg (.slot 2))) .nil) .nil) (.cons (.ret (.tup (.cons (.bin .fdiv (.slot 0) (.slot 2)) (.cons (.bin .fdiv (.slot 1) (.slot 2)) .nil)))) .nil)))
def b_whole : PSts := (.cons (.ret (.tup (.cons (.slot 0) (.cons (.int 1) .nil)))) .nil)
def b_add : PSts := (.cons (.ret (.call 5 (.cons (.bin .add (.bin .mul (.ix (.slot 0) (.int 0)) (.ix (.slot 1) (.int 1))) (.bin .mul (.ix (.slot 1) (.int 0)) (.ix (.slot 0) (.int 1)))) (.cons (.bin .mul (.ix (.slot 0) (.int 1)) (.ix (.slot 1) (.int 1))) .nil)))) .nil)
def b_subtract : PSts := (.cons (.ret (.call 5 (.cons (.bin .sub (.bin .mul (.ix (.slot 0) (.int 0)) (.ix (.slot 1) (.int 1))) (.bin .mul (.ix (.slot 1) (.int 0)) (.ix (.slot 0) (.int 1)))) (.cons (.bin .mul (.ix (.slot 0) (.int 1)) (.ix (.slot 1) (.int 1))) .nil)))) .nil)
def b_multiply : PSts := (.cons (.ret (.call 5 (.cons (.bin .mul (.ix (.slot 0) (.int 0)) (.ix (.slot 1) (.int 0))) (.cons (.bin .mul (.ix (.slot 0) (.int 1)) (.ix (.slot 1) (.int 1))) .nil)))) .nil)
def b_divide : PSts := (.cons (.ret (.call 5 (.cons (.bin .mul (.ix (.slot 0) (.int 0)) (.ix (.slot 1) (.int 1))) (.cons (.bin .mul (.ix (.slot 0) (.int 1)) (.ix (.slot 1) (.int 0))) .nil)))) .nil)
def b_compare : PSts := (.cons (.par [(2, false), (3, false)] (.cons (.bin .mul (.ix (.slot 0) (.int 0)) (.ix (.slot 1) (.int 1))) (.cons (.bin .mul (.ix (.slot 1) (.int 0)) (.ix (.slot 0) (.int 1))) .nil))) (.cons (.ret (.bin .sub (.blt .int (.cons (.cmp .gt (.slot 2) (.slot 3)) .nil)) (.blt .int (.cons (.cmp .lt (.slot 2) (.slot 3)) .nil)))) .nil))
def b_is_less : PSts := (.cons (.ret (.cmp .lt (.call 11 (.cons (.slot 0) (.cons (.slot 1) .nil))) (.int 0))) .nil)
def b_is_flow : PSts := (.cons (.iff (.bop false (.cons (.not (.val (.isi (.slot 0) .tuple))) (.cons (.not (.val (.chain .le .le (.int 1) (.blt .len (.cons (.slot 0) .nil)) (.glob 2)))) .nil))) (.cons (.ret (.bl false)) .nil) .nil) (.cons (.ret (.call 3 (.cons (.slot 0) (.cons (.blt .len (.cons (.slot 0) .nil)) (.cons (.neg (.glob 3)) (.cons (.glob 3) .nil)))))) .nil))
def b_check_flow : PSts := (.cons (.iff (.not (.val (.call 13 (.cons (.slot 0) .nil)))) (.cons (.raise 0 1 (.cons (.slot 0) .nil)) .nil) .nil) .nil)
def b_is_rate : PSts := (.cons (.ret (.bop true (.cons (.call 4 (.cons (.slot 0) .nil)) (.cons (.cmp .gt (.bin .add (.ix (.slot 0) (.int 0)) (.ix (.slot 0) (.int 1))) (.int 0)) .nil)))) .nil)
def b_check_rate : PSts := (.cons (.iff (.not (.val (.call 15 (.cons (.slot 0) .nil)))) (.cons (.raise 1 1 (.cons (.slot 0) .nil)) .nil) .nil) .nil)
def b_factor_of : PSts := (.cons (.ret (.call 7 (.cons (.glob 1) (.cons (.slot 0) .nil)))) .nil)
def b_worth_now : PSts := (.cons (.par [(3, false), (4, false)] (.cons (.call 10 (.cons (.glob 1) (.cons (.call 17 (.cons (.slot 1) .nil)) .nil))) (.cons (.glob 0) .nil))) (.cons (.for (.name 2) (.seq (.slRev (.slot 0))) (.cons (.asg (.name 4) (.call 7 (.cons (.call 6 (.cons (.slot 2) .nil)) (.cons (.call 9 (.cons (.slot 3) (.cons (.slot 4) .nil))) .nil)))) .nil)) (.cons (.ret (.slot 4)) .nil)))
def b_present : PSts := (.cons (.expr (.call 14 (.cons (.slot 0) .nil))) (.cons (.expr (.call 16 (.cons (.slot 1) .nil))) (.cons (.ret (.call 18 (.cons (.slot 0) (.cons (.slot 1) .nil)))) .nil)))
def b_check_plain : PSts := (.cons (.expr (.call 14 (.cons (.slot 0) .nil))) (.cons (.iff (.bop false (.cons (.val (.cmp .lt (.blt .min2 (.cons (.slot 0) .nil)) (.int 0))) (.cons (.val (.cmp .eq (.blt .max2 (.cons (.slot 0) .nil)) (.int 0))) .nil))) (.cons (.raise 0 1 (.cons (.slot 0) .nil)) .nil) .nil) .nil))
def b_average : PSts := (.cons (.asg (.name 3) (.call 18 (.cons (.comp (.bin .mul (.slot 4) (.slot 5)) (.tup [4, 5]) (.zip (.slot 0) (.slot 2))) (.cons (.slot 1) .nil)))) (.cons (.ret (.call 10 (.cons (.slot 3) (.cons (.call 18 (.cons (.slot 0) (.cons (.slot 1) .nil))) .nil)))) .nil))
def b_duration : PSts := (.cons (.expr (.call 20 (.cons (.slot 0) .nil))) (.cons (.expr (.call 16 (.cons (.slot 1) .nil))) (.cons (.ret (.call 21 (.cons (.slot 0) (.cons (.slot 1) (.cons (.rngL (.blt .len (.cons (.slot 0) .nil))) .nil))))) .nil)))
def b_convexity : PSts := (.cons (.expr (.call 20 (.cons (.slot 0) .nil))) (.cons (.expr (.call 16 (.cons (.slot 1) .nil))) (.cons (.asg (.name 2) (.call 17 (.cons (.slot 1) .nil))) (.cons (.asg (.name 3) (.call 21 (.cons (.slot 0) (.cons (.slot 1) (.cons (.comp (.bin .mul (.slot 4) (.bin .add (.slot 4) (.int 1))) (.name 4) (.range1 (.blt .len (.cons (.slot 0) .nil)))) .nil))))) (.cons (.ret (.call 10 (.cons (.slot 3) (.cons (.call 9 (.cons (.slot 2) (.cons (.slot 2) .nil))) .nil)))) .nil)))))
def b_later : PSts := (.cons (.asg (.name 3) (.slot 0)) (.cons (.for (.name 4) (.range1 (.slot 2)) (.cons (.asg (.name 3) (.call 9 (.cons (.slot 3) (.cons (.call 17 (.cons (.slot 1) .nil)) .nil)))) .nil)) (.cons (.ret (.slot 3)) .nil)))
def b_immunized : PSts := (.cons (.expr (.call 20 (.cons (.slot 0) .nil))) (.cons (.expr (.call 16 (.cons (.slot 1) .nil))) (.cons (.iff (.bop false (.cons (.not (.val (.call 3 (.cons (.slot 2) (.cons (.int 2) (.cons (.int 0) (.cons (.glob 4) .nil))))))) (.cons (.val (.cmp .eq (.ix (.slot 2) (.int 0)) (.ix (.slot 2) (.int 1)))) .nil))) (.cons (.raise 3 1 (.cons (.slot 2) .nil)) .nil) .nil) (.cons (.par [(5, false), (6, false)] (.cons (.call 18 (.cons (.slot 0) (.cons (.slot 1) .nil))) (.cons (.call 21 (.cons (.slot 0) (.cons (.slot 1) (.cons (.rngL (.blt .len (.cons (.slot 0) .nil))) .nil)))) .nil))) (.cons (.asg (.name 3) (.call 10 (.cons (.call 8 (.cons (.call 6 (.cons (.ix (.slot 2) (.int 1)) .nil)) (.cons (.slot 6) .nil))) (.cons (.call 6 (.cons (.bin .sub (.ix (.slot 2) (.int 1)) (.ix (.slot 2) (.int 0))) .nil)) .nil)))) (.cons (.asg (.name 4) (.lst (.cons (.call 9 (.cons (.slot 5) (.cons (.slot 3) .nil))) (.cons (.call 9 (.cons (.slot 5) (.cons (.call 8 (.cons (.glob 1) (.cons (.slot 3) .nil))) .nil))) .nil)))) (.cons (.ret (.blt .tuple (.cons (.comp (.call 24 (.cons (.slot 7) (.cons (.slot 1) (.cons (.slot 8) .nil)))) (.tup [7, 8]) (.zip (.slot 4) (.slot 2))) .nil))) .nil)))))))
def b_is_covered : PSts := (.cons (.expr (.call 14 (.cons (.slot 0) .nil))) (.cons (.expr (.call 14 (.cons (.slot 1) .nil))) (.cons (.iff (.bop false (.cons (.not (.val (.isi (.slot 2) .tuple))) (.cons (.not (.val (.chain .le .le (.int 1) (.blt .len (.cons (.slot 2) .nil)) (.glob 5)))) (.cons (.not (.val (.blt .all (.cons (.comp (.call 15 (.cons (.slot 3) .nil)) (.name 3) (.seq (.slot 2))) .nil)))) .nil)))) (.cons (.raise 2 1 (.cons (.slot 2) .nil)) .nil) .nil) (.cons (.ret (.not (.blt .any (.cons (.comp (.call 12 (.cons (.call 18 (.cons (.slot 0) (.cons (.slot 3) .nil))) (.cons (.call 18 (.cons (.slot 1) (.cons (.slot 3) .nil))) .nil))) (.name 3) (.seq (.slot 2))) .nil)))) .nil))))
def b__law_take : PSts := (.cons (.iff (.bop true (.cons (.val (.ix (.slot 0) (.int 1))) (.cons (.val (.cmp .gt (.ix (.slot 0) (.int 0)) (.int 0))) .nil))) (.cons (.asg (.name 3) (.bin .mod (.blt .int (.cons (.ix (.slot 0) (.int 0)) .nil)) (.slot 1))) (.cons (.set 0 (.int 0) (.bin .fdiv (.ix (.slot 0) (.int 0)) (.slot 1))) (.cons (.ret (.slot 3)) .nil))) .nil) (.cons (.set 0 (.int 3) (.bin .add (.ix (.slot 0) (.int 3)) (.int 1))) (.cons (.asg (.name 2) (.bin .mod (.blt .int (.cons (.bin .pow (.bin .add (.bin .add (.ix (.slot 0) (.int 2)) (.bin .mul (.int 15485863) (.ix (.slot 0) (.int 3)))) (.int 179424673)) (.int 5)) .nil)) (.int 2147483647))) (.cons (.ret (.bin .mod (.blt .int (.cons (.bin .fdiv (.bin .mod (.blt .int (.cons (.bin .pow (.bin .add (.bin .mul (.slot 2) (.int 48271)) (.bin .mul (.int 104729) (.ix (.slot 0) (.int 3)))) (.int 3)) .nil)) (.int 2147483587)) (.int 64)) .nil)) (.slot 1))) .nil))))
def b__law_same : PSts := (.cons (.iff (.bop false (.cons (.val (.cmp .is (.slot 1) .non)) (.cons (.val (.isi (.slot 1) .bool)) .nil))) (.cons (.ret (.ite (.val (.cmp .is (.slot 1) .non)) (.cmp .is (.slot 0) .non) (.bop true (.cons (.isi (.slot 0) .bool) (.cons (.cmp .eq (.cmp .is (.slot 0) (.bl true)) (.cmp .is (.slot 1) (.bl true))) .nil))))) .nil) .nil) (.cons (.iff (.val (.isi (.slot 1) .int)) (.cons (.ret (.bop true (.cons (.isi (.slot 0) .int) (.cons (.not (.isi (.slot 0) .bool)) (.cons (.cmp .eq (.bin .sub (.blt .int (.cons (.slot 0) .nil)) (.slot 1)) (.int 0)) .nil))))) .nil) .nil) (.cons (.iff (.val (.isi (.slot 1) .str)) (.cons (.ret (.bop true (.cons (.isi (.slot 0) .str) (.cons (.cmp .eq (.blt .len (.cons (.slot 0) .nil)) (.blt .len (.cons (.slot 1) .nil))) (.cons (.cmp .eq (.compIf (.slot 2) (.name 2) (.range1 (.blt .len (.cons (.slot 1) .nil))) (.val (.cmp .ne (.slLH (.slot 0) (.slot 2) (.bin .add (.slot 2) (.int 1))) (.ix (.slot 1) (.slot 2))))) (.lst .nil)) .nil))))) .nil) .nil) (.cons (.iff (.val (.isi (.slot 1) .dict)) (.cons (.ret (.bop true (.cons (.isi (.slot 0) .dict) (.cons (.cmp .eq (.blt .len (.cons (.slot 0) .nil)) (.blt .len (.cons (.slot 1) .nil))) (.cons (.dctN (.name 3) 1) .nil))))) .nil) .nil) (.cons (.iff (.bop false (.cons (.not (.val (.isiT (.slot 0) [.list, .tuple]))) (.cons (.val (.cmp .ne (.isi (.slot 0) .list) (.isi (.slot 1) .list))) .nil))) (.cons (.ret (.bl false)) .nil) .nil) (.cons (.ret (.bop true (.cons (.cmp .eq (.blt .len (.cons (.slot 0) .nil)) (.blt .len (.cons (.slot 1) .nil))) (.cons (.cmp .eq (.compIf (.slot 2) (.name 2) (.range1 (.blt .len (.cons (.slot 1) .nil))) (.not (.val (.call 28 (.cons (.ix (.slot 0) (.slot 2)) (.cons (.ix (.slot 1) (.slot 2)) .nil)))))) (.lst .nil)) .nil)))) .nil))))))
def b__law_gcd : PSts := (.cons (.par [(0, false), (1, false)] (.cons (.blt .abs (.cons (.slot 0) .nil)) (.cons (.blt .abs (.cons (.slot 1) .nil)) .nil))) (.cons (.whil (.val (.cmp .ne (.slot 1) (.int 0))) (.cons (.par [(0, false), (1, false)] (.cons (.slot 1) (.cons (.bin .mod (.slot 0) (.slot 1)) .nil))) .nil)) (.cons (.ret (.slot 0)) .nil)))
def b__law_low : PSts := (.cons (.iff (.val (.cmp .lt (.slot 1) (.int 0))) (.cons (.par [(0, false), (1, false)] (.cons (.neg (.slot 0)) (.cons (.neg (.slot 1)) .nil))) .nil) .nil) (.cons (.asg (.name 2) (.call 29 (.cons (.slot 0) (.cons (.slot 1) .nil)))) (.cons (.ret (.tup (.cons (.bin .fdiv (.slot 0) (.slot 2)) (.cons (.bin .fdiv (.slot 1) (.slot 2)) .nil)))) .nil)))
def b__law_add : PSts := (.cons (.ret (.call 30 (.cons (.bin .add (.bin .mul (.ix (.slot 0) (.int 0)) (.ix (.slot 1) (.int 1))) (.bin .mul (.ix (.slot 1) (.int 0)) (.ix (.slot 0) (.int 1)))) (.cons (.bin .mul (.ix (.slot 0) (.int 1)) (.ix (.slot 1) (.int 1))) .nil)))) .nil)
def b__law_less : PSts := (.cons (.ret (.call 30 (.cons (.bin .sub (.bin .mul (.ix (.slot 0) (.int 0)) (.ix (.slot 1) (.int 1))) (.bin .mul (.ix (.slot 1) (.int 0)) (.ix (.slot 0) (.int 1)))) (.cons (.bin .mul (.ix (.slot 0) (.int 1)) (.ix (.slot 1) (.int 1))) .nil)))) .nil)
def b__law_mul : PSts := (.cons (.ret (.call 30 (.cons (.bin .mul (.ix (.slot 0) (.int 0)) (.ix (.slot 1) (.int 0))) (.cons (.bin .mul (.ix (.slot 0) (.int 1)) (.ix (.slot 1) (.int 1))) .nil)))) .nil)
def b__law_div : PSts := (.cons (.ret (.call 30 (.cons (.bin .mul (.ix (.slot 0) (.int 0)) (.ix (.slot 1) (.int 1))) (.cons (.bin .mul (.ix (.slot 0) (.int 1)) (.ix (.slot 1) (.int 0))) .nil)))) .nil)
def b__law_sum : PSts := (.cons (.asg (.name 1) (.tup (.cons (.int 0) (.cons (.int 1) .nil)))) (.cons (.for (.name 2) (.seq (.slot 0)) (.cons (.asg (.name 1) (.call 31 (.cons (.slot 1) (.cons (.slot 2) .nil)))) .nil)) (.cons (.ret (.slot 1)) .nil)))
def b__law_below : PSts := (.cons (.ret (.cmp .lt (.bin .mul (.ix (.slot 0) (.int 0)) (.ix (.slot 1) (.int 1))) (.bin .mul (.ix (.slot 1) (.int 0)) (.ix (.slot 0) (.int 1))))) .nil)
def b__law_dot : PSts := (.cons (.ret (.call 35 (.cons (.comp (.call 33 (.cons (.slot 2) (.cons (.slot 3) .nil))) (.tup [2, 3]) (.zip (.slot 0) (.slot 1))) .nil))) .nil)
def b__law_flow : PSts := (.cons (.par [(4, false), (5, false)] (.cons (.bin .add (.int 1) (.call 27 (.cons (.slot 0) (.cons (.slot 1) .nil)))) (.cons (.call 27 (.cons (.slot 0) (.cons (.int 5) .nil))) .nil))) (.cons (.own 3 (.comp (.bin .sub (.call 27 (.cons (.slot 0) (.cons (.bin .add (.bin .mul (.int 2) (.slot 2)) (.int 1)) .nil))) (.slot 2)) (.name 6) (.range1 (.slot 4)))) (.cons (.iff (.val (.cmp .eq (.slot 5) (.int 0))) (.cons (.own 3 (.bin .add (.lst (.cons (.bin .sub (.neg (.blt .abs (.cons (.ix (.slot 3) (.int 0)) .nil))) (.int 1)) .nil)) (.comp (.blt .abs (.cons (.slot 7) .nil)) (.name 7) (.seq (.slLo (.slot 3) (.int 1)))))) .nil) .nil) (.cons (.iff (.val (.cmp .eq (.slot 5) (.int 1))) (.cons (.own 3 (.comp (.blt .abs (.cons (.slot 7) .nil)) (.name 7) (.seq (.slot 3)))) .nil) .nil) (.cons (.iff (.val (.cmp .eq (.slot 5) (.int 2))) (.cons (.own 3 (.comp (.bin .mul (.slot 7) (.blt .int (.cons (.cmp .gt (.call 27 (.cons (.slot 0) (.cons (.int 3) .nil))) (.int 0)) .nil))) (.name 7) (.seq (.slot 3)))) .nil) .nil) (.cons (.iff (.val (.cmp .eq (.slot 5) (.int 3))) (.cons (.set 3 (.bin .sub (.blt .len (.cons (.slot 3) .nil)) (.int 1)) (.bin .sub (.int 1000000) (.call 27 (.cons (.slot 0) (.cons (.int 9) .nil))))) .nil) .nil) (.cons (.ret (.blt .tuple (.cons (.slot 3) .nil))) .nil)))))))
def b__law_rate : PSts := (.cons (.asg (.name 1) (.lst (.cons (.tup (.cons (.int 0) (.cons (.int 1) .nil))) (.cons (.tup (.cons (.int 1) (.cons (.int 10) .nil))) (.cons (.tup (.cons (.int 1) (.cons (.int 20) .nil))) (.cons (.call 30 (.cons (.bin .add (.int 1) (.call 27 (.cons (.slot 0) (.cons (.int 12) .nil)))) (.cons (.int 12) .nil))) (.cons (.tup (.cons (.int 1) (.cons (.int 1) .nil))) (.cons (.call 30 (.cons (.bin .sub (.neg (.int 1)) (.call 27 (.cons (.slot 0) (.cons (.int 5) .nil)))) (.cons (.int 7) .nil))) .nil)))))))) (.cons (.asg (.name 1) (.bin .add (.slot 1) (.lst (.cons (.tup (.cons (.call 27 (.cons (.slot 0) (.cons (.int 4) .nil))) (.cons (.int 1) .nil))) (.cons (.call 30 (.cons (.bin .add (.int 3) (.call 27 (.cons (.slot 0) (.cons (.int 40) .nil)))) (.cons (.int 400) .nil))) .nil))))) (.cons (.ret (.ix (.slot 1) (.call 27 (.cons (.slot 0) (.cons (.int 8) .nil))))) .nil)))
def b__law_present : PSts := (.cons (.par [(3, false), (4, false), (5, false)] (.cons (.call 34 (.cons (.tup (.cons (.int 1) (.cons (.int 1) .nil))) (.cons (.call 31 (.cons (.tup (.cons (.int 1) (.cons (.int 1) .nil))) (.cons (.slot 1) .nil))) .nil))) (.cons (.tup (.cons (.int 1) (.cons (.int 1) .nil))) (.cons (.tup (.cons (.int 0) (.cons (.int 1) .nil))) .nil)))) (.cons (.for (.name 2) (.seq (.slot 0)) (.cons (.asg (.name 5) (.call 31 (.cons (.slot 5) (.cons (.call 33 (.cons (.tup (.cons (.slot 2) (.cons (.int 1) .nil))) (.cons (.slot 4) .nil))) .nil)))) (.cons (.asg (.name 4) (.call 33 (.cons (.slot 4) (.cons (.slot 3) .nil)))) .nil))) (.cons (.ret (.slot 5)) .nil)))
def b__law_no_flow : PSts := (.cons (.asg (.name 2) (.call 27 (.cons (.slot 0) (.cons (.blt .len (.cons (.slot 1) .nil)) .nil)))) (.cons (.asg (.name 3) (.ix (.lst (.cons .non (.cons (.bl true) (.cons (.str "1") (.cons (.tup (.cons (.int 1) .nil)) (.cons (.int 1000001) (.cons (.neg (.int 1000001)) (.cons (.tup (.cons (.int 1) (.cons (.int 2) .nil))) .nil)))))))) (.call 27 (.cons (.slot 0) (.cons (.int 7) .nil))))) (.cons (.ret (.ix (.lst (.cons (.blt .list (.cons (.slot 1) .nil)) (.cons (.tup .nil) (.cons (.bin .mul (.tup (.cons (.int 1) .nil)) (.int 13)) (.cons .non (.cons (.str "12") (.cons (.int 5) (.cons .dct0 (.cons (.bin .add (.bin .add (.slHi (.slot 1) (.slot 2)) (.tup (.cons (.slot 3) .nil))) (.slLo (.slot 1) (.bin .add (.slot 2) (.int 1)))) (.cons (.bin .add (.bin .add (.slHi (.slot 1) (.slot 2)) (.tup (.cons (.slot 3) .nil))) (.slLo (.slot 1) (.bin .add (.slot 2) (.int 1)))) .nil)))))))))) (.call 27 (.cons (.slot 0) (.cons (.int 9) .nil))))) .nil)))
def b__law_no_fraction : PSts := (.cons (.ret (.ix (.lst (.cons .non (.cons (.int 5) (.cons (.bl true) (.cons (.str "1") (.cons (.tup (.cons (.int 2) (.cons (.int 4) .nil))) (.cons (.tup (.cons (.int 1) (.cons (.int 0) .nil))) (.cons (.tup (.cons (.int 1) (.cons (.neg (.int 2)) .nil))) (.cons (.tup (.cons (.int 0) (.cons (.int 2) .nil))) (.cons (.lst (.cons (.int 1) (.cons (.int 2) .nil))) (.cons (.tup (.cons (.int 1) (.cons (.bl true) .nil))) (.cons (.tup (.cons (.int 1) .nil)) (.cons (.tup (.cons (.tup (.cons (.int 1) (.cons (.int 1) .nil))) (.cons (.int 1) .nil))) .nil))))))))))))) (.call 27 (.cons (.slot 0) (.cons (.int 12) .nil))))) .nil)
def b__law_no_rate : PSts := (.cons (.ret (.ix (.lst (.cons (.tup (.cons (.neg (.int 1)) (.cons (.int 1) .nil))) (.cons (.tup (.cons (.neg (.int 3)) (.cons (.int 2) .nil))) (.cons (.call 42 (.cons (.slot 0) .nil)) (.cons (.call 42 (.cons (.slot 0) .nil)) .nil))))) (.call 27 (.cons (.slot 0) (.cons (.int 4) .nil))))) .nil)
def b__law_weighted : PSts := (.cons (.asg (.name 3) (.call 40 (.cons (.comp (.bin .mul (.slot 4) (.slot 5)) (.tup [4, 5]) (.zip (.slot 0) (.slot 2))) (.cons (.slot 1) .nil)))) (.cons (.ret (.call 34 (.cons (.slot 3) (.cons (.call 40 (.cons (.slot 0) (.cons (.slot 1) .nil))) .nil)))) .nil))
def b__law_plain_flow : PSts := (.cons (.asg (.name 1) (.ite (.val (.cmp .eq (.call 27 (.cons (.slot 0) (.cons (.int 8) .nil))) (.int 0))) (.int 12) (.bin .add (.int 1) (.call 27 (.cons (.slot 0) (.cons (.int 8) .nil)))))) (.cons (.own 2 (.comp (.bin .mul (.call 27 (.cons (.slot 0) (.cons (.ix (.lst (.cons (.int 4) (.cons (.int 90) (.cons (.int 900000) .nil)))) (.call 27 (.cons (.slot 0) (.cons (.int 3) .nil)))) .nil))) (.blt .int (.cons (.cmp .gt (.call 27 (.cons (.slot 0) (.cons (.int 4) .nil))) (.int 0)) .nil))) (.name 3) (.range1 (.slot 1)))) (.cons (.iff (.val (.cmp .eq (.blt .max2 (.cons (.slot 2) .nil)) (.int 0))) (.cons (.set 2 (.call 27 (.cons (.slot 0) (.cons (.slot 1) .nil))) (.bin .add (.int 1) (.call 27 (.cons (.slot 0) (.cons (.int 9) .nil))))) .nil) .nil) (.cons (.ret (.blt .tuple (.cons (.slot 2) .nil))) .nil))))
def b__law_back : PSts := (.cons (.par [(4, false), (5, false)] (.cons (.slot 0) (.cons (.call 31 (.cons (.tup (.cons (.int 1) (.cons (.int 1) .nil))) (.cons (.slot 1) .nil))) .nil))) (.cons (.for (.name 3) (.range1 (.slot 2)) (.cons (.asg (.name 4) (.call 34 (.cons (.slot 4) (.cons (.slot 5) .nil)))) .nil)) (.cons (.ret (.slot 4)) .nil)))
def b__law_asked : PSts := (.cons (.tryy 4 (.cons (.iff (.val (.cmp .eq (.slot 0) (.int 0))) (.cons (.ret (.ite (.val (.slot 4)) (.callK 22 (.cons (.slot 2) (.cons (.slot 1) .nil)) ["rate", "flow"] [1, 0]) (.call 22 (.cons (.slot 1) (.cons (.slot 2) .nil))))) .nil) .nil) (.cons (.iff (.val (.cmp .eq (.slot 0) (.int 1))) (.cons (.ret (.ite (.val (.slot 4)) (.callK 23 (.cons (.slot 2) (.cons (.slot 1) .nil)) ["rate", "flow"] [1, 0]) (.call 23 (.cons (.slot 1) (.cons (.slot 2) .nil))))) .nil) .nil) (.cons (.iff (.val (.cmp .eq (.slot 0) (.int 2))) (.cons (.ret (.ite (.val (.slot 4)) (.callK 25 (.cons (.slot 3) (.cons (.slot 2) (.cons (.slot 1) .nil))) ["times", "rate", "flow"] [2, 1, 0]) (.call 25 (.cons (.slot 1) (.cons (.slot 2) (.cons (.slot 3) .nil)))))) .nil) .nil) (.cons (.ret (.ite (.val (.slot 4)) (.callK 26 (.cons (.slot 3) (.cons (.slot 2) (.cons (.slot 1) .nil))) ["rates", "other", "flow"] [2, 1, 0]) (.call 26 (.cons (.slot 1) (.cons (.slot 2) (.cons (.slot 3) .nil)))))) .nil)))) [(some 0, some 5, (.lst [(.str "flow"), (.fld 0)])), (some 1, some 5, (.lst [(.str "rate"), (.fld 0)])), (some 3, some 5, (.lst [(.str "times"), (.fld 0)])), (some 2, some 5, (.lst [(.str "rates"), (.fld 0)]))]) .nil)
def b__law_is_fraction : PSts := (.cons (.iff (.bop false (.cons (.not (.val (.isi (.slot 0) .tuple))) (.cons (.val (.cmp .ne (.blt .len (.cons (.slot 0) .nil)) (.int 2))) (.cons (.val (.cmp .ne (.compIf (.slot 1) (.name 1) (.seq (.slot 0)) (.bop false (.cons (.not (.val (.isi (.slot 1) .int))) (.cons (.val (.isi (.slot 1) .bool)) .nil)))) (.lst .nil))) .nil)))) (.cons (.ret (.bl false)) .nil) .nil) (.cons (.ret (.bop true (.cons (.cmp .gt (.ix (.slot 0) (.int 1)) (.int 0)) (.cons (.cmp .eq (.call 29 (.cons (.ix (.slot 0) (.int 0)) (.cons (.ix (.slot 0) (.int 1)) .nil))) (.int 1)) .nil)))) .nil))
def b__law_immunized_right : PSts := (.cons (.asg (.name 5) (.ite (.val (.cmp .eq (.call 27 (.cons (.slot 0) (.cons (.int 2) .nil))) (.int 0))) (.tup (.cons (.call 27 (.cons (.slot 0) (.cons (.int 41) .nil))) (.cons (.call 27 (.cons (.slot 0) (.cons (.int 41) .nil))) .nil))) (.tup (.cons (.call 27 (.cons (.slot 0) (.cons (.int 6) .nil))) (.cons (.bin .add (.int 4) (.call 27 (.cons (.slot 0) (.cons (.int 9) .nil)))) .nil))))) (.cons (.iff (.val (.cmp .eq (.ix (.slot 5) (.int 0)) (.ix (.slot 5) (.int 1)))) (.cons (.asg (.name 5) (.tup (.cons (.ix (.slot 5) (.int 0)) (.cons (.bin .mod (.bin .add (.ix (.slot 5) (.int 0)) (.int 1)) (.int 41)) .nil)))) .nil) .nil) (.cons (.asg (.name 6) (.call 47 (.cons (.int 2) (.cons (.slot 1) (.cons (.slot 2) (.cons (.slot 5) (.cons (.slot 4) .nil))))))) (.cons (.iff (.bop false (.cons (.not (.val (.isi (.slot 6) .tuple))) (.cons (.val (.cmp .ne (.blt .len (.cons (.slot 6) .nil)) (.int 2))) (.cons (.not (.val (.call 48 (.cons (.ix (.slot 6) (.int 0)) .nil)))) (.cons (.not (.val (.call 48 (.cons (.ix (.slot 6) (.int 1)) .nil)))) .nil))))) (.cons (.ret (.bl false)) .nil) .nil) (.cons (.iff (.not (.val (.call 28 (.cons (.call 47 (.cons (.int 2) (.cons (.slot 1) (.cons (.slot 2) (.cons (.slot 5) (.cons (.not (.slot 4)) .nil)))))) (.cons (.slot 6) .nil))))) (.cons (.ret (.bl false)) .nil) .nil) (.cons (.asg (.name 7) (.comp (.call 46 (.cons (.ix (.slot 6) (.slot 10)) (.cons (.slot 2) (.cons (.ix (.slot 5) (.slot 10)) .nil)))) (.name 10) (.range1 (.int 2)))) (.cons (.asg (.name 8) (.call 40 (.cons (.slot 1) (.cons (.slot 2) .nil)))) (.cons (.iff (.val (.cmp .ne (.call 31 (.cons (.ix (.slot 7) (.int 0)) (.cons (.ix (.slot 7) (.int 1)) .nil))) (.slot 8))) (.cons (.ret (.bl false)) .nil) .nil) (.cons (.iff (.val (.cmp .ne (.call 31 (.cons (.call 33 (.cons (.ix (.slot 7) (.int 0)) (.cons (.tup (.cons (.ix (.slot 5) (.int 0)) (.cons (.int 1) .nil))) .nil))) (.cons (.call 33 (.cons (.ix (.slot 7) (.int 1)) (.cons (.tup (.cons (.ix (.slot 5) (.int 1)) (.cons (.int 1) .nil))) .nil))) .nil))) (.call 33 (.cons (.slot 8) (.cons (.slot 3) .nil))))) (.cons (.ret (.bl false)) .nil) .nil) (.cons (.asg (.name 9) (.bop true (.cons (.not (.call 36 (.cons (.slot 3) (.cons (.tup (.cons (.blt .min2 (.cons (.slot 5) .nil)) (.cons (.int 1) .nil))) .nil)))) (.cons (.not (.call 36 (.cons (.tup (.cons (.blt .max2 (.cons (.slot 5) .nil)) (.cons (.int 1) .nil))) (.cons (.slot 3) .nil)))) .nil)))) (.cons (.ret (.cmp .eq (.bop true (.cons (.cmp .ge (.ix (.ix (.slot 6) (.int 0)) (.int 0)) (.int 0)) (.cons (.cmp .ge (.ix (.ix (.slot 6) (.int 1)) (.int 0)) (.int 0)) .nil))) (.slot 9))) .nil)))))))))))
def b__law_right : PSts := (.cons (.asg (.tup [7, 8, 9]) (.tup (.cons (.call 45 (.cons (.slot 0) .nil)) (.cons (.call 39 (.cons (.slot 0) .nil)) (.cons (.cmp .eq (.call 27 (.cons (.slot 0) (.cons (.int 2) .nil))) (.int 0)) .nil))))) (.cons (.par [(10, false), (11, false)] (.cons (.blt .len (.cons (.slot 7) .nil)) (.cons (.call 31 (.cons (.tup (.cons (.int 1) (.cons (.int 1) .nil))) (.cons (.slot 8) .nil))) .nil))) (.cons (.asg (.name 1) (.call 44 (.cons (.slot 7) (.cons (.slot 8) (.cons (.rngL (.slot 10)) .nil))))) (.cons (.asg (.name 2) (.call 34 (.cons (.call 44 (.cons (.slot 7) (.cons (.slot 8) (.cons (.comp (.bin .mul (.slot 14) (.bin .add (.slot 14) (.int 1))) (.name 14) (.range1 (.slot 10))) .nil)))) (.cons (.call 33 (.cons (.slot 11) (.cons (.slot 11) .nil))) .nil)))) (.cons (.asg (.name 3) (.lst (.cons (.call 47 (.cons (.int 0) (.cons (.slot 7) (.cons (.slot 8) (.cons .non (.cons (.slot 9) .nil)))))) (.cons (.call 47 (.cons (.int 0) (.cons (.slot 7) (.cons (.slot 8) (.cons .non (.cons (.not (.slot 9)) .nil)))))) (.cons (.call 47 (.cons (.int 1) (.cons (.slot 7) (.cons (.slot 8) (.cons .non (.cons (.slot 9) .nil)))))) (.cons (.call 47 (.cons (.int 1) (.cons (.slot 7) (.cons (.slot 8) (.cons .non (.cons (.not (.slot 9)) .nil)))))) .nil)))))) (.cons (.iff (.not (.val (.call 28 (.cons (.slot 3) (.cons (.lst (.cons (.slot 1) (.cons (.slot 1) (.cons (.slot 2) (.cons (.slot 2) .nil))))) .nil))))) (.cons (.ret (.bl false)) .nil) .nil) (.cons (.iff (.bop false (.cons (.not (.val (.call 49 (.cons (.slot 0) (.cons (.slot 7) (.cons (.slot 8) (.cons (.slot 1) (.cons (.slot 9) .nil)))))))) (.cons (.not (.val (.call 49 (.cons (.slot 0) (.cons (.slot 7) (.cons (.slot 8) (.cons (.slot 1) (.cons (.not (.slot 9)) .nil)))))))) .nil))) (.cons (.ret (.bl false)) .nil) .nil) (.cons (.asg (.name 4) (.ite (.val (.cmp .gt (.call 27 (.cons (.slot 0) (.cons (.int 3) .nil))) (.int 0))) (.call 38 (.cons (.slot 0) (.cons (.int 8) (.cons (.ix (.lst (.cons (.int 4) (.cons (.int 90) .nil))) (.call 27 (.cons (.slot 0) (.cons (.int 2) .nil)))) .nil)))) (.slot 7))) (.cons (.iff (.val (.cmp .eq (.call 27 (.cons (.slot 0) (.cons (.int 3) .nil))) (.int 0))) (.cons (.asg (.name 4) (.bin .add (.slHi (.slot 7) (.neg (.int 1))) (.tup (.cons (.bin .sub (.ix (.slot 7) (.neg (.int 1))) (.int 1)) .nil)))) .nil) .nil) (.cons (.asg (.name 5) (.blt .tuple (.cons (.comp (.call 39 (.cons (.slot 0) .nil)) (.name 12) (.range1 (.bin .add (.int 1) (.call 27 (.cons (.slot 0) (.cons (.int 4) .nil)))))) .nil))) (.cons (.asg (.name 6) (.cmp .eq (.compIf (.slot 13) (.name 13) (.seq (.slot 5)) (.val (.call 36 (.cons (.call 40 (.cons (.slot 7) (.cons (.slot 13) .nil))) (.cons (.call 40 (.cons (.slot 4) (.cons (.slot 13) .nil))) .nil))))) (.lst .nil))) (.cons (.iff (.not (.val (.call 28 (.cons (.lst (.cons (.call 47 (.cons (.int 3) (.cons (.slot 7) (.cons (.slot 4) (.cons (.slot 5) (.cons (.slot 9) .nil)))))) (.cons (.call 47 (.cons (.int 3) (.cons (.slot 7) (.cons (.slot 4) (.cons (.slot 5) (.cons (.not (.slot 9)) .nil)))))) .nil))) (.cons (.lst (.cons (.slot 6) (.cons (.slot 6) .nil))) .nil))))) (.cons (.ret (.bl false)) .nil) .nil) (.cons (.iff (.not (.val (.call 28 (.cons (.call 19 (.cons (.slot 7) (.cons (.slot 8) .nil))) (.cons (.call 40 (.cons (.slot 7) (.cons (.slot 8) .nil))) .nil))))) (.cons (.ret (.bl false)) .nil) .nil) (.cons (.ret (.call 51 (.cons (.slot 0) (.cons (.slot 7) (.cons (.slot 8) (.cons (.slot 4) (.cons (.slot 9) .nil))))))) .nil))))))))))))))
def b__law_refusals_right : PSts := (.cons (.par [(11, false), (12, false)] (.cons (.call 41 (.cons (.slot 0) (.cons (.slot 1) .nil))) (.cons (.call 43 (.cons (.slot 0) .nil)) .nil))) (.cons (.asg (.name 5) (.ix (.lst (.cons (.lst (.cons (.int 0) (.cons (.int 1) .nil))) (.cons (.tup (.cons (.int 0) (.cons (.int 0) .nil))) (.cons (.tup (.cons (.int 0) (.cons (.int 41) .nil))) (.cons (.tup (.cons (.neg (.int 1)) (.cons (.int 3) .nil))) (.cons (.tup (.cons (.int 1) .nil)) (.cons (.tup (.cons (.int 1) (.cons (.int 2) (.cons (.int 3) .nil)))) (.cons .non (.cons (.str "01") (.cons (.tup (.cons (.bl true) (.cons (.int 2) .nil))) (.cons (.tup (.cons (.int 1) (.cons .non .nil))) .nil))))))))))) (.call 27 (.cons (.slot 0) (.cons (.int 10) .nil))))) (.cons (.asg (.name 6) (.ix (.lst (.cons (.lst .nil) (.cons (.tup .nil) (.cons (.lst (.cons (.tup (.cons (.int 0) (.cons (.int 1) .nil))) .nil)) (.cons (.tup (.cons (.tup (.cons (.neg (.int 1)) (.cons (.int 1) .nil))) .nil)) (.cons (.bin .mul (.tup (.cons (.tup (.cons (.int 0) (.cons (.int 1) .nil))) .nil)) (.int 21)) (.cons .non (.cons (.str "r") (.cons (.tup (.cons (.tup (.cons (.int 0) (.cons (.int 1) .nil))) (.cons (.int 5) .nil))) (.cons (.tup (.cons (.tup (.cons (.int 2) (.cons (.int 4) .nil))) .nil)) (.cons (.tup (.cons (.int 0) (.cons (.int 1) .nil))) .nil))))))))))) (.call 27 (.cons (.slot 0) (.cons (.int 10) .nil))))) (.cons (.asg (.name 7) (.ix (.lst (.cons (.bin .mul (.tup (.cons (.int 0) .nil)) (.blt .len (.cons (.slot 1) .nil))) (.cons (.bin .add (.slHi (.slot 1) (.neg (.int 1))) (.tup (.cons (.neg (.int 1)) .nil))) (.cons (.tup (.cons (.neg (.int 1)) .nil)) .nil)))) (.call 27 (.cons (.slot 0) (.cons (.int 3) .nil))))) (.cons (.asg (.name 8) (.call 41 (.cons (.slot 0) (.cons (.slot 3) .nil)))) (.cons (.asg (.name 9) (.lst .nil)) (.cons (.for (.name 10) (.range1 (.int 3)) (.cons (.asg (.name 9) (.bin .add (.slot 9) (.lst (.cons (.call 47 (.cons (.slot 10) (.cons (.slot 11) (.cons (.slot 12) (.cons (.slot 5) (.cons (.slot 4) .nil)))))) (.cons (.call 47 (.cons (.slot 10) (.cons (.slot 7) (.cons (.slot 12) (.cons (.slot 5) (.cons (.not (.slot 4)) .nil)))))) (.cons (.call 47 (.cons (.slot 10) (.cons (.slot 1) (.cons (.slot 12) (.cons (.slot 5) (.cons (.slot 4) .nil)))))) .nil)))))) .nil)) (.cons (.iff (.not (.val (.call 28 (.cons (.slot 9) (.cons (.bin .mul (.lst (.cons (.lst (.cons (.str "flow") (.cons (.slot 11) .nil))) (.cons (.lst (.cons (.str "flow") (.cons (.slot 7) .nil))) (.cons (.lst (.cons (.str "rate") (.cons (.slot 12) .nil))) .nil)))) (.int 3)) .nil))))) (.cons (.ret (.bl false)) .nil) .nil) (.cons (.asg (.name 9) (.lst (.cons (.call 47 (.cons (.int 2) (.cons (.slot 1) (.cons (.slot 2) (.cons (.slot 5) (.cons (.slot 4) .nil)))))) (.cons (.call 47 (.cons (.int 3) (.cons (.slot 11) (.cons (.slot 8) (.cons (.slot 6) (.cons (.slot 4) .nil)))))) (.cons (.call 47 (.cons (.int 3) (.cons (.slot 1) (.cons (.slot 8) (.cons (.slot 6) (.cons (.not (.slot 4)) .nil)))))) (.cons (.call 47 (.cons (.int 3) (.cons (.slot 7) (.cons (.slot 3) (.cons (.slot 6) (.cons (.slot 4) .nil)))))) .nil)))))) (.cons (.ret (.call 28 (.cons (.slot 9) (.cons (.lst (.cons (.lst (.cons (.str "times") (.cons (.slot 5) .nil))) (.cons (.lst (.cons (.str "flow") (.cons (.slot 11) .nil))) (.cons (.lst (.cons (.str "flow") (.cons (.slot 8) .nil))) (.cons (.lst (.cons (.str "rates") (.cons (.slot 6) .nil))) .nil))))) .nil)))) .nil))))))))))
def b_law : PSts := (.cons (.iff (.bop false (.cons (.not (.val (.call 50 (.cons (.slot 2) .nil)))) (.cons (.not (.val (.call 50 (.cons (.slot 2) .nil)))) .nil))) (.cons (.ret (.bl false)) .nil) .nil) .nil)
def defs : List Df := ([⟨1, 1, b_is_integer⟩, ⟨3, 3, b_is_between⟩, ⟨2, 2, b_is_tuple_of⟩, ⟨4, 5, b_is_row⟩, ⟨1, 2, b_is_fraction⟩, ⟨2, 3, b_lowest⟩, ⟨1, 1, b_whole⟩, ⟨2, 2, b_add⟩, ⟨2, 2, b_subtract⟩, ⟨2, 2, b_multiply⟩, ⟨2, 2, b_divide⟩, ⟨2, 4, b_compare⟩, ⟨2, 2, b_is_less⟩, ⟨1, 1, b_is_flow⟩, ⟨1, 1, b_check_flow⟩, ⟨1, 1, b_is_rate⟩, ⟨1, 1, b_check_rate⟩, ⟨1, 1, b_factor_of⟩, ⟨2, 5, b_worth_now⟩, ⟨2, 2, b_present⟩, ⟨1, 1, b_check_plain⟩, ⟨3, 6, b_average⟩, ⟨2, 2, b_duration⟩, ⟨2, 5, b_convexity⟩, ⟨3, 5, b_later⟩, ⟨3, 9, b_immunized⟩, ⟨3, 4, b_is_covered⟩, ⟨2, 4, b__law_take⟩, ⟨2, 4, b__law_same⟩, ⟨2, 2, b__law_gcd⟩] : List Df) ++ ([⟨2, 3, b__law_low⟩, ⟨2, 2, b__law_add⟩, ⟨2, 2, b__law_less⟩, ⟨2, 2, b__law_mul⟩, ⟨2, 2, b__law_div⟩, ⟨1, 3, b__law_sum⟩, ⟨2, 2, b__law_below⟩, ⟨2, 4, b__law_dot⟩, ⟨3, 8, b__law_flow⟩, ⟨1, 2, b__law_rate⟩, ⟨2, 6, b__law_present⟩, ⟨2, 4, b__law_no_flow⟩, ⟨1, 1, b__law_no_fraction⟩, ⟨1, 1, b__law_no_rate⟩, ⟨3, 6, b__law_weighted⟩, ⟨1, 4, b__law_plain_flow⟩, ⟨3, 6, b__law_back⟩, ⟨5, 6, b__law_asked⟩, ⟨1, 2, b__law_is_fraction⟩, ⟨5, 11, b__law_immunized_right⟩, ⟨1, 15, b__law_right⟩, ⟨5, 13, b__law_refusals_right⟩] : List Df)
def fns : List Str := ((["is_integer", "is_between", "is_tuple_of", "is_row", "is_fraction", "lowest", "whole", "add", "subtract", "multiply", "divide", "compare", "is_less", "is_flow", "check_flow", "is_rate", "check_rate", "factor_of", "worth_now", "present", "check_plain", "average", "duration", "convexity", "later", "immunized", "is_covered", "_law_take", "_law_same", "_law_gcd"] : List Str) ++ (["_law_low", "_law_add", "_law_less", "_law_mul", "_law_div", "_law_sum", "_law_below", "_law_dot", "_law_flow", "_law_rate", "_law_present", "_law_no_flow", "_law_no_fraction", "_law_no_rate", "_law_weighted", "_law_plain_flow", "_law_back", "_law_asked", "_law_is_fraction", "_law_immunized_right", "_law_right", "_law_refusals_right"] : List Str))
def pss : List (List Str) := ([["value"], ["value", "least", "most"], ["value", "many"], ["value", "many", "least", "most"], ["value"], ["numerator", "denominator"], ["number"], ["one", "other"], ["one", "other"], ["one", "other"], ["one", "other"], ["one", "other"], ["one", "other"], ["value"], ["flow"], ["value"], ["rate"], ["rate"], ["items", "rate"], ["flow", "rate"], ["flow"], ["flow", "rate", "factors"], ["flow", "rate"], ["flow", "rate"], ["amount", "rate", "time"], ["flow", "rate", "times"], ["flow", "other", "rates"], ["box", "many"], ["told", "due"], ["a", "b"]] : List (List Str)) ++ ([["top", "bottom"], ["one", "other"], ["one", "other"], ["one", "other"], ["one", "other"], ["items"], ["one", "other"], ["one", "other"], ["box", "most", "wide"], ["box"], ["flow", "rate"], ["box", "flow"], ["box"], ["box"], ["flow", "rate", "factors"], ["box"], ["amount", "rate", "time"], ["turn", "flow", "rate", "given", "named"], ["value"], ["box", "flow", "rate", "middle", "named"], ["box"], ["box", "flow", "rate", "other", "named"]] : List (List Str))
def kwl : List (Nat × List Str × List Nat) := [(26, ["rates", "other", "flow"], [2, 1, 0]), (25, ["times", "rate", "flow"], [2, 1, 0]), (23, ["rate", "flow"], [1, 0]), (22, ["rate", "flow"], [1, 0])]
def flds : List (List Str) := [["given"], ["given"], ["given"], ["given"]]
def G : Gd := ⟨fns, fun i => pss.getD i [], kwl, frees, ["ZERO", "ONE", "MOST_TIMES", "MOST_ITEM", "MOST_TIME", "MOST_RATES"], ["gcd"], exnames, fun i => flds.getD i [], ["MarketError"]⟩
def con : Nat → D := fun i => ([.tup (([0, 1] : List Int).map D.int), .tup (([1, 1] : List Int).map D.int), .int (12), .int (1000000), .int (40), .int (20)] : List D).getD i .non
theorem m_is_integer : mSs G ["value"] (defScope (top 8)) b_is_integer (defBody (top 8)) = true := by kernel_rfl
theorem m_is_between : mSs G ["value", "least", "most"] (defScope (top 9)) b_is_between (defBody (top 9)) = true := by kernel_rfl
theorem m_is_tuple_of : mSs G ["value", "many"] (defScope (top 10)) b_is_tuple_of (defBody (top 10)) = true := by kernel_rfl
theorem m_is_row : mSs G ["value", "many", "least", "most", "item"] (defScope (top 11)) b_is_row (defBody (top 11)) = true := by kernel_rfl
theorem m_is_fraction : mSs G ["value", "item"] (defScope (top 15)) b_is_fraction (defBody (top 15)) = true := by kernel_rfl
theorem m_lowest : mSs G ["numerator", "denominator", "common"] (defScope (top 16)) b_lowest (defBody (top 16)) = true := by kernel_rfl
theorem m_whole : mSs G ["number"] (defScope (top 17)) b_whole (defBody (top 17)) = true := by kernel_rfl
theorem m_add : mSs G ["one", "other"] (defScope (top 18)) b_add (defBody (top 18)) = true := by kernel_rfl
theorem m_subtract : mSs G ["one", "other"] (defScope (top 19)) b_subtract (defBody (top 19)) = true := by kernel_rfl
theorem m_multiply : mSs G ["one", "other"] (defScope (top 20)) b_multiply (defBody (top 20)) = true := by kernel_rfl
theorem m_divide : mSs G ["one", "other"] (defScope (top 21)) b_divide (defBody (top 21)) = true := by kernel_rfl
theorem m_compare : mSs G ["one", "other", "left", "right"] (defScope (top 22)) b_compare (defBody (top 22)) = true := by kernel_rfl
theorem m_is_less : mSs G ["one", "other"] (defScope (top 23)) b_is_less (defBody (top 23)) = true := by kernel_rfl
theorem m_is_flow : mSs G ["value"] (defScope (top 27)) b_is_flow (defBody (top 27)) = true := by kernel_rfl
theorem m_check_flow : mSs G ["flow"] (defScope (top 28)) b_check_flow (defBody (top 28)) = true := by kernel_rfl
theorem m_is_rate : mSs G ["value"] (defScope (top 29)) b_is_rate (defBody (top 29)) = true := by kernel_rfl
theorem m_check_rate : mSs G ["rate"] (defScope (top 30)) b_check_rate (defBody (top 30)) = true := by kernel_rfl
theorem m_factor_of : mSs G ["rate"] (defScope (top 31)) b_factor_of (defBody (top 31)) = true := by kernel_rfl
theorem m_worth_now : mSs G ["items", "rate", "item", "step", "found"] (defScope (top 32)) b_worth_now (defBody (top 32)) = true := by kernel_rfl
theorem m_present : mSs G ["flow", "rate"] (defScope (top 33)) b_present (defBody (top 33)) = true := by kernel_rfl
theorem m_check_plain : mSs G ["flow"] (defScope (top 37)) b_check_plain (defBody (top 37)) = true := by kernel_rfl
theorem m_average : mSs G ["flow", "rate", "factors", "top", "item", "factor"] (defScope (top 38)) b_average (defBody (top 38)) = true := by kernel_rfl
theorem m_duration : mSs G ["flow", "rate"] (defScope (top 39)) b_duration (defBody (top 39)) = true := by kernel_rfl
theorem m_convexity : mSs G ["flow", "rate", "factor", "found", "time"] (defScope (top 40)) b_convexity (defBody (top 40)) = true := by kernel_rfl
theorem m_later : mSs G ["amount", "rate", "time", "found", "_"] (defScope (top 41)) b_later (defBody (top 41)) = true := by kernel_rfl
theorem m_immunized : mSs G ["flow", "rate", "times", "share", "parts", "value", "middle", "part", "time"] (defScope (top 42)) b_immunized (defBody (top 42)) = true := by kernel_rfl
theorem m_is_covered : mSs G ["flow", "other", "rates", "rate"] (defScope (top 43)) b_is_covered (defBody (top 43)) = true := by kernel_rfl
theorem m__law_take : mSs G ["box", "many", "mixed", "digit"] (defScope (top 47)) b__law_take (defBody (top 47)) = true := by kernel_rfl
theorem m__law_same : mSs G ["told", "due", "k", "key"] (defScope (top 48)) b__law_same (defBody (top 48)) = true := by kernel_rfl
theorem m__law_gcd : mSs G ["a", "b"] (defScope (top 49)) b__law_gcd (defBody (top 49)) = true := by kernel_rfl
theorem m__law_low : mSs G ["top", "bottom", "by"] (defScope (top 50)) b__law_low (defBody (top 50)) = true := by kernel_rfl
theorem m__law_add : mSs G ["one", "other"] (defScope (top 51)) b__law_add (defBody (top 51)) = true := by kernel_rfl
theorem m__law_less : mSs G ["one", "other"] (defScope (top 52)) b__law_less (defBody (top 52)) = true := by kernel_rfl
theorem m__law_mul : mSs G ["one", "other"] (defScope (top 53)) b__law_mul (defBody (top 53)) = true := by kernel_rfl
theorem m__law_div : mSs G ["one", "other"] (defScope (top 54)) b__law_div (defBody (top 54)) = true := by kernel_rfl
theorem m__law_sum : mSs G ["items", "found", "item"] (defScope (top 55)) b__law_sum (defBody (top 55)) = true := by kernel_rfl
theorem m__law_below : mSs G ["one", "other"] (defScope (top 56)) b__law_below (defBody (top 56)) = true := by kernel_rfl
theorem m__law_dot : mSs G ["one", "other", "a", "b"] (defScope (top 57)) b__law_dot (defBody (top 57)) = true := by kernel_rfl
theorem m__law_flow : mSs G ["box", "most", "wide", "items", "many", "way", "k", "x"] (defScope (top 58)) b__law_flow (defBody (top 58)) = true := by kernel_rfl
theorem m__law_rate : mSs G ["box", "menu"] (defScope (top 59)) b__law_rate (defBody (top 59)) = true := by kernel_rfl
theorem m__law_present : mSs G ["flow", "rate", "item", "step", "power", "found"] (defScope (top 60)) b__law_present (defBody (top 60)) = true := by kernel_rfl
theorem m__law_no_flow : mSs G ["box", "flow", "at", "odd"] (defScope (top 61)) b__law_no_flow (defBody (top 61)) = true := by kernel_rfl
theorem m__law_no_fraction : mSs G ["box"] (defScope (top 62)) b__law_no_fraction (defBody (top 62)) = true := by kernel_rfl
theorem m__law_no_rate : mSs G ["box"] (defScope (top 63)) b__law_no_rate (defBody (top 63)) = true := by kernel_rfl
theorem m__law_weighted : mSs G ["flow", "rate", "factors", "top", "x", "f"] (defScope (top 64)) b__law_weighted (defBody (top 64)) = true := by kernel_rfl
theorem m__law_plain_flow : mSs G ["box", "many", "items", "k"] (defScope (top 65)) b__law_plain_flow (defBody (top 65)) = true := by kernel_rfl
theorem m__law_back : mSs G ["amount", "rate", "time", "k", "found", "factor"] (defScope (top 66)) b__law_back (defBody (top 66)) = true := by kernel_rfl
theorem m__law_asked : mSs G ["turn", "flow", "rate", "given", "named", "e"] (defScope (top 67)) b__law_asked (defBody (top 67)) = true := by kernel_rfl
theorem m__law_is_fraction : mSs G ["value", "x"] (defScope (top 68)) b__law_is_fraction (defBody (top 68)) = true := by kernel_rfl
theorem m__law_immunized_right : mSs G ["box", "flow", "rate", "middle", "named", "times", "told", "parts", "worth", "inside", "k"] (defScope (top 69)) b__law_immunized_right (defBody (top 69)) = true := by kernel_rfl
theorem m__law_right : mSs G ["box", "middle", "bend", "told", "other", "rates", "covers", "flow", "rate", "named", "many", "factor", "k", "one", "t"] (defScope (top 70)) b__law_right (defBody (top 70)) = true := by kernel_rfl
theorem m__law_refusals_right : mSs G ["box", "flow", "rate", "other", "named", "times", "rates", "unplain", "wrong", "told", "turn", "bad", "odd"] (defScope (top 71)) b__law_refusals_right (defBody (top 71)) = true := by kernel_rfl
def Nl : List Str := ["script", "k", "box"]
theorem m_law : mSs G Nl (defScope (top 72)) b_law (match defBody (top 72) with | .For _ _ (_ :: r) _ _ :: _ => r | _ => []) = true := by kernel_rfl
theorem sc_is_integer : FnScope ["value"] ["value"] (defScope (top 8)) := ⟨by kernel_rfl, by kernel_rfl, by kernel_rfl, by decide +kernel, rfl, by decide +kernel, by decide +kernel⟩
theorem sc_is_between : FnScope ["value", "least", "most"] ["value", "least", "most"] (defScope (top 9)) := ⟨by kernel_rfl, by kernel_rfl, by kernel_rfl, by decide +kernel, rfl, by decide +kernel, by decide +kernel⟩
theorem sc_is_tuple_of : FnScope ["value", "many"] ["value", "many"] (defScope (top 10)) := ⟨by kernel_rfl, by kernel_rfl, by kernel_rfl, by decide +kernel, rfl, by decide +kernel, by decide +kernel⟩
theorem sc_is_row : FnScope ["value", "many", "least", "most", "item"] ["value", "many", "least", "most"] (defScope (top 11)) := ⟨by kernel_rfl, by kernel_rfl, by kernel_rfl, by decide +kernel, rfl, by decide +kernel, by decide +kernel⟩
theorem sc_is_fraction : FnScope ["value", "item"] ["value"] (defScope (top 15)) := ⟨by kernel_rfl, by kernel_rfl, by kernel_rfl, by decide +kernel, rfl, by decide +kernel, by decide +kernel⟩
theorem sc_lowest : FnScope ["numerator", "denominator", "common"] ["numerator", "denominator"] (defScope (top 16)) := ⟨by kernel_rfl, by kernel_rfl, by kernel_rfl, by decide +kernel, rfl, by decide +kernel, by decide +kernel⟩
theorem sc_whole : FnScope ["number"] ["number"] (defScope (top 17)) := ⟨by kernel_rfl, by kernel_rfl, by kernel_rfl, by decide +kernel, rfl, by decide +kernel, by decide +kernel⟩
theorem sc_add : FnScope ["one", "other"] ["one", "other"] (defScope (top 18)) := ⟨by kernel_rfl, by kernel_rfl, by kernel_rfl, by decide +kernel, rfl, by decide +kernel, by decide +kernel⟩
theorem sc_subtract : FnScope ["one", "other"] ["one", "other"] (defScope (top 19)) := ⟨by kernel_rfl, by kernel_rfl, by kernel_rfl, by decide +kernel, rfl, by decide +kernel, by decide +kernel⟩
theorem sc_multiply : FnScope ["one", "other"] ["one", "other"] (defScope (top 20)) := ⟨by kernel_rfl, by kernel_rfl, by kernel_rfl, by decide +kernel, rfl, by decide +kernel, by decide +kernel⟩
theorem sc_divide : FnScope ["one", "other"] ["one", "other"] (defScope (top 21)) := ⟨by kernel_rfl, by kernel_rfl, by kernel_rfl, by decide +kernel, rfl, by decide +kernel, by decide +kernel⟩
theorem sc_compare : FnScope ["one", "other", "left", "right"] ["one", "other"] (defScope (top 22)) := ⟨by kernel_rfl, by kernel_rfl, by kernel_rfl, by decide +kernel, rfl, by decide +kernel, by decide +kernel⟩
theorem sc_is_less : FnScope ["one", "other"] ["one", "other"] (defScope (top 23)) := ⟨by kernel_rfl, by kernel_rfl, by kernel_rfl, by decide +kernel, rfl, by decide +kernel, by decide +kernel⟩
theorem sc_is_flow : FnScope ["value"] ["value"] (defScope (top 27)) := ⟨by kernel_rfl, by kernel_rfl, by kernel_rfl, by decide +kernel, rfl, by decide +kernel, by decide +kernel⟩
theorem sc_check_flow : FnScope ["flow"] ["flow"] (defScope (top 28)) := ⟨by kernel_rfl, by kernel_rfl, by kernel_rfl, by decide +kernel, rfl, by decide +kernel, by decide +kernel⟩
theorem sc_is_rate : FnScope ["value"] ["value"] (defScope (top 29)) := ⟨by kernel_rfl, by kernel_rfl, by kernel_rfl, by decide +kernel, rfl, by decide +kernel, by decide +kernel⟩
theorem sc_check_rate : FnScope ["rate"] ["rate"] (defScope (top 30)) := ⟨by kernel_rfl, by kernel_rfl, by kernel_rfl, by decide +kernel, rfl, by decide +kernel, by decide +kernel⟩
theorem sc_factor_of : FnScope ["rate"] ["rate"] (defScope (top 31)) := ⟨by kernel_rfl, by kernel_rfl, by kernel_rfl, by decide +kernel, rfl, by decide +kernel, by decide +kernel⟩
theorem sc_worth_now : FnScope ["items", "rate", "item", "step", "found"] ["items", "rate"] (defScope (top 32)) := ⟨by kernel_rfl, by kernel_rfl, by kernel_rfl, by decide +kernel, rfl, by decide +kernel, by decide +kernel⟩
theorem sc_present : FnScope ["flow", "rate"] ["flow", "rate"] (defScope (top 33)) := ⟨by kernel_rfl, by kernel_rfl, by kernel_rfl, by decide +kernel, rfl, by decide +kernel, by decide +kernel⟩
theorem sc_check_plain : FnScope ["flow"] ["flow"] (defScope (top 37)) := ⟨by kernel_rfl, by kernel_rfl, by kernel_rfl, by decide +kernel, rfl, by decide +kernel, by decide +kernel⟩
theorem sc_average : FnScope ["flow", "rate", "factors", "top", "item", "factor"] ["flow", "rate", "factors"] (defScope (top 38)) := ⟨by kernel_rfl, by kernel_rfl, by kernel_rfl, by decide +kernel, rfl, by decide +kernel, by decide +kernel⟩
theorem sc_duration : FnScope ["flow", "rate"] ["flow", "rate"] (defScope (top 39)) := ⟨by kernel_rfl, by kernel_rfl, by kernel_rfl, by decide +kernel, rfl, by decide +kernel, by decide +kernel⟩
theorem sc_convexity : FnScope ["flow", "rate", "factor", "found", "time"] ["flow", "rate"] (defScope (top 40)) := ⟨by kernel_rfl, by kernel_rfl, by kernel_rfl, by decide +kernel, rfl, by decide +kernel, by decide +kernel⟩
theorem sc_later : FnScope ["amount", "rate", "time", "found", "_"] ["amount", "rate", "time"] (defScope (top 41)) := ⟨by kernel_rfl, by kernel_rfl, by kernel_rfl, by decide +kernel, rfl, by decide +kernel, by decide +kernel⟩
theorem sc_immunized : FnScope ["flow", "rate", "times", "share", "parts", "value", "middle", "part", "time"] ["flow", "rate", "times"] (defScope (top 42)) := ⟨by kernel_rfl, by kernel_rfl, by kernel_rfl, by decide +kernel, rfl, by decide +kernel, by decide +kernel⟩
theorem sc_is_covered : FnScope ["flow", "other", "rates", "rate"] ["flow", "other", "rates"] (defScope (top 43)) := ⟨by kernel_rfl, by kernel_rfl, by kernel_rfl, by decide +kernel, rfl, by decide +kernel, by decide +kernel⟩
theorem sc__law_take : FnScope ["box", "many", "mixed", "digit"] ["box", "many"] (defScope (top 47)) := ⟨by kernel_rfl, by kernel_rfl, by kernel_rfl, by decide +kernel, rfl, by decide +kernel, by decide +kernel⟩
theorem sc__law_same : FnScope ["told", "due", "k", "key"] ["told", "due"] (defScope (top 48)) := ⟨by kernel_rfl, by kernel_rfl, by kernel_rfl, by decide +kernel, rfl, by decide +kernel, by decide +kernel⟩
theorem sc__law_gcd : FnScope ["a", "b"] ["a", "b"] (defScope (top 49)) := ⟨by kernel_rfl, by kernel_rfl, by kernel_rfl, by decide +kernel, rfl, by decide +kernel, by decide +kernel⟩
theorem sc__law_low : FnScope ["top", "bottom", "by"] ["top", "bottom"] (defScope (top 50)) := ⟨by kernel_rfl, by kernel_rfl, by kernel_rfl, by decide +kernel, rfl, by decide +kernel, by decide +kernel⟩
theorem sc__law_add : FnScope ["one", "other"] ["one", "other"] (defScope (top 51)) := ⟨by kernel_rfl, by kernel_rfl, by kernel_rfl, by decide +kernel, rfl, by decide +kernel, by decide +kernel⟩
theorem sc__law_less : FnScope ["one", "other"] ["one", "other"] (defScope (top 52)) := ⟨by kernel_rfl, by kernel_rfl, by kernel_rfl, by decide +kernel, rfl, by decide +kernel, by decide +kernel⟩
theorem sc__law_mul : FnScope ["one", "other"] ["one", "other"] (defScope (top 53)) := ⟨by kernel_rfl, by kernel_rfl, by kernel_rfl, by decide +kernel, rfl, by decide +kernel, by decide +kernel⟩
theorem sc__law_div : FnScope ["one", "other"] ["one", "other"] (defScope (top 54)) := ⟨by kernel_rfl, by kernel_rfl, by kernel_rfl, by decide +kernel, rfl, by decide +kernel, by decide +kernel⟩
theorem sc__law_sum : FnScope ["items", "found", "item"] ["items"] (defScope (top 55)) := ⟨by kernel_rfl, by kernel_rfl, by kernel_rfl, by decide +kernel, rfl, by decide +kernel, by decide +kernel⟩
theorem sc__law_below : FnScope ["one", "other"] ["one", "other"] (defScope (top 56)) := ⟨by kernel_rfl, by kernel_rfl, by kernel_rfl, by decide +kernel, rfl, by decide +kernel, by decide +kernel⟩
theorem sc__law_dot : FnScope ["one", "other", "a", "b"] ["one", "other"] (defScope (top 57)) := ⟨by kernel_rfl, by kernel_rfl, by kernel_rfl, by decide +kernel, rfl, by decide +kernel, by decide +kernel⟩
theorem sc__law_flow : FnScope ["box", "most", "wide", "items", "many", "way", "k", "x"] ["box", "most", "wide"] (defScope (top 58)) := ⟨by kernel_rfl, by kernel_rfl, by kernel_rfl, by decide +kernel, rfl, by decide +kernel, by decide +kernel⟩
theorem sc__law_rate : FnScope ["box", "menu"] ["box"] (defScope (top 59)) := ⟨by kernel_rfl, by kernel_rfl, by kernel_rfl, by decide +kernel, rfl, by decide +kernel, by decide +kernel⟩
theorem sc__law_present : FnScope ["flow", "rate", "item", "step", "power", "found"] ["flow", "rate"] (defScope (top 60)) := ⟨by kernel_rfl, by kernel_rfl, by kernel_rfl, by decide +kernel, rfl, by decide +kernel, by decide +kernel⟩
theorem sc__law_no_flow : FnScope ["box", "flow", "at", "odd"] ["box", "flow"] (defScope (top 61)) := ⟨by kernel_rfl, by kernel_rfl, by kernel_rfl, by decide +kernel, rfl, by decide +kernel, by decide +kernel⟩
theorem sc__law_no_fraction : FnScope ["box"] ["box"] (defScope (top 62)) := ⟨by kernel_rfl, by kernel_rfl, by kernel_rfl, by decide +kernel, rfl, by decide +kernel, by decide +kernel⟩
theorem sc__law_no_rate : FnScope ["box"] ["box"] (defScope (top 63)) := ⟨by kernel_rfl, by kernel_rfl, by kernel_rfl, by decide +kernel, rfl, by decide +kernel, by decide +kernel⟩
theorem sc__law_weighted : FnScope ["flow", "rate", "factors", "top", "x", "f"] ["flow", "rate", "factors"] (defScope (top 64)) := ⟨by kernel_rfl, by kernel_rfl, by kernel_rfl, by decide +kernel, rfl, by decide +kernel, by decide +kernel⟩
theorem sc__law_plain_flow : FnScope ["box", "many", "items", "k"] ["box"] (defScope (top 65)) := ⟨by kernel_rfl, by kernel_rfl, by kernel_rfl, by decide +kernel, rfl, by decide +kernel, by decide +kernel⟩
theorem sc__law_back : FnScope ["amount", "rate", "time", "k", "found", "factor"] ["amount", "rate", "time"] (defScope (top 66)) := ⟨by kernel_rfl, by kernel_rfl, by kernel_rfl, by decide +kernel, rfl, by decide +kernel, by decide +kernel⟩
theorem sc__law_asked : FnScope ["turn", "flow", "rate", "given", "named", "e"] ["turn", "flow", "rate", "given", "named"] (defScope (top 67)) := ⟨by kernel_rfl, by kernel_rfl, by kernel_rfl, by decide +kernel, rfl, by decide +kernel, by decide +kernel⟩
theorem sc__law_is_fraction : FnScope ["value", "x"] ["value"] (defScope (top 68)) := ⟨by kernel_rfl, by kernel_rfl, by kernel_rfl, by decide +kernel, rfl, by decide +kernel, by decide +kernel⟩
theorem sc__law_immunized_right : FnScope ["box", "flow", "rate", "middle", "named", "times", "told", "parts", "worth", "inside", "k"] ["box", "flow", "rate", "middle", "named"] (defScope (top 69)) := ⟨by kernel_rfl, by kernel_rfl, by kernel_rfl, by decide +kernel, rfl, by decide +kernel, by decide +kernel⟩
theorem sc__law_right : FnScope ["box", "middle", "bend", "told", "other", "rates", "covers", "flow", "rate", "named", "many", "factor", "k", "one", "t"] ["box"] (defScope (top 70)) := ⟨by kernel_rfl, by kernel_rfl, by kernel_rfl, by decide +kernel, rfl, by decide +kernel, by decide +kernel⟩
theorem sc__law_refusals_right : FnScope ["box", "flow", "rate", "other", "named", "times", "rates", "unplain", "wrong", "told", "turn", "bad", "odd"] ["box", "flow", "rate", "other", "named"] (defScope (top 71)) := ⟨by kernel_rfl, by kernel_rfl, by kernel_rfl, by decide +kernel, rfl, by decide +kernel, by decide +kernel⟩
theorem sc_law : FnScope ["script", "k", "box"] ["script"] (defScope (top 72)) := ⟨by kernel_rfl, by kernel_rfl, by kernel_rfl, by decide +kernel, rfl, by decide +kernel, by decide +kernel⟩
theorem sc__law_cell : FnScope ["script", "k"] ["script", "k"] (defScope (top 45)) := ⟨by kernel_rfl, by kernel_rfl, by kernel_rfl, by decide +kernel, rfl, by decide +kernel, by decide +kernel⟩
theorem sc__law_box : FnScope ["great"] ["great"] (defScope (top 46)) := ⟨by kernel_rfl, by kernel_rfl, by kernel_rfl, by decide +kernel, rfl, by decide +kernel, by decide +kernel⟩
theorem sc_init_InvalidFlow : FnScope ["self", "given"] ["self", "given"] (defScope (cbd 3)) := ⟨by kernel_rfl, by kernel_rfl, by kernel_rfl, by decide +kernel, rfl, by decide +kernel, by decide +kernel⟩
theorem sc_init_InvalidRate : FnScope ["self", "given"] ["self", "given"] (defScope (cbd 4)) := ⟨by kernel_rfl, by kernel_rfl, by kernel_rfl, by decide +kernel, rfl, by decide +kernel, by decide +kernel⟩
theorem sc_init_InvalidRates : FnScope ["self", "given"] ["self", "given"] (defScope (cbd 5)) := ⟨by kernel_rfl, by kernel_rfl, by kernel_rfl, by decide +kernel, rfl, by decide +kernel, by decide +kernel⟩
theorem sc_init_InvalidTimes : FnScope ["self", "given"] ["self", "given"] (defScope (cbd 6)) := ⟨by kernel_rfl, by kernel_rfl, by kernel_rfl, by decide +kernel, rfl, by decide +kernel, by decide +kernel⟩
theorem bd_is_integer {K : PySem.W.Frag} {f : Addr} {fd : FuncData} (F : FunD K (d_is_integer).name (d_is_integer).qual (d_is_integer).params (d_is_integer).body (d_is_integer).scope [] [] f fd) : Binds K fd ["value"] [] := FunD.bindsN F fun _ _ _ _ _ _ us hl => match us, hl with | [_], _ => rfl
theorem bd_is_between {K : PySem.W.Frag} {f : Addr} {fd : FuncData} (F : FunD K (d_is_between).name (d_is_between).qual (d_is_between).params (d_is_between).body (d_is_between).scope [] [] f fd) : Binds K fd ["value", "least", "most"] [] := FunD.bindsN F fun _ _ _ _ _ _ us hl => match us, hl with | [_, _, _], _ => rfl
theorem bd_is_tuple_of {K : PySem.W.Frag} {f : Addr} {fd : FuncData} (F : FunD K (d_is_tuple_of).name (d_is_tuple_of).qual (d_is_tuple_of).params (d_is_tuple_of).body (d_is_tuple_of).scope [] [] f fd) : Binds K fd ["value", "many"] [] := FunD.bindsN F fun _ _ _ _ _ _ us hl => match us, hl with | [_, _], _ => rfl
theorem bd_is_row {K : PySem.W.Frag} {f : Addr} {fd : FuncData} (F : FunD K (d_is_row).name (d_is_row).qual (d_is_row).params (d_is_row).body (d_is_row).scope [] [] f fd) : Binds K fd ["value", "many", "least", "most"] [] := FunD.bindsN F fun _ _ _ _ _ _ us hl => match us, hl with | [_, _, _, _], _ => rfl
theorem bd_is_fraction {K : PySem.W.Frag} {f : Addr} {fd : FuncData} (F : FunD K (d_is_fraction).name (d_is_fraction).qual (d_is_fraction).params (d_is_fraction).body (d_is_fraction).scope [] [] f fd) : Binds K fd ["value"] [] := FunD.bindsN F fun _ _ _ _ _ _ us hl => match us, hl with | [_], _ => rfl
theorem bd_lowest {K : PySem.W.Frag} {f : Addr} {fd : FuncData} (F : FunD K (d_lowest).name (d_lowest).qual (d_lowest).params (d_lowest).body (d_lowest).scope [] [] f fd) : Binds K fd ["numerator", "denominator"] [] := FunD.bindsN F fun _ _ _ _ _ _ us hl => match us, hl with | [_, _], _ => rfl
theorem bd_whole {K : PySem.W.Frag} {f : Addr} {fd : FuncData} (F : FunD K (d_whole).name (d_whole).qual (d_whole).params (d_whole).body (d_whole).scope [] [] f fd) : Binds K fd ["number"] [] := FunD.bindsN F fun _ _ _ _ _ _ us hl => match us, hl with | [_], _ => rfl
theorem bd_add {K : PySem.W.Frag} {f : Addr} {fd : FuncData} (F : FunD K (d_add).name (d_add).qual (d_add).params (d_add).body (d_add).scope [] [] f fd) : Binds K fd ["one", "other"] [] := FunD.bindsN F fun _ _ _ _ _ _ us hl => match us, hl with | [_, _], _ => rfl
theorem bd_subtract {K : PySem.W.Frag} {f : Addr} {fd : FuncData} (F : FunD K (d_subtract).name (d_subtract).qual (d_subtract).params (d_subtract).body (d_subtract).scope [] [] f fd) : Binds K fd ["one", "other"] [] := FunD.bindsN F fun _ _ _ _ _ _ us hl => match us, hl with | [_, _], _ => rfl
theorem bd_multiply {K : PySem.W.Frag} {f : Addr} {fd : FuncData} (F : FunD K (d_multiply).name (d_multiply).qual (d_multiply).params (d_multiply).body (d_multiply).scope [] [] f fd) : Binds K fd ["one", "other"] [] := FunD.bindsN F fun _ _ _ _ _ _ us hl => match us, hl with | [_, _], _ => rfl
theorem bd_divide {K : PySem.W.Frag} {f : Addr} {fd : FuncData} (F : FunD K (d_divide).name (d_divide).qual (d_divide).params (d_divide).body (d_divide).scope [] [] f fd) : Binds K fd ["one", "other"] [] := FunD.bindsN F fun _ _ _ _ _ _ us hl => match us, hl with | [_, _], _ => rfl
theorem bd_compare {K : PySem.W.Frag} {f : Addr} {fd : FuncData} (F : FunD K (d_compare).name (d_compare).qual (d_compare).params (d_compare).body (d_compare).scope [] [] f fd) : Binds K fd ["one", "other"] [] := FunD.bindsN F fun _ _ _ _ _ _ us hl => match us, hl with | [_, _], _ => rfl
theorem bd_is_less {K : PySem.W.Frag} {f : Addr} {fd : FuncData} (F : FunD K (d_is_less).name (d_is_less).qual (d_is_less).params (d_is_less).body (d_is_less).scope [] [] f fd) : Binds K fd ["one", "other"] [] := FunD.bindsN F fun _ _ _ _ _ _ us hl => match us, hl with | [_, _], _ => rfl
theorem bd_is_flow {K : PySem.W.Frag} {f : Addr} {fd : FuncData} (F : FunD K (d_is_flow).name (d_is_flow).qual (d_is_flow).params (d_is_flow).body (d_is_flow).scope [] [] f fd) : Binds K fd ["value"] [] := FunD.bindsN F fun _ _ _ _ _ _ us hl => match us, hl with | [_], _ => rfl
theorem bd_check_flow {K : PySem.W.Frag} {f : Addr} {fd : FuncData} (F : FunD K (d_check_flow).name (d_check_flow).qual (d_check_flow).params (d_check_flow).body (d_check_flow).scope [] [] f fd) : Binds K fd ["flow"] [] := FunD.bindsN F fun _ _ _ _ _ _ us hl => match us, hl with | [_], _ => rfl
theorem bd_is_rate {K : PySem.W.Frag} {f : Addr} {fd : FuncData} (F : FunD K (d_is_rate).name (d_is_rate).qual (d_is_rate).params (d_is_rate).body (d_is_rate).scope [] [] f fd) : Binds K fd ["value"] [] := FunD.bindsN F fun _ _ _ _ _ _ us hl => match us, hl with | [_], _ => rfl
theorem bd_check_rate {K : PySem.W.Frag} {f : Addr} {fd : FuncData} (F : FunD K (d_check_rate).name (d_check_rate).qual (d_check_rate).params (d_check_rate).body (d_check_rate).scope [] [] f fd) : Binds K fd ["rate"] [] := FunD.bindsN F fun _ _ _ _ _ _ us hl => match us, hl with | [_], _ => rfl
theorem bd_factor_of {K : PySem.W.Frag} {f : Addr} {fd : FuncData} (F : FunD K (d_factor_of).name (d_factor_of).qual (d_factor_of).params (d_factor_of).body (d_factor_of).scope [] [] f fd) : Binds K fd ["rate"] [] := FunD.bindsN F fun _ _ _ _ _ _ us hl => match us, hl with | [_], _ => rfl
theorem bd_worth_now {K : PySem.W.Frag} {f : Addr} {fd : FuncData} (F : FunD K (d_worth_now).name (d_worth_now).qual (d_worth_now).params (d_worth_now).body (d_worth_now).scope [] [] f fd) : Binds K fd ["items", "rate"] [] := FunD.bindsN F fun _ _ _ _ _ _ us hl => match us, hl with | [_, _], _ => rfl
theorem bd_present {K : PySem.W.Frag} {f : Addr} {fd : FuncData} (F : FunD K (d_present).name (d_present).qual (d_present).params (d_present).body (d_present).scope [] [] f fd) : Binds K fd ["flow", "rate"] [] := FunD.bindsN F fun _ _ _ _ _ _ us hl => match us, hl with | [_, _], _ => rfl
theorem bd_check_plain {K : PySem.W.Frag} {f : Addr} {fd : FuncData} (F : FunD K (d_check_plain).name (d_check_plain).qual (d_check_plain).params (d_check_plain).body (d_check_plain).scope [] [] f fd) : Binds K fd ["flow"] [] := FunD.bindsN F fun _ _ _ _ _ _ us hl => match us, hl with | [_], _ => rfl
theorem bd_average {K : PySem.W.Frag} {f : Addr} {fd : FuncData} (F : FunD K (d_average).name (d_average).qual (d_average).params (d_average).body (d_average).scope [] [] f fd) : Binds K fd ["flow", "rate", "factors"] [] := FunD.bindsN F fun _ _ _ _ _ _ us hl => match us, hl with | [_, _, _], _ => rfl
theorem bd_duration {K : PySem.W.Frag} {f : Addr} {fd : FuncData} (F : FunD K (d_duration).name (d_duration).qual (d_duration).params (d_duration).body (d_duration).scope [] [] f fd) : Binds K fd ["flow", "rate"] [] := FunD.bindsN F fun _ _ _ _ _ _ us hl => match us, hl with | [_, _], _ => rfl
theorem bd_convexity {K : PySem.W.Frag} {f : Addr} {fd : FuncData} (F : FunD K (d_convexity).name (d_convexity).qual (d_convexity).params (d_convexity).body (d_convexity).scope [] [] f fd) : Binds K fd ["flow", "rate"] [] := FunD.bindsN F fun _ _ _ _ _ _ us hl => match us, hl with | [_, _], _ => rfl
theorem bd_later {K : PySem.W.Frag} {f : Addr} {fd : FuncData} (F : FunD K (d_later).name (d_later).qual (d_later).params (d_later).body (d_later).scope [] [] f fd) : Binds K fd ["amount", "rate", "time"] [] := FunD.bindsN F fun _ _ _ _ _ _ us hl => match us, hl with | [_, _, _], _ => rfl
theorem bd_immunized {K : PySem.W.Frag} {f : Addr} {fd : FuncData} (F : FunD K (d_immunized).name (d_immunized).qual (d_immunized).params (d_immunized).body (d_immunized).scope [] [] f fd) : Binds K fd ["flow", "rate", "times"] [] := FunD.bindsN F fun _ _ _ _ _ _ us hl => match us, hl with | [_, _, _], _ => rfl
theorem bd_is_covered {K : PySem.W.Frag} {f : Addr} {fd : FuncData} (F : FunD K (d_is_covered).name (d_is_covered).qual (d_is_covered).params (d_is_covered).body (d_is_covered).scope [] [] f fd) : Binds K fd ["flow", "other", "rates"] [] := FunD.bindsN F fun _ _ _ _ _ _ us hl => match us, hl with | [_, _, _], _ => rfl
theorem bd__law_take {K : PySem.W.Frag} {f : Addr} {fd : FuncData} (F : FunD K (d__law_take).name (d__law_take).qual (d__law_take).params (d__law_take).body (d__law_take).scope [] [] f fd) : Binds K fd ["box", "many"] [] := FunD.bindsN F fun _ _ _ _ _ _ us hl => match us, hl with | [_, _], _ => rfl
theorem bd__law_same {K : PySem.W.Frag} {f : Addr} {fd : FuncData} (F : FunD K (d__law_same).name (d__law_same).qual (d__law_same).params (d__law_same).body (d__law_same).scope [] [] f fd) : Binds K fd ["told", "due"] [] := FunD.bindsN F fun _ _ _ _ _ _ us hl => match us, hl with | [_, _], _ => rfl
theorem bd__law_gcd {K : PySem.W.Frag} {f : Addr} {fd : FuncData} (F : FunD K (d__law_gcd).name (d__law_gcd).qual (d__law_gcd).params (d__law_gcd).body (d__law_gcd).scope [] [] f fd) : Binds K fd ["a", "b"] [] := FunD.bindsN F fun _ _ _ _ _ _ us hl => match us, hl with | [_, _], _ => rfl
theorem bd__law_low {K : PySem.W.Frag} {f : Addr} {fd : FuncData} (F : FunD K (d__law_low).name (d__law_low).qual (d__law_low).params (d__law_low).body (d__law_low).scope [] [] f fd) : Binds K fd ["top", "bottom"] [] := FunD.bindsN F fun _ _ _ _ _ _ us hl => match us, hl with | [_, _], _ => rfl
theorem bd__law_add {K : PySem.W.Frag} {f : Addr} {fd : FuncData} (F : FunD K (d__law_add).name (d__law_add).qual (d__law_add).params (d__law_add).body (d__law_add).scope [] [] f fd) : Binds K fd ["one", "other"] [] := FunD.bindsN F fun _ _ _ _ _ _ us hl => match us, hl with | [_, _], _ => rfl
theorem bd__law_less {K : PySem.W.Frag} {f : Addr} {fd : FuncData} (F : FunD K (d__law_less).name (d__law_less).qual (d__law_less).params (d__law_less).body (d__law_less).scope [] [] f fd) : Binds K fd ["one", "other"] [] := FunD.bindsN F fun _ _ _ _ _ _ us hl => match us, hl with | [_, _], _ => rfl
theorem bd__law_mul {K : PySem.W.Frag} {f : Addr} {fd : FuncData} (F : FunD K (d__law_mul).name (d__law_mul).qual (d__law_mul).params (d__law_mul).body (d__law_mul).scope [] [] f fd) : Binds K fd ["one", "other"] [] := FunD.bindsN F fun _ _ _ _ _ _ us hl => match us, hl with | [_, _], _ => rfl
theorem bd__law_div {K : PySem.W.Frag} {f : Addr} {fd : FuncData} (F : FunD K (d__law_div).name (d__law_div).qual (d__law_div).params (d__law_div).body (d__law_div).scope [] [] f fd) : Binds K fd ["one", "other"] [] := FunD.bindsN F fun _ _ _ _ _ _ us hl => match us, hl with | [_, _], _ => rfl
theorem bd__law_sum {K : PySem.W.Frag} {f : Addr} {fd : FuncData} (F : FunD K (d__law_sum).name (d__law_sum).qual (d__law_sum).params (d__law_sum).body (d__law_sum).scope [] [] f fd) : Binds K fd ["items"] [] := FunD.bindsN F fun _ _ _ _ _ _ us hl => match us, hl with | [_], _ => rfl
theorem bd__law_below {K : PySem.W.Frag} {f : Addr} {fd : FuncData} (F : FunD K (d__law_below).name (d__law_below).qual (d__law_below).params (d__law_below).body (d__law_below).scope [] [] f fd) : Binds K fd ["one", "other"] [] := FunD.bindsN F fun _ _ _ _ _ _ us hl => match us, hl with | [_, _], _ => rfl
theorem bd__law_dot {K : PySem.W.Frag} {f : Addr} {fd : FuncData} (F : FunD K (d__law_dot).name (d__law_dot).qual (d__law_dot).params (d__law_dot).body (d__law_dot).scope [] [] f fd) : Binds K fd ["one", "other"] [] := FunD.bindsN F fun _ _ _ _ _ _ us hl => match us, hl with | [_, _], _ => rfl
theorem bd__law_flow {K : PySem.W.Frag} {f : Addr} {fd : FuncData} (F : FunD K (d__law_flow).name (d__law_flow).qual (d__law_flow).params (d__law_flow).body (d__law_flow).scope [] [] f fd) : Binds K fd ["box", "most", "wide"] [] := FunD.bindsN F fun _ _ _ _ _ _ us hl => match us, hl with | [_, _, _], _ => rfl
theorem bd__law_rate {K : PySem.W.Frag} {f : Addr} {fd : FuncData} (F : FunD K (d__law_rate).name (d__law_rate).qual (d__law_rate).params (d__law_rate).body (d__law_rate).scope [] [] f fd) : Binds K fd ["box"] [] := FunD.bindsN F fun _ _ _ _ _ _ us hl => match us, hl with | [_], _ => rfl
theorem bd__law_present {K : PySem.W.Frag} {f : Addr} {fd : FuncData} (F : FunD K (d__law_present).name (d__law_present).qual (d__law_present).params (d__law_present).body (d__law_present).scope [] [] f fd) : Binds K fd ["flow", "rate"] [] := FunD.bindsN F fun _ _ _ _ _ _ us hl => match us, hl with | [_, _], _ => rfl
theorem bd__law_no_flow {K : PySem.W.Frag} {f : Addr} {fd : FuncData} (F : FunD K (d__law_no_flow).name (d__law_no_flow).qual (d__law_no_flow).params (d__law_no_flow).body (d__law_no_flow).scope [] [] f fd) : Binds K fd ["box", "flow"] [] := FunD.bindsN F fun _ _ _ _ _ _ us hl => match us, hl with | [_, _], _ => rfl
theorem bd__law_no_fraction {K : PySem.W.Frag} {f : Addr} {fd : FuncData} (F : FunD K (d__law_no_fraction).name (d__law_no_fraction).qual (d__law_no_fraction).params (d__law_no_fraction).body (d__law_no_fraction).scope [] [] f fd) : Binds K fd ["box"] [] := FunD.bindsN F fun _ _ _ _ _ _ us hl => match us, hl with | [_], _ => rfl
theorem bd__law_no_rate {K : PySem.W.Frag} {f : Addr} {fd : FuncData} (F : FunD K (d__law_no_rate).name (d__law_no_rate).qual (d__law_no_rate).params (d__law_no_rate).body (d__law_no_rate).scope [] [] f fd) : Binds K fd ["box"] [] := FunD.bindsN F fun _ _ _ _ _ _ us hl => match us, hl with | [_], _ => rfl
theorem bd__law_weighted {K : PySem.W.Frag} {f : Addr} {fd : FuncData} (F : FunD K (d__law_weighted).name (d__law_weighted).qual (d__law_weighted).params (d__law_weighted).body (d__law_weighted).scope [] [] f fd) : Binds K fd ["flow", "rate", "factors"] [] := FunD.bindsN F fun _ _ _ _ _ _ us hl => match us, hl with | [_, _, _], _ => rfl
theorem bd__law_plain_flow {K : PySem.W.Frag} {f : Addr} {fd : FuncData} (F : FunD K (d__law_plain_flow).name (d__law_plain_flow).qual (d__law_plain_flow).params (d__law_plain_flow).body (d__law_plain_flow).scope [] [] f fd) : Binds K fd ["box"] [] := FunD.bindsN F fun _ _ _ _ _ _ us hl => match us, hl with | [_], _ => rfl
theorem bd__law_back {K : PySem.W.Frag} {f : Addr} {fd : FuncData} (F : FunD K (d__law_back).name (d__law_back).qual (d__law_back).params (d__law_back).body (d__law_back).scope [] [] f fd) : Binds K fd ["amount", "rate", "time"] [] := FunD.bindsN F fun _ _ _ _ _ _ us hl => match us, hl with | [_, _, _], _ => rfl
theorem bd__law_asked {K : PySem.W.Frag} {f : Addr} {fd : FuncData} (F : FunD K (d__law_asked).name (d__law_asked).qual (d__law_asked).params (d__law_asked).body (d__law_asked).scope [] [] f fd) : Binds K fd ["turn", "flow", "rate", "given", "named"] [] := FunD.bindsN F fun _ _ _ _ _ _ us hl => match us, hl with | [_, _, _, _, _], _ => rfl
theorem bd__law_is_fraction {K : PySem.W.Frag} {f : Addr} {fd : FuncData} (F : FunD K (d__law_is_fraction).name (d__law_is_fraction).qual (d__law_is_fraction).params (d__law_is_fraction).body (d__law_is_fraction).scope [] [] f fd) : Binds K fd ["value"] [] := FunD.bindsN F fun _ _ _ _ _ _ us hl => match us, hl with | [_], _ => rfl
theorem bd__law_immunized_right {K : PySem.W.Frag} {f : Addr} {fd : FuncData} (F : FunD K (d__law_immunized_right).name (d__law_immunized_right).qual (d__law_immunized_right).params (d__law_immunized_right).body (d__law_immunized_right).scope [] [] f fd) : Binds K fd ["box", "flow", "rate", "middle", "named"] [] := FunD.bindsN F fun _ _ _ _ _ _ us hl => match us, hl with | [_, _, _, _, _], _ => rfl
theorem bd__law_right {K : PySem.W.Frag} {f : Addr} {fd : FuncData} (F : FunD K (d__law_right).name (d__law_right).qual (d__law_right).params (d__law_right).body (d__law_right).scope [] [] f fd) : Binds K fd ["box"] [] := FunD.bindsN F fun _ _ _ _ _ _ us hl => match us, hl with | [_], _ => rfl
theorem bd__law_refusals_right {K : PySem.W.Frag} {f : Addr} {fd : FuncData} (F : FunD K (d__law_refusals_right).name (d__law_refusals_right).qual (d__law_refusals_right).params (d__law_refusals_right).body (d__law_refusals_right).scope [] [] f fd) : Binds K fd ["box", "flow", "rate", "other", "named"] [] := FunD.bindsN F fun _ _ _ _ _ _ us hl => match us, hl with | [_, _, _, _, _], _ => rfl
theorem bd_law {K : PySem.W.Frag} {f : Addr} {fd : FuncData} (F : FunD K (d_law).name (d_law).qual (d_law).params (d_law).body (d_law).scope [] [] f fd) : Binds K fd ["script"] [] := FunD.bindsN F fun _ _ _ _ _ _ us hl => match us, hl with | [_], _ => rfl
theorem bd__law_cell {K : PySem.W.Frag} {f : Addr} {fd : FuncData} (F : FunD K (d__law_cell).name (d__law_cell).qual (d__law_cell).params (d__law_cell).body (d__law_cell).scope [] [] f fd) : Binds K fd ["script", "k"] [] := FunD.bindsN F fun _ _ _ _ _ _ us hl => match us, hl with | [_, _], _ => rfl
theorem bd__law_box {K : PySem.W.Frag} {f : Addr} {fd : FuncData} (F : FunD K (d__law_box).name (d__law_box).qual (d__law_box).params (d__law_box).body (d__law_box).scope [] [] f fd) : Binds K fd ["great"] [] := FunD.bindsN F fun _ _ _ _ _ _ us hl => match us, hl with | [_], _ => rfl
theorem bd_init_InvalidFlow {K : PySem.W.Frag} {f : Addr} {fd : FuncData} (F : FunD K (d_init_InvalidFlow).name (d_init_InvalidFlow).qual (d_init_InvalidFlow).params (d_init_InvalidFlow).body (d_init_InvalidFlow).scope [] [] f fd) : Binds K fd ["self", "given"] [] := FunD.bindsN F fun _ _ _ _ _ _ us hl => match us, hl with | [_, _], _ => rfl
theorem bd_init_InvalidRate {K : PySem.W.Frag} {f : Addr} {fd : FuncData} (F : FunD K (d_init_InvalidRate).name (d_init_InvalidRate).qual (d_init_InvalidRate).params (d_init_InvalidRate).body (d_init_InvalidRate).scope [] [] f fd) : Binds K fd ["self", "given"] [] := FunD.bindsN F fun _ _ _ _ _ _ us hl => match us, hl with | [_, _], _ => rfl
theorem bd_init_InvalidRates {K : PySem.W.Frag} {f : Addr} {fd : FuncData} (F : FunD K (d_init_InvalidRates).name (d_init_InvalidRates).qual (d_init_InvalidRates).params (d_init_InvalidRates).body (d_init_InvalidRates).scope [] [] f fd) : Binds K fd ["self", "given"] [] := FunD.bindsN F fun _ _ _ _ _ _ us hl => match us, hl with | [_, _], _ => rfl
theorem bd_init_InvalidTimes {K : PySem.W.Frag} {f : Addr} {fd : FuncData} (F : FunD K (d_init_InvalidTimes).name (d_init_InvalidTimes).qual (d_init_InvalidTimes).params (d_init_InvalidTimes).body (d_init_InvalidTimes).scope [] [] f fd) : Binds K fd ["self", "given"] [] := FunD.bindsN F fun _ _ _ _ _ _ us hl => match us, hl with | [_, _], _ => rfl
abbrev MM : Int := 2147483629
abbrev FF (K : PySem.W.Frag) (d : He.DefD) (fd : FuncData) : Prop := FunD K d.name d.qual d.params d.body d.scope [] [] (He.fAd K d.at_) fd
theorem fds {K : PySem.W.Frag} (c : He.SaysD fal fnl K) : ∃ fd : Nat → FuncData, ∀ (i : Nat) (dd : He.DefD), fnl[i]? = some dd → FunD K dd.name dd.qual dd.params dd.body dd.scope (dd.dvs K) (dd.kws K) (He.fAd K dd.at_) (fd i) := by
  obtain ⟨f0, _⟩ := c.def_ 0 (d := d_is_integer) rfl
  have h : ∀ i : Nat, ∃ f : FuncData, ∀ dd : He.DefD, fnl[i]? = some dd → FunD K dd.name dd.qual dd.params dd.body dd.scope (dd.dvs K) (dd.kws K) (He.fAd K dd.at_) f := fun i => by
    cases e : fnl[i]? with
    | none => exact ⟨f0, fun dd h => by cases h⟩
    | some dd =>
      obtain ⟨f, hf⟩ := c.def_ i e
      exact ⟨f, fun d2 h => by cases h; exact hf⟩
  exact ⟨fun i => (h i).choose, fun i => (h i).choose_spec⟩
def exx (K : PySem.W.Frag) : Ex := ⟨fun i => He.ga K (exnames.getD i ""), fun i => flds.getD i []⟩
def fl (K : PySem.W.Frag) : List Addr := fns.map (He.ga K)
theorem fl_get {K : PySem.W.Frag} {z : Addr} {i : Nat} {nm : Str} (h : fns[i]? = some nm) : faL (fl K) z i = He.ga K nm := by
  unfold faL fl
  rw [List.getD_eq_getElem?_getD, List.getElem?_map, h]
  rfl
section
variable {P : Program} {w : World} {K : PySem.W.Frag} {mg : Str → Option Value} {base h : Heap}
theorem exs_ok (KX : K.In h) (Gn : h.Ns mainGlobals mg) (c : He.SaysD fal fnl K) (ce : exB K = true) {fd : Nat → FuncData} (hf : ∀ (i : Nat) (dd : He.DefD), fnl[i]? = some dd → FunD K dd.name dd.qual dd.params dd.body dd.scope (dd.dvs K) (dd.kws K) (He.fAd K dd.at_) (fd i)) (X : Cx) (e1 : X.prog = P) (e2 : X.w = w) (e3 : X.K = K) (e4 : X.mg = mg) (e5 : X.base = base) : Exs (exx K) G X := by
  subst e1 e2 e3 e4 e5
  obtain ⟨r8, q8⟩ := and2 ce
  obtain ⟨r7, q7⟩ := and2 r8
  obtain ⟨r6, q6⟩ := and2 r7
  obtain ⟨r5, q5⟩ := and2 r6
  obtain ⟨r4, q4⟩ := and2 r5
  obtain ⟨r3, q3⟩ := and2 r4
  obtain ⟨r2, q2⟩ := and2 r3
  obtain ⟨r1, q1⟩ := and2 r2
  have q0 := r1
  have gm : ∀ x ∈ globs, X.mg x = some (.ref (He.ga X.K x)) := fun x hx => He.glo_ok KX Gn (c.facts (List.mem_append_left _ (List.mem_map_of_mem hx)))
  refine ⟨fun _ _ => rfl, fun i nm hi => ?_, fun i j hi hj => exmB_ok q4 hi hj, fun nm hn => ?_, fun i hi => ?_, fun i hi => ?_, fun i hi => ?_⟩
  · have hn : nm ∈ exnames := List.mem_of_getElem? hi
    have e : (exx X.K).cls i = He.ga X.K nm := by
      show He.ga X.K (exnames.getD i "") = _
      rw [List.getD_eq_getElem?_getD, show exnames[i]? = some nm from hi]
      rfl
    rw [e]
    exact gm nm (by
      have : ∀ x ∈ exnames, x ∈ globs := by decide +kernel
      exact this nm hn)
  · have hn : nm = "MarketError" := List.mem_singleton.mp hn
    subst hn
    refine ⟨.ref (He.ga X.K "MarketError"), gm _ (by decide +kernel), fun e he => ?_⟩
    have he : e < exnames.length := he
    have q := List.all_eq_true.mp q5 (exnames.getD e "") (by
      rw [List.getD_eq_getElem?_getD, List.getElem?_eq_getElem he]
      exact List.getElem_mem he)
    exact of_decide_eq_true q
  · match i, hi with
    | 0, _ => exact ⟨(clsB_ok q0).2.1, (clsB_ok q0).2.2.1⟩
    | 1, _ => exact ⟨(clsB_ok q1).2.1, (clsB_ok q1).2.2.1⟩
    | 2, _ => exact ⟨(clsB_ok q2).2.1, (clsB_ok q2).2.2.1⟩
    | 3, _ => exact ⟨(clsB_ok q3).2.1, (clsB_ok q3).2.2.1⟩
    | n + 4, h => exact absurd h (by show ¬ (n + 4 < exnames.length); rw [show exnames.length = 4 from rfl]; omega)
  · match i, hi with
    | 0, _ => exact ⟨by decide +kernel, by decide +kernel⟩
    | 1, _ => exact ⟨by decide +kernel, by decide +kernel⟩
    | 2, _ => exact ⟨by decide +kernel, by decide +kernel⟩
    | 3, _ => exact ⟨by decide +kernel, by decide +kernel⟩
    | n + 4, h => exact absurd h (by show ¬ (n + 4 < exnames.length); rw [show exnames.length = 4 from rfl]; omega)
  · match i, hi with
    | 0, _ =>
      have F := hf 55 d_init_InvalidFlow rfl
      exact ⟨(clsB_ok q0).1, _, _, _, (clsB_ok q0).2.2.2.1, (clsB_ok q0).2.2.2.2, bd_init_InvalidFlow F, init_ok F sc_init_InvalidFlow (by decide +kernel) (by decide +kernel)⟩
    | 1, _ =>
      have F := hf 56 d_init_InvalidRate rfl
      exact ⟨(clsB_ok q1).1, _, _, _, (clsB_ok q1).2.2.2.1, (clsB_ok q1).2.2.2.2, bd_init_InvalidRate F, init_ok F sc_init_InvalidRate (by decide +kernel) (by decide +kernel)⟩
    | 2, _ =>
      have F := hf 57 d_init_InvalidRates rfl
      exact ⟨(clsB_ok q2).1, _, _, _, (clsB_ok q2).2.2.2.1, (clsB_ok q2).2.2.2.2, bd_init_InvalidRates F, init_ok F sc_init_InvalidRates (by decide +kernel) (by decide +kernel)⟩
    | 3, _ =>
      have F := hf 58 d_init_InvalidTimes rfl
      exact ⟨(clsB_ok q3).1, _, _, _, (clsB_ok q3).2.2.2.1, (clsB_ok q3).2.2.2.2, bd_init_InvalidTimes F, init_ok F sc_init_InvalidTimes (by decide +kernel) (by decide +kernel)⟩
    | n + 4, h => exact absurd h (by show ¬ (n + 4 < exnames.length); rw [show exnames.length = 4 from rfl]; omega)
theorem lib (KX : K.In h) (Gn : h.Ns mainGlobals mg) (c : He.SaysD fal fnl K) (ce : exB K = true) {fd : Nat → FuncData} (hf : ∀ (i : Nat) (dd : He.DefD), fnl[i]? = some dd → FunD K dd.name dd.qual dd.params dd.body dd.scope (dd.dvs K) (dd.kws K) (He.fAd K dd.at_) (fd i)) (z : Addr) : Lib P w K mg base (exx K) G con (faL (fl K) z) fd defs := by
  obtain ⟨r8, q8⟩ := and2 ce
  obtain ⟨r7, q7⟩ := and2 r8
  obtain ⟨r6, q6⟩ := and2 r7
  obtain ⟨r5, q5⟩ := and2 r6
  obtain ⟨r4, q4⟩ := and2 r5
  obtain ⟨r3, q3⟩ := and2 r4
  obtain ⟨r2, q2⟩ := and2 r3
  obtain ⟨r1, q1⟩ := and2 r2
  have q0 := r1
  have gm : ∀ x ∈ globs, mg x = some (.ref (He.ga K x)) := fun x hx => He.glo_ok KX Gn (c.facts (List.mem_append_left _ (List.mem_map_of_mem hx)))
  have bds : ∀ i nm, fns[i]? = some nm → PySem.W.keepIn K (.ref (faL (fl K) z i)) = true ∧ Binds K (fd i) (G.ps i) [] := fun i nm hi => by
    rw [fl_get hi]
    match i, hi with
    | 0, hi => cases hi; exact ⟨(hf 0 d_is_integer rfl).kp, bd_is_integer (hf 0 d_is_integer rfl)⟩
    | 1, hi => cases hi; exact ⟨(hf 1 d_is_between rfl).kp, bd_is_between (hf 1 d_is_between rfl)⟩
    | 2, hi => cases hi; exact ⟨(hf 2 d_is_tuple_of rfl).kp, bd_is_tuple_of (hf 2 d_is_tuple_of rfl)⟩
    | 3, hi => cases hi; exact ⟨(hf 3 d_is_row rfl).kp, bd_is_row (hf 3 d_is_row rfl)⟩
    | 4, hi => cases hi; exact ⟨(hf 4 d_is_fraction rfl).kp, bd_is_fraction (hf 4 d_is_fraction rfl)⟩
    | 5, hi => cases hi; exact ⟨(hf 5 d_lowest rfl).kp, bd_lowest (hf 5 d_lowest rfl)⟩
    | 6, hi => cases hi; exact ⟨(hf 6 d_whole rfl).kp, bd_whole (hf 6 d_whole rfl)⟩
    | 7, hi => cases hi; exact ⟨(hf 7 d_add rfl).kp, bd_add (hf 7 d_add rfl)⟩
    | 8, hi => cases hi; exact ⟨(hf 8 d_subtract rfl).kp, bd_subtract (hf 8 d_subtract rfl)⟩
    | 9, hi => cases hi; exact ⟨(hf 9 d_multiply rfl).kp, bd_multiply (hf 9 d_multiply rfl)⟩
    | 10, hi => cases hi; exact ⟨(hf 10 d_divide rfl).kp, bd_divide (hf 10 d_divide rfl)⟩
    | 11, hi => cases hi; exact ⟨(hf 11 d_compare rfl).kp, bd_compare (hf 11 d_compare rfl)⟩
    | 12, hi => cases hi; exact ⟨(hf 12 d_is_less rfl).kp, bd_is_less (hf 12 d_is_less rfl)⟩
    | 13, hi => cases hi; exact ⟨(hf 13 d_is_flow rfl).kp, bd_is_flow (hf 13 d_is_flow rfl)⟩
    | 14, hi => cases hi; exact ⟨(hf 14 d_check_flow rfl).kp, bd_check_flow (hf 14 d_check_flow rfl)⟩
    | 15, hi => cases hi; exact ⟨(hf 15 d_is_rate rfl).kp, bd_is_rate (hf 15 d_is_rate rfl)⟩
    | 16, hi => cases hi; exact ⟨(hf 16 d_check_rate rfl).kp, bd_check_rate (hf 16 d_check_rate rfl)⟩
    | 17, hi => cases hi; exact ⟨(hf 17 d_factor_of rfl).kp, bd_factor_of (hf 17 d_factor_of rfl)⟩
    | 18, hi => cases hi; exact ⟨(hf 18 d_worth_now rfl).kp, bd_worth_now (hf 18 d_worth_now rfl)⟩
    | 19, hi => cases hi; exact ⟨(hf 19 d_present rfl).kp, bd_present (hf 19 d_present rfl)⟩
    | 20, hi => cases hi; exact ⟨(hf 20 d_check_plain rfl).kp, bd_check_plain (hf 20 d_check_plain rfl)⟩
    | 21, hi => cases hi; exact ⟨(hf 21 d_average rfl).kp, bd_average (hf 21 d_average rfl)⟩
    | 22, hi => cases hi; exact ⟨(hf 22 d_duration rfl).kp, bd_duration (hf 22 d_duration rfl)⟩
    | 23, hi => cases hi; exact ⟨(hf 23 d_convexity rfl).kp, bd_convexity (hf 23 d_convexity rfl)⟩
    | 24, hi => cases hi; exact ⟨(hf 24 d_later rfl).kp, bd_later (hf 24 d_later rfl)⟩
    | 25, hi => cases hi; exact ⟨(hf 25 d_immunized rfl).kp, bd_immunized (hf 25 d_immunized rfl)⟩
    | 26, hi => cases hi; exact ⟨(hf 26 d_is_covered rfl).kp, bd_is_covered (hf 26 d_is_covered rfl)⟩
    | 27, hi => cases hi; exact ⟨(hf 27 d__law_take rfl).kp, bd__law_take (hf 27 d__law_take rfl)⟩
    | 28, hi => cases hi; exact ⟨(hf 28 d__law_same rfl).kp, bd__law_same (hf 28 d__law_same rfl)⟩
    | 29, hi => cases hi; exact ⟨(hf 29 d__law_gcd rfl).kp, bd__law_gcd (hf 29 d__law_gcd rfl)⟩
    | 30, hi => cases hi; exact ⟨(hf 30 d__law_low rfl).kp, bd__law_low (hf 30 d__law_low rfl)⟩
    | 31, hi => cases hi; exact ⟨(hf 31 d__law_add rfl).kp, bd__law_add (hf 31 d__law_add rfl)⟩
    | 32, hi => cases hi; exact ⟨(hf 32 d__law_less rfl).kp, bd__law_less (hf 32 d__law_less rfl)⟩
    | 33, hi => cases hi; exact ⟨(hf 33 d__law_mul rfl).kp, bd__law_mul (hf 33 d__law_mul rfl)⟩
    | 34, hi => cases hi; exact ⟨(hf 34 d__law_div rfl).kp, bd__law_div (hf 34 d__law_div rfl)⟩
    | 35, hi => cases hi; exact ⟨(hf 35 d__law_sum rfl).kp, bd__law_sum (hf 35 d__law_sum rfl)⟩
    | 36, hi => cases hi; exact ⟨(hf 36 d__law_below rfl).kp, bd__law_below (hf 36 d__law_below rfl)⟩
    | 37, hi => cases hi; exact ⟨(hf 37 d__law_dot rfl).kp, bd__law_dot (hf 37 d__law_dot rfl)⟩
    | 38, hi => cases hi; exact ⟨(hf 38 d__law_flow rfl).kp, bd__law_flow (hf 38 d__law_flow rfl)⟩
    | 39, hi => cases hi; exact ⟨(hf 39 d__law_rate rfl).kp, bd__law_rate (hf 39 d__law_rate rfl)⟩
    | 40, hi => cases hi; exact ⟨(hf 40 d__law_present rfl).kp, bd__law_present (hf 40 d__law_present rfl)⟩
    | 41, hi => cases hi; exact ⟨(hf 41 d__law_no_flow rfl).kp, bd__law_no_flow (hf 41 d__law_no_flow rfl)⟩
    | 42, hi => cases hi; exact ⟨(hf 42 d__law_no_fraction rfl).kp, bd__law_no_fraction (hf 42 d__law_no_fraction rfl)⟩
    | 43, hi => cases hi; exact ⟨(hf 43 d__law_no_rate rfl).kp, bd__law_no_rate (hf 43 d__law_no_rate rfl)⟩
    | 44, hi => cases hi; exact ⟨(hf 44 d__law_weighted rfl).kp, bd__law_weighted (hf 44 d__law_weighted rfl)⟩
    | 45, hi => cases hi; exact ⟨(hf 45 d__law_plain_flow rfl).kp, bd__law_plain_flow (hf 45 d__law_plain_flow rfl)⟩
    | 46, hi => cases hi; exact ⟨(hf 46 d__law_back rfl).kp, bd__law_back (hf 46 d__law_back rfl)⟩
    | 47, hi => cases hi; exact ⟨(hf 47 d__law_asked rfl).kp, bd__law_asked (hf 47 d__law_asked rfl)⟩
    | 48, hi => cases hi; exact ⟨(hf 48 d__law_is_fraction rfl).kp, bd__law_is_fraction (hf 48 d__law_is_fraction rfl)⟩
    | 49, hi => cases hi; exact ⟨(hf 49 d__law_immunized_right rfl).kp, bd__law_immunized_right (hf 49 d__law_immunized_right rfl)⟩
    | 50, hi => cases hi; exact ⟨(hf 50 d__law_right rfl).kp, bd__law_right (hf 50 d__law_right rfl)⟩
    | 51, hi => cases hi; exact ⟨(hf 51 d__law_refusals_right rfl).kp, bd__law_refusals_right (hf 51 d__law_refusals_right rfl)⟩
    | n + 52, hi => exact absurd (List.getElem?_eq_some_iff.mp hi).1 (by rw [show fns.length = 52 from rfl]; omega)
  refine ⟨fun nm hn => He.free_ok KX Gn (c.facts (List.mem_append_right _ (List.mem_append_left _ (List.mem_map_of_mem hn)))), fun i nm hi => ?_, fun nm hn => ?_, fun i nm hi => ⟨?_, (bds i nm hi).1, (bds i nm hi).2⟩, fun i ks perm hk => ?_, fun X e1 e2 e3 e4 e5 => exs_ok KX Gn c ce hf X e1 e2 e3 e4 e5, fun i d hd => ?_⟩
  · match i, hi with
    | 0, hi => cases hi; exact ⟨.ref (He.ga K "ZERO"), _, gm _ (by decide +kernel), rfl, fun b W H hb _ => con_tup (is := [0, 1]) q6 hb⟩
    | 1, hi => cases hi; exact ⟨.ref (He.ga K "ONE"), _, gm _ (by decide +kernel), rfl, fun b W H hb _ => con_tup (is := [1, 1]) q7 hb⟩
    | 2, hi =>
      cases hi
      obtain ⟨t, e⟩ := He.int_ok KX Gn (c.facts (f := .int "MOST_TIMES" (12)) (List.mem_append_right _ (List.mem_append_right _ (by simp))))
      exact ⟨.int (12), _, e, ⟨t, rfl⟩, fun b W H _ _ => .int _⟩
    | 3, hi =>
      cases hi
      obtain ⟨t, e⟩ := He.int_ok KX Gn (c.facts (f := .int "MOST_ITEM" (1000000)) (List.mem_append_right _ (List.mem_append_right _ (by simp))))
      exact ⟨.int (1000000), _, e, ⟨t, rfl⟩, fun b W H _ _ => .int _⟩
    | 4, hi =>
      cases hi
      obtain ⟨t, e⟩ := He.int_ok KX Gn (c.facts (f := .int "MOST_TIME" (40)) (List.mem_append_right _ (List.mem_append_right _ (by simp))))
      exact ⟨.int (40), _, e, ⟨t, rfl⟩, fun b W H _ _ => .int _⟩
    | 5, hi =>
      cases hi
      obtain ⟨t, e⟩ := He.int_ok KX Gn (c.facts (f := .int "MOST_RATES" (20)) (List.mem_append_right _ (List.mem_append_right _ (by simp))))
      exact ⟨.int (20), _, e, ⟨t, rfl⟩, fun b W H _ _ => .int _⟩
    | n + 6, hi => exact absurd (List.getElem?_eq_some_iff.mp hi).1 (by rw [show G.cons.length = 6 from rfl]; omega)
  · have hn : nm = "gcd" := List.mem_singleton.mp hn
    subst hn
    exact PySem.W.mg_of KX Gn (of_decide_eq_true q8)
  · rw [fl_get hi]
    exact gm nm (by
      have : ∀ x ∈ fns, x ∈ globs := by decide +kernel
      exact this nm (List.mem_of_getElem? hi))
  · have hk : (i, ks, perm) ∈ kwl := hk
    simp only [kwl, List.mem_cons, List.not_mem_nil, or_false, Prod.mk.injEq] at hk
    rcases hk with ⟨rfl, rfl, rfl⟩ | ⟨rfl, rfl, rfl⟩ | ⟨rfl, rfl, rfl⟩ | ⟨rfl, rfl, rfl⟩
    · exact KB.of (hf 26 d_is_covered rfl) fun _ _ _ _ _ _ ws hl => match ws, hl with | [_, _, _], _ => rfl
    · exact KB.of (hf 25 d_immunized rfl) fun _ _ _ _ _ _ ws hl => match ws, hl with | [_, _, _], _ => rfl
    · exact KB.of (hf 23 d_convexity rfl) fun _ _ _ _ _ _ ws hl => match ws, hl with | [_, _], _ => rfl
    · exact KB.of (hf 22 d_duration rfl) fun _ _ _ _ _ _ ws hl => match ws, hl with | [_, _], _ => rfl
  · match i, hd with
    | 0, hd => cases hd; exact ⟨_, _, _, _, _, _, _, hf 0 d_is_integer rfl, sc_is_integer, rfl, rfl, rfl, m_is_integer⟩
    | 1, hd => cases hd; exact ⟨_, _, _, _, _, _, _, hf 1 d_is_between rfl, sc_is_between, rfl, rfl, rfl, m_is_between⟩
    | 2, hd => cases hd; exact ⟨_, _, _, _, _, _, _, hf 2 d_is_tuple_of rfl, sc_is_tuple_of, rfl, rfl, rfl, m_is_tuple_of⟩
    | 3, hd => cases hd; exact ⟨_, _, _, _, _, _, _, hf 3 d_is_row rfl, sc_is_row, rfl, rfl, rfl, m_is_row⟩
    | 4, hd => cases hd; exact ⟨_, _, _, _, _, _, _, hf 4 d_is_fraction rfl, sc_is_fraction, rfl, rfl, rfl, m_is_fraction⟩
    | 5, hd => cases hd; exact ⟨_, _, _, _, _, _, _, hf 5 d_lowest rfl, sc_lowest, rfl, rfl, rfl, m_lowest⟩
    | 6, hd => cases hd; exact ⟨_, _, _, _, _, _, _, hf 6 d_whole rfl, sc_whole, rfl, rfl, rfl, m_whole⟩
    | 7, hd => cases hd; exact ⟨_, _, _, _, _, _, _, hf 7 d_add rfl, sc_add, rfl, rfl, rfl, m_add⟩
    | 8, hd => cases hd; exact ⟨_, _, _, _, _, _, _, hf 8 d_subtract rfl, sc_subtract, rfl, rfl, rfl, m_subtract⟩
    | 9, hd => cases hd; exact ⟨_, _, _, _, _, _, _, hf 9 d_multiply rfl, sc_multiply, rfl, rfl, rfl, m_multiply⟩
    | 10, hd => cases hd; exact ⟨_, _, _, _, _, _, _, hf 10 d_divide rfl, sc_divide, rfl, rfl, rfl, m_divide⟩
    | 11, hd => cases hd; exact ⟨_, _, _, _, _, _, _, hf 11 d_compare rfl, sc_compare, rfl, rfl, rfl, m_compare⟩
    | 12, hd => cases hd; exact ⟨_, _, _, _, _, _, _, hf 12 d_is_less rfl, sc_is_less, rfl, rfl, rfl, m_is_less⟩
    | 13, hd => cases hd; exact ⟨_, _, _, _, _, _, _, hf 13 d_is_flow rfl, sc_is_flow, rfl, rfl, rfl, m_is_flow⟩
    | 14, hd => cases hd; exact ⟨_, _, _, _, _, _, _, hf 14 d_check_flow rfl, sc_check_flow, rfl, rfl, rfl, m_check_flow⟩
    | 15, hd => cases hd; exact ⟨_, _, _, _, _, _, _, hf 15 d_is_rate rfl, sc_is_rate, rfl, rfl, rfl, m_is_rate⟩
    | 16, hd => cases hd; exact ⟨_, _, _, _, _, _, _, hf 16 d_check_rate rfl, sc_check_rate, rfl, rfl, rfl, m_check_rate⟩
    | 17, hd => cases hd; exact ⟨_, _, _, _, _, _, _, hf 17 d_factor_of rfl, sc_factor_of, rfl, rfl, rfl, m_factor_of⟩
    | 18, hd => cases hd; exact ⟨_, _, _, _, _, _, _, hf 18 d_worth_now rfl, sc_worth_now, rfl, rfl, rfl, m_worth_now⟩
    | 19, hd => cases hd; exact ⟨_, _, _, _, _, _, _, hf 19 d_present rfl, sc_present, rfl, rfl, rfl, m_present⟩
    | 20, hd => cases hd; exact ⟨_, _, _, _, _, _, _, hf 20 d_check_plain rfl, sc_check_plain, rfl, rfl, rfl, m_check_plain⟩
    | 21, hd => cases hd; exact ⟨_, _, _, _, _, _, _, hf 21 d_average rfl, sc_average, rfl, rfl, rfl, m_average⟩
    | 22, hd => cases hd; exact ⟨_, _, _, _, _, _, _, hf 22 d_duration rfl, sc_duration, rfl, rfl, rfl, m_duration⟩
    | 23, hd => cases hd; exact ⟨_, _, _, _, _, _, _, hf 23 d_convexity rfl, sc_convexity, rfl, rfl, rfl, m_convexity⟩
    | 24, hd => cases hd; exact ⟨_, _, _, _, _, _, _, hf 24 d_later rfl, sc_later, rfl, rfl, rfl, m_later⟩
    | 25, hd => cases hd; exact ⟨_, _, _, _, _, _, _, hf 25 d_immunized rfl, sc_immunized, rfl, rfl, rfl, m_immunized⟩
    | 26, hd => cases hd; exact ⟨_, _, _, _, _, _, _, hf 26 d_is_covered rfl, sc_is_covered, rfl, rfl, rfl, m_is_covered⟩
    | 27, hd => cases hd; exact ⟨_, _, _, _, _, _, _, hf 27 d__law_take rfl, sc__law_take, rfl, rfl, rfl, m__law_take⟩
    | 28, hd => cases hd; exact ⟨_, _, _, _, _, _, _, hf 28 d__law_same rfl, sc__law_same, rfl, rfl, rfl, m__law_same⟩
    | 29, hd => cases hd; exact ⟨_, _, _, _, _, _, _, hf 29 d__law_gcd rfl, sc__law_gcd, rfl, rfl, rfl, m__law_gcd⟩
    | 30, hd => cases hd; exact ⟨_, _, _, _, _, _, _, hf 30 d__law_low rfl, sc__law_low, rfl, rfl, rfl, m__law_low⟩
    | 31, hd => cases hd; exact ⟨_, _, _, _, _, _, _, hf 31 d__law_add rfl, sc__law_add, rfl, rfl, rfl, m__law_add⟩
    | 32, hd => cases hd; exact ⟨_, _, _, _, _, _, _, hf 32 d__law_less rfl, sc__law_less, rfl, rfl, rfl, m__law_less⟩
    | 33, hd => cases hd; exact ⟨_, _, _, _, _, _, _, hf 33 d__law_mul rfl, sc__law_mul, rfl, rfl, rfl, m__law_mul⟩
    | 34, hd => cases hd; exact ⟨_, _, _, _, _, _, _, hf 34 d__law_div rfl, sc__law_div, rfl, rfl, rfl, m__law_div⟩
    | 35, hd => cases hd; exact ⟨_, _, _, _, _, _, _, hf 35 d__law_sum rfl, sc__law_sum, rfl, rfl, rfl, m__law_sum⟩
    | 36, hd => cases hd; exact ⟨_, _, _, _, _, _, _, hf 36 d__law_below rfl, sc__law_below, rfl, rfl, rfl, m__law_below⟩
    | 37, hd => cases hd; exact ⟨_, _, _, _, _, _, _, hf 37 d__law_dot rfl, sc__law_dot, rfl, rfl, rfl, m__law_dot⟩
    | 38, hd => cases hd; exact ⟨_, _, _, _, _, _, _, hf 38 d__law_flow rfl, sc__law_flow, rfl, rfl, rfl, m__law_flow⟩
    | 39, hd => cases hd; exact ⟨_, _, _, _, _, _, _, hf 39 d__law_rate rfl, sc__law_rate, rfl, rfl, rfl, m__law_rate⟩
    | 40, hd => cases hd; exact ⟨_, _, _, _, _, _, _, hf 40 d__law_present rfl, sc__law_present, rfl, rfl, rfl, m__law_present⟩
    | 41, hd => cases hd; exact ⟨_, _, _, _, _, _, _, hf 41 d__law_no_flow rfl, sc__law_no_flow, rfl, rfl, rfl, m__law_no_flow⟩
    | 42, hd => cases hd; exact ⟨_, _, _, _, _, _, _, hf 42 d__law_no_fraction rfl, sc__law_no_fraction, rfl, rfl, rfl, m__law_no_fraction⟩
    | 43, hd => cases hd; exact ⟨_, _, _, _, _, _, _, hf 43 d__law_no_rate rfl, sc__law_no_rate, rfl, rfl, rfl, m__law_no_rate⟩
    | 44, hd => cases hd; exact ⟨_, _, _, _, _, _, _, hf 44 d__law_weighted rfl, sc__law_weighted, rfl, rfl, rfl, m__law_weighted⟩
    | 45, hd => cases hd; exact ⟨_, _, _, _, _, _, _, hf 45 d__law_plain_flow rfl, sc__law_plain_flow, rfl, rfl, rfl, m__law_plain_flow⟩
    | 46, hd => cases hd; exact ⟨_, _, _, _, _, _, _, hf 46 d__law_back rfl, sc__law_back, rfl, rfl, rfl, m__law_back⟩
    | 47, hd => cases hd; exact ⟨_, _, _, _, _, _, _, hf 47 d__law_asked rfl, sc__law_asked, rfl, rfl, rfl, m__law_asked⟩
    | 48, hd => cases hd; exact ⟨_, _, _, _, _, _, _, hf 48 d__law_is_fraction rfl, sc__law_is_fraction, rfl, rfl, rfl, m__law_is_fraction⟩
    | 49, hd => cases hd; exact ⟨_, _, _, _, _, _, _, hf 49 d__law_immunized_right rfl, sc__law_immunized_right, rfl, rfl, rfl, m__law_immunized_right⟩
    | 50, hd => cases hd; exact ⟨_, _, _, _, _, _, _, hf 50 d__law_right rfl, sc__law_right, rfl, rfl, rfl, m__law_right⟩
    | 51, hd => cases hd; exact ⟨_, _, _, _, _, _, _, hf 51 d__law_refusals_right rfl, sc__law_refusals_right, rfl, rfl, rfl, m__law_refusals_right⟩
    | n + 52, hd => exact absurd (List.getElem?_eq_some_iff.mp hd).1 (by rw [show defs.length = 52 from rfl]; omega)
/-- the law's def, from the plain law -/
theorem law_fn (KX : K.In h) (Gn : h.Ns mainGlobals mg) (c : He.SaysD fal fnl K) (ce : exB K = true) {fw : Nat} {fd : Nat → FuncData} (hf : ∀ (i : Nat) (dd : He.DefD), fnl[i]? = some dd → FunD K dd.name dd.qual dd.params dd.body dd.scope (dd.dvs K) (dd.kws K) (He.fAd K dd.at_) (fd i))
    (hr : ∀ (kk : Int) (b : Bx), 0 ≤ kk → kk < 4 → BxOk MM b → ∃ s', evalSs (evF defs con fw 40) con fw b_law ⟨env0 Nl.length 1 2 52 kk, b⟩ = .next s' ∧ s'.env[0]? = some (.v (.fn 52)) ∧ s'.env.length = Nl.length) :
    FnOk P w K mg base (L2.CX P w) 41 (He.ga K "law") (fd 52) ["script"] (spLaw K) := by
  have gm : ∀ x ∈ globs, mg x = some (.ref (He.ga K x)) := fun x hx => He.glo_ok KX Gn (c.facts (List.mem_append_left _ (List.mem_map_of_mem hx)))
  have fr : ∀ x ∈ frees, mg x = none := fun x hx => He.free_ok KX Gn (c.facts (List.mem_append_right _ (List.mem_append_left _ (List.mem_map_of_mem hx))))
  have FL := hf 52 d_law rfl
  have FC := hf 53 d__law_cell rfl
  have FB := hf 54 d__law_box rfl
  have ha : ∀ X : Cx, X.K = K → X.mg = mg → X.env.scope = d_law.scope → X.N = Nl → X.calm = true → PE X (match d_law.body with | .For _ (.Call _ [a] _ _) _ _ _ :: _ => a | _ => .Name "" ⟨0, 0, 0, 0⟩) (tArg K (4)) := fun X e1 e2 e3 e4 e5 => by
    subst e1 e2
    exact arg_int (by decide)
  exact law_ok (l := fl K) (M := MM) (m := 4) (fun z => lib KX Gn c ce hf z) FL sc_law (by decide +kernel) (by decide +kernel) (ib := 2) (by decide +kernel) (ik := 1) (by decide) (by decide) (by decide) (by decide +kernel) (by decide +kernel) (by decide +kernel) (by decide +kernel) (by decide +kernel) (by decide +kernel) (by decide +kernel) (fr "range" (by decide +kernel)) (gm "_law_cell" (by decide +kernel)) (gm "_law_box" (by decide +kernel)) FC.kp FB.kp (bd__law_cell FC) (bd__law_box FB)
    (cell_ok FC sc__law_cell (by decide) (by decide) (by decide +kernel) (by decide +kernel) (by decide +kernel) (by decide +kernel) (by decide +kernel) (fr "len" (by decide +kernel)) (fr "int" (by decide +kernel)) (fr "sum" (by decide +kernel))) (box_ok FB sc__law_box (by decide) (by decide +kernel) (by decide +kernel) (by decide +kernel) (fr "abs" (by decide +kernel)) (fr "int" (by decide +kernel))) rfl ha (by decide) (by decide) m_law hr
end
end HD
open PySem PySem.W PySem.Calls PyProof.Rows PV in
theorem HD.holds_of {fw : Nat}
    (hr : ∀ (kk : Int) (b : Bx), 0 ≤ kk → kk < 4 → BxOk HD.MM b → ∃ s', evalSs (evF HD.defs HD.con fw 40) HD.con fw HD.b_law ⟨env0 HD.Nl.length 1 2 52 kk, b⟩ = .next s' ∧ s'.env[0]? = some (.v (.fn 52)) ∧ s'.env.length = HD.Nl.length) : PySem.Challenge.rw_marketbench_k30_whole_durations_and_immu.Holds := by
  w_on; o_law
  refine HandSHeadRun.head_imp (r := OpenLaw.row PySem.Challenge.rw_marketbench_k30_whole_durations_and_immu) (q := view (OpenLaw.row PySem.Challenge.rw_marketbench_k30_whole_durations_and_immu).prog [0, 72]) (H := HD.hk) (ob := HD.ob) (M := 3000) (loose := HD.loose) (d := HandSHeadRun.topDef (OpenLaw.row PySem.Challenge.rw_marketbench_k30_whole_durations_and_immu).prog 72) (kwd := []) HD.ob_eq
    HD.run (by kernel_rfl) (by kernel_rfl) (by kernel_rfl) (by rfl) (by first | assumption | decide +kernel) (by decide +kernel) ⟨rfl, rfl, rfl, rfl, rfl, by decide +kernel⟩ ?hw ?hc
  case hw => w_witness2
  case hc =>
    refine L2.walk_ofE (l := PySem.Challenge.rw_marketbench_k30_whole_durations_and_immu) (n := 63) (k := 41) (x := "script") (CX := L2.CX0) rfl (by decide) (by kernel_rfl) ⟨rfl, by decide, by decide⟩ ?F (fun _ _ _ _ z => z)
    intro w mg fa h Y Gn hmg0
    obtain ⟨K, KX, c⟩ := Y
    have hmg : mg ("law" : PySem.Str) = some (.ref fa) := by
      have e : (HandSHeadRun.topDef (OpenLaw.row PySem.Challenge.rw_marketbench_k30_whole_durations_and_immu).prog 72).name = ("law" : PySem.Str) := by kernel_rfl
      rw [← e]
      exact hmg0
    have cd := c.t.d
    obtain ⟨fd, hf⟩ := HD.fds cd
    have e := hmg.symm.trans (He.glo_ok KX Gn (cd.facts (f := .glo "law") (List.mem_append_left _ (List.mem_map_of_mem (by decide +kernel)))))
    cases e
    have FL := hf 52 HD.d_law rfl
    exact ⟨K, fd 52, PV.spLaw K, KX, fun s u => L2.FunD.bindsA (ps := ["script"]) FL (fun _ _ _ _ _ _ us hl => match us, hl with | [_], _ => rfl) s [u] rfl, fun H a ns hl _ hS => ⟨a, ns, rfl, hS, fun _ => rfl⟩, fun base _ _ => PV.fn_calm (HD.law_fn KX Gn cd c.more hf hr) (fun vs H Q E ⟨a, ns, e, h, q⟩ => ⟨a, ns, e, h, q⟩)⟩

namespace HD
open PySem PySem.Spec PV

def sN_0 : PSt := (.par [(3, false), (4, false)] (.cons (.call 10 (.cons (.glob 1) (.cons (.call 17 (.cons (.slot 1) .nil)) .nil))) (.cons (.glob 0) .nil)))
def lN_1 : PSts := (.cons (.asg (.name 4) (.call 7 (.cons (.call 6 (.cons (.slot 2) .nil)) (.cons (.call 9 (.cons (.slot 3) (.cons (.slot 4) .nil))) .nil)))) .nil)
def sN_1 : PSt := (.for (.name 2) (.seq (.slRev (.slot 0))) lN_1)
def sN_2 : PSt := (.ret (.slot 4))
theorem eqNr : b_worth_now = (.cons sN_0 (.cons sN_1 (.cons sN_2 .nil))) := rfl

def sP_0 : PSt := (.par [(3, false), (4, false), (5, false)] (.cons (.call 34 (.cons (.tup (.cons (.int 1) (.cons (.int 1) .nil))) (.cons (.call 31 (.cons (.tup (.cons (.int 1) (.cons (.int 1) .nil))) (.cons (.slot 1) .nil))) .nil))) (.cons (.tup (.cons (.int 1) (.cons (.int 1) .nil))) (.cons (.tup (.cons (.int 0) (.cons (.int 1) .nil))) .nil))))
def lP_1 : PSts := (.cons (.asg (.name 5) (.call 31 (.cons (.slot 5) (.cons (.call 33 (.cons (.tup (.cons (.slot 2) (.cons (.int 1) .nil))) (.cons (.slot 4) .nil))) .nil)))) (.cons (.asg (.name 4) (.call 33 (.cons (.slot 4) (.cons (.slot 3) .nil)))) .nil))
def sP_1 : PSt := (.for (.name 2) (.seq (.slot 0)) lP_1)
def sP_2 : PSt := (.ret (.slot 5))
theorem eqPr : b__law_present = (.cons sP_0 (.cons sP_1 (.cons sP_2 .nil))) := rfl

def sW_0 : PSt := (.par [(4, false), (5, false)] (.cons (.bin .add (.int 1) (.call 27 (.cons (.slot 0) (.cons (.slot 1) .nil)))) (.cons (.call 27 (.cons (.slot 0) (.cons (.int 5) .nil))) .nil)))
def eW_0 : PX := (.bin .sub (.call 27 (.cons (.slot 0) (.cons (.bin .add (.bin .mul (.int 2) (.slot 2)) (.int 1)) .nil))) (.slot 2))
def sW_1 : PSt := (.own 3 (.comp eW_0 (.name 6) (.range1 (.slot 4))))
def eW_1 : PX := (.blt .abs (.cons (.slot 7) .nil))
def tW_2 : PTt := (.val (.cmp .eq (.slot 5) (.int 0)))
def sW_2 : PSt := (.iff tW_2 (.cons (.own 3 (.bin .add (.lst (.cons (.bin .sub (.neg (.blt .abs (.cons (.ix (.slot 3) (.int 0)) .nil))) (.int 1)) .nil)) (.comp eW_1 (.name 7) (.seq (.slLo (.slot 3) (.int 1)))))) .nil) .nil)
def eW_2 : PX := (.blt .abs (.cons (.slot 7) .nil))
def tW_3 : PTt := (.val (.cmp .eq (.slot 5) (.int 1)))
def sW_3 : PSt := (.iff tW_3 (.cons (.own 3 (.comp eW_2 (.name 7) (.seq (.slot 3)))) .nil) .nil)
def eW_3 : PX := (.bin .mul (.slot 7) (.blt .int (.cons (.cmp .gt (.call 27 (.cons (.slot 0) (.cons (.int 3) .nil))) (.int 0)) .nil)))
def tW_4 : PTt := (.val (.cmp .eq (.slot 5) (.int 2)))
def sW_4 : PSt := (.iff tW_4 (.cons (.own 3 (.comp eW_3 (.name 7) (.seq (.slot 3)))) .nil) .nil)
def tW_5 : PTt := (.val (.cmp .eq (.slot 5) (.int 3)))
def sW_5 : PSt := (.iff tW_5 (.cons (.set 3 (.bin .sub (.blt .len (.cons (.slot 3) .nil)) (.int 1)) (.bin .sub (.int 1000000) (.call 27 (.cons (.slot 0) (.cons (.int 9) .nil))))) .nil) .nil)
def sW_6 : PSt := (.ret (.blt .tuple (.cons (.slot 3) .nil)))
theorem eqWr : b__law_flow = (.cons sW_0 (.cons sW_1 (.cons sW_2 (.cons sW_3 (.cons sW_4 (.cons sW_5 (.cons sW_6 .nil))))))) := rfl

def sB_0 : PSt := (.asg (.name 2) (.call 27 (.cons (.slot 0) (.cons (.blt .len (.cons (.slot 1) .nil)) .nil))))
def sB_1 : PSt := (.asg (.name 3) (.ix (.lst (.cons .non (.cons (.bl true) (.cons (.str "1") (.cons (.tup (.cons (.int 1) .nil)) (.cons (.int 1000001) (.cons (.neg (.int 1000001)) (.cons (.tup (.cons (.int 1) (.cons (.int 2) .nil))) .nil)))))))) (.call 27 (.cons (.slot 0) (.cons (.int 7) .nil)))))
def sB_2 : PSt := (.ret (.ix (.lst (.cons (.blt .list (.cons (.slot 1) .nil)) (.cons (.tup .nil) (.cons (.bin .mul (.tup (.cons (.int 1) .nil)) (.int 13)) (.cons .non (.cons (.str "12") (.cons (.int 5) (.cons .dct0 (.cons (.bin .add (.bin .add (.slHi (.slot 1) (.slot 2)) (.tup (.cons (.slot 3) .nil))) (.slLo (.slot 1) (.bin .add (.slot 2) (.int 1)))) (.cons (.bin .add (.bin .add (.slHi (.slot 1) (.slot 2)) (.tup (.cons (.slot 3) .nil))) (.slLo (.slot 1) (.bin .add (.slot 2) (.int 1)))) .nil)))))))))) (.call 27 (.cons (.slot 0) (.cons (.int 9) .nil)))))
theorem eqBr : b__law_no_flow = (.cons sB_0 (.cons sB_1 (.cons sB_2 .nil))) := rfl

def sA_0 : PSt := (.expr (.call 14 (.cons (.slot 0) .nil)))
def tA_1 : PTt := (.bop false (.cons (.val (.cmp .lt (.blt .min2 (.cons (.slot 0) .nil)) (.int 0))) (.cons (.val (.cmp .eq (.blt .max2 (.cons (.slot 0) .nil)) (.int 0))) .nil)))
def sA_1 : PSt := (.iff tA_1 (.cons (.raise 0 1 (.cons (.slot 0) .nil)) .nil) .nil)
theorem eqAr : b_check_plain = (.cons sA_0 (.cons sA_1 .nil)) := rfl

def eV_0 : PX := (.bin .mul (.slot 4) (.slot 5))
def sV_0 : PSt := (.asg (.name 3) (.call 18 (.cons (.comp eV_0 (.tup [4, 5]) (.zip (.slot 0) (.slot 2))) (.cons (.slot 1) .nil))))
def sV_1 : PSt := (.ret (.call 10 (.cons (.slot 3) (.cons (.call 18 (.cons (.slot 0) (.cons (.slot 1) .nil))) .nil))))
theorem eqVr : b_average = (.cons sV_0 (.cons sV_1 .nil)) := rfl

def sU_0 : PSt := (.expr (.call 20 (.cons (.slot 0) .nil)))
def sU_1 : PSt := (.expr (.call 16 (.cons (.slot 1) .nil)))
def sU_2 : PSt := (.ret (.call 21 (.cons (.slot 0) (.cons (.slot 1) (.cons (.rngL (.blt .len (.cons (.slot 0) .nil))) .nil)))))
theorem eqUr : b_duration = (.cons sU_0 (.cons sU_1 (.cons sU_2 .nil))) := rfl

def sX_0 : PSt := (.expr (.call 20 (.cons (.slot 0) .nil)))
def sX_1 : PSt := (.expr (.call 16 (.cons (.slot 1) .nil)))
def sX_2 : PSt := (.asg (.name 2) (.call 17 (.cons (.slot 1) .nil)))
def eX_0 : PX := (.bin .mul (.slot 4) (.bin .add (.slot 4) (.int 1)))
def sX_3 : PSt := (.asg (.name 3) (.call 21 (.cons (.slot 0) (.cons (.slot 1) (.cons (.comp eX_0 (.name 4) (.range1 (.blt .len (.cons (.slot 0) .nil)))) .nil)))))
def sX_4 : PSt := (.ret (.call 10 (.cons (.slot 3) (.cons (.call 9 (.cons (.slot 2) (.cons (.slot 2) .nil))) .nil))))
theorem eqXr : b_convexity = (.cons sX_0 (.cons sX_1 (.cons sX_2 (.cons sX_3 (.cons sX_4 .nil))))) := rfl

def sT_0 : PSt := (.asg (.name 3) (.slot 0))
def lT_1 : PSts := (.cons (.asg (.name 3) (.call 9 (.cons (.slot 3) (.cons (.call 17 (.cons (.slot 1) .nil)) .nil)))) .nil)
def sT_1 : PSt := (.for (.name 4) (.range1 (.slot 2)) lT_1)
def sT_2 : PSt := (.ret (.slot 3))
theorem eqTr : b_later = (.cons sT_0 (.cons sT_1 (.cons sT_2 .nil))) := rfl

def sI_0 : PSt := (.expr (.call 20 (.cons (.slot 0) .nil)))
def sI_1 : PSt := (.expr (.call 16 (.cons (.slot 1) .nil)))
def tI_2 : PTt := (.bop false (.cons (.not (.val (.call 3 (.cons (.slot 2) (.cons (.int 2) (.cons (.int 0) (.cons (.glob 4) .nil))))))) (.cons (.val (.cmp .eq (.ix (.slot 2) (.int 0)) (.ix (.slot 2) (.int 1)))) .nil)))
def sI_2 : PSt := (.iff tI_2 (.cons (.raise 3 1 (.cons (.slot 2) .nil)) .nil) .nil)
def sI_3 : PSt := (.par [(5, false), (6, false)] (.cons (.call 18 (.cons (.slot 0) (.cons (.slot 1) .nil))) (.cons (.call 21 (.cons (.slot 0) (.cons (.slot 1) (.cons (.rngL (.blt .len (.cons (.slot 0) .nil))) .nil)))) .nil)))
def sI_4 : PSt := (.asg (.name 3) (.call 10 (.cons (.call 8 (.cons (.call 6 (.cons (.ix (.slot 2) (.int 1)) .nil)) (.cons (.slot 6) .nil))) (.cons (.call 6 (.cons (.bin .sub (.ix (.slot 2) (.int 1)) (.ix (.slot 2) (.int 0))) .nil)) .nil))))
def sI_5 : PSt := (.asg (.name 4) (.lst (.cons (.call 9 (.cons (.slot 5) (.cons (.slot 3) .nil))) (.cons (.call 9 (.cons (.slot 5) (.cons (.call 8 (.cons (.glob 1) (.cons (.slot 3) .nil))) .nil))) .nil))))
def eI_0 : PX := (.call 24 (.cons (.slot 7) (.cons (.slot 1) (.cons (.slot 8) .nil))))
def sI_6 : PSt := (.ret (.blt .tuple (.cons (.comp eI_0 (.tup [7, 8]) (.zip (.slot 4) (.slot 2))) .nil)))
theorem eqIr : b_immunized = (.cons sI_0 (.cons sI_1 (.cons sI_2 (.cons sI_3 (.cons sI_4 (.cons sI_5 (.cons sI_6 .nil))))))) := rfl

def sO_0 : PSt := (.expr (.call 14 (.cons (.slot 0) .nil)))
def sO_1 : PSt := (.expr (.call 14 (.cons (.slot 1) .nil)))
def eO_0 : PX := (.call 15 (.cons (.slot 3) .nil))
def tO_2 : PTt := (.bop false (.cons (.not (.val (.isi (.slot 2) .tuple))) (.cons (.not (.val (.chain .le .le (.int 1) (.blt .len (.cons (.slot 2) .nil)) (.glob 5)))) (.cons (.not (.val (.blt .all (.cons (.comp eO_0 (.name 3) (.seq (.slot 2))) .nil)))) .nil))))
def sO_2 : PSt := (.iff tO_2 (.cons (.raise 2 1 (.cons (.slot 2) .nil)) .nil) .nil)
def eO_1 : PX := (.call 12 (.cons (.call 18 (.cons (.slot 0) (.cons (.slot 3) .nil))) (.cons (.call 18 (.cons (.slot 1) (.cons (.slot 3) .nil))) .nil)))
def sO_3 : PSt := (.ret (.not (.blt .any (.cons (.comp eO_1 (.name 3) (.seq (.slot 2))) .nil))))
theorem eqOr : b_is_covered = (.cons sO_0 (.cons sO_1 (.cons sO_2 (.cons sO_3 .nil)))) := rfl

def eH_0 : PX := (.bin .mul (.slot 4) (.slot 5))
def sH_0 : PSt := (.asg (.name 3) (.call 40 (.cons (.comp eH_0 (.tup [4, 5]) (.zip (.slot 0) (.slot 2))) (.cons (.slot 1) .nil))))
def sH_1 : PSt := (.ret (.call 34 (.cons (.slot 3) (.cons (.call 40 (.cons (.slot 0) (.cons (.slot 1) .nil))) .nil))))
theorem eqHr : b__law_weighted = (.cons sH_0 (.cons sH_1 .nil)) := rfl

def sQ_0 : PSt := (.asg (.name 1) (.ite (.val (.cmp .eq (.call 27 (.cons (.slot 0) (.cons (.int 8) .nil))) (.int 0))) (.int 12) (.bin .add (.int 1) (.call 27 (.cons (.slot 0) (.cons (.int 8) .nil))))))
def eQ_0 : PX := (.bin .mul (.call 27 (.cons (.slot 0) (.cons (.ix (.lst (.cons (.int 4) (.cons (.int 90) (.cons (.int 900000) .nil)))) (.call 27 (.cons (.slot 0) (.cons (.int 3) .nil)))) .nil))) (.blt .int (.cons (.cmp .gt (.call 27 (.cons (.slot 0) (.cons (.int 4) .nil))) (.int 0)) .nil)))
def sQ_1 : PSt := (.own 2 (.comp eQ_0 (.name 3) (.range1 (.slot 1))))
def tQ_2 : PTt := (.val (.cmp .eq (.blt .max2 (.cons (.slot 2) .nil)) (.int 0)))
def sQ_2 : PSt := (.iff tQ_2 (.cons (.set 2 (.call 27 (.cons (.slot 0) (.cons (.slot 1) .nil))) (.bin .add (.int 1) (.call 27 (.cons (.slot 0) (.cons (.int 9) .nil))))) .nil) .nil)
def sQ_3 : PSt := (.ret (.blt .tuple (.cons (.slot 2) .nil)))
theorem eqQr : b__law_plain_flow = (.cons sQ_0 (.cons sQ_1 (.cons sQ_2 (.cons sQ_3 .nil)))) := rfl

def sK_0 : PSt := (.par [(4, false), (5, false)] (.cons (.slot 0) (.cons (.call 31 (.cons (.tup (.cons (.int 1) (.cons (.int 1) .nil))) (.cons (.slot 1) .nil))) .nil)))
def lK_1 : PSts := (.cons (.asg (.name 4) (.call 34 (.cons (.slot 4) (.cons (.slot 5) .nil)))) .nil)
def sK_1 : PSt := (.for (.name 3) (.range1 (.slot 2)) lK_1)
def sK_2 : PSt := (.ret (.slot 4))
theorem eqKr : b__law_back = (.cons sK_0 (.cons sK_1 (.cons sK_2 .nil))) := rfl

def eJ_0 : PX := (.slot 1)
def ceJ_0 : PTt := (.bop false (.cons (.not (.val (.isi (.slot 1) .int))) (.cons (.val (.isi (.slot 1) .bool)) .nil)))
def tJ_0 : PTt := (.bop false (.cons (.not (.val (.isi (.slot 0) .tuple))) (.cons (.val (.cmp .ne (.blt .len (.cons (.slot 0) .nil)) (.int 2))) (.cons (.val (.cmp .ne (.compIf eJ_0 (.name 1) (.seq (.slot 0)) ceJ_0) (.lst .nil))) .nil))))
def sJ_0 : PSt := (.iff tJ_0 (.cons (.ret (.bl false)) .nil) .nil)
def sJ_1 : PSt := (.ret (.bop true (.cons (.cmp .gt (.ix (.slot 0) (.int 1)) (.int 0)) (.cons (.cmp .eq (.call 29 (.cons (.ix (.slot 0) (.int 0)) (.cons (.ix (.slot 0) (.int 1)) .nil))) (.int 1)) .nil))))
theorem eqJr : b__law_is_fraction = (.cons sJ_0 (.cons sJ_1 .nil)) := rfl

def sY_0 : PSt := (.asg (.name 5) (.ite (.val (.cmp .eq (.call 27 (.cons (.slot 0) (.cons (.int 2) .nil))) (.int 0))) (.tup (.cons (.call 27 (.cons (.slot 0) (.cons (.int 41) .nil))) (.cons (.call 27 (.cons (.slot 0) (.cons (.int 41) .nil))) .nil))) (.tup (.cons (.call 27 (.cons (.slot 0) (.cons (.int 6) .nil))) (.cons (.bin .add (.int 4) (.call 27 (.cons (.slot 0) (.cons (.int 9) .nil)))) .nil)))))
def tY_1 : PTt := (.val (.cmp .eq (.ix (.slot 5) (.int 0)) (.ix (.slot 5) (.int 1))))
def sY_1 : PSt := (.iff tY_1 (.cons (.asg (.name 5) (.tup (.cons (.ix (.slot 5) (.int 0)) (.cons (.bin .mod (.bin .add (.ix (.slot 5) (.int 0)) (.int 1)) (.int 41)) .nil)))) .nil) .nil)
def sY_2 : PSt := (.asg (.name 6) (.call 47 (.cons (.int 2) (.cons (.slot 1) (.cons (.slot 2) (.cons (.slot 5) (.cons (.slot 4) .nil)))))))
def tY_3 : PTt := (.bop false (.cons (.not (.val (.isi (.slot 6) .tuple))) (.cons (.val (.cmp .ne (.blt .len (.cons (.slot 6) .nil)) (.int 2))) (.cons (.not (.val (.call 48 (.cons (.ix (.slot 6) (.int 0)) .nil)))) (.cons (.not (.val (.call 48 (.cons (.ix (.slot 6) (.int 1)) .nil)))) .nil)))))
def sY_3 : PSt := (.iff tY_3 (.cons (.ret (.bl false)) .nil) .nil)
def tY_4 : PTt := (.not (.val (.call 28 (.cons (.call 47 (.cons (.int 2) (.cons (.slot 1) (.cons (.slot 2) (.cons (.slot 5) (.cons (.not (.slot 4)) .nil)))))) (.cons (.slot 6) .nil)))))
def sY_4 : PSt := (.iff tY_4 (.cons (.ret (.bl false)) .nil) .nil)
def eY_0 : PX := (.call 46 (.cons (.ix (.slot 6) (.slot 10)) (.cons (.slot 2) (.cons (.ix (.slot 5) (.slot 10)) .nil))))
def sY_5 : PSt := (.asg (.name 7) (.comp eY_0 (.name 10) (.range1 (.int 2))))
def sY_6 : PSt := (.asg (.name 8) (.call 40 (.cons (.slot 1) (.cons (.slot 2) .nil))))
def tY_7 : PTt := (.val (.cmp .ne (.call 31 (.cons (.ix (.slot 7) (.int 0)) (.cons (.ix (.slot 7) (.int 1)) .nil))) (.slot 8)))
def sY_7 : PSt := (.iff tY_7 (.cons (.ret (.bl false)) .nil) .nil)
def tY_8 : PTt := (.val (.cmp .ne (.call 31 (.cons (.call 33 (.cons (.ix (.slot 7) (.int 0)) (.cons (.tup (.cons (.ix (.slot 5) (.int 0)) (.cons (.int 1) .nil))) .nil))) (.cons (.call 33 (.cons (.ix (.slot 7) (.int 1)) (.cons (.tup (.cons (.ix (.slot 5) (.int 1)) (.cons (.int 1) .nil))) .nil))) .nil))) (.call 33 (.cons (.slot 8) (.cons (.slot 3) .nil)))))
def sY_8 : PSt := (.iff tY_8 (.cons (.ret (.bl false)) .nil) .nil)
def sY_9 : PSt := (.asg (.name 9) (.bop true (.cons (.not (.call 36 (.cons (.slot 3) (.cons (.tup (.cons (.blt .min2 (.cons (.slot 5) .nil)) (.cons (.int 1) .nil))) .nil)))) (.cons (.not (.call 36 (.cons (.tup (.cons (.blt .max2 (.cons (.slot 5) .nil)) (.cons (.int 1) .nil))) (.cons (.slot 3) .nil)))) .nil))))
def sY_10 : PSt := (.ret (.cmp .eq (.bop true (.cons (.cmp .ge (.ix (.ix (.slot 6) (.int 0)) (.int 0)) (.int 0)) (.cons (.cmp .ge (.ix (.ix (.slot 6) (.int 1)) (.int 0)) (.int 0)) .nil))) (.slot 9)))
theorem eqYr : b__law_immunized_right = (.cons sY_0 (.cons sY_1 (.cons sY_2 (.cons sY_3 (.cons sY_4 (.cons sY_5 (.cons sY_6 (.cons sY_7 (.cons sY_8 (.cons sY_9 (.cons sY_10 .nil))))))))))) := rfl

def sZ_0 : PSt := (.par [(11, false), (12, false)] (.cons (.call 41 (.cons (.slot 0) (.cons (.slot 1) .nil))) (.cons (.call 43 (.cons (.slot 0) .nil)) .nil)))
def sZ_1 : PSt := (.asg (.name 5) (.ix (.lst (.cons (.lst (.cons (.int 0) (.cons (.int 1) .nil))) (.cons (.tup (.cons (.int 0) (.cons (.int 0) .nil))) (.cons (.tup (.cons (.int 0) (.cons (.int 41) .nil))) (.cons (.tup (.cons (.neg (.int 1)) (.cons (.int 3) .nil))) (.cons (.tup (.cons (.int 1) .nil)) (.cons (.tup (.cons (.int 1) (.cons (.int 2) (.cons (.int 3) .nil)))) (.cons .non (.cons (.str "01") (.cons (.tup (.cons (.bl true) (.cons (.int 2) .nil))) (.cons (.tup (.cons (.int 1) (.cons .non .nil))) .nil))))))))))) (.call 27 (.cons (.slot 0) (.cons (.int 10) .nil)))))
def sZ_2 : PSt := (.asg (.name 6) (.ix (.lst (.cons (.lst .nil) (.cons (.tup .nil) (.cons (.lst (.cons (.tup (.cons (.int 0) (.cons (.int 1) .nil))) .nil)) (.cons (.tup (.cons (.tup (.cons (.neg (.int 1)) (.cons (.int 1) .nil))) .nil)) (.cons (.bin .mul (.tup (.cons (.tup (.cons (.int 0) (.cons (.int 1) .nil))) .nil)) (.int 21)) (.cons .non (.cons (.str "r") (.cons (.tup (.cons (.tup (.cons (.int 0) (.cons (.int 1) .nil))) (.cons (.int 5) .nil))) (.cons (.tup (.cons (.tup (.cons (.int 2) (.cons (.int 4) .nil))) .nil)) (.cons (.tup (.cons (.int 0) (.cons (.int 1) .nil))) .nil))))))))))) (.call 27 (.cons (.slot 0) (.cons (.int 10) .nil)))))
def sZ_3 : PSt := (.asg (.name 7) (.ix (.lst (.cons (.bin .mul (.tup (.cons (.int 0) .nil)) (.blt .len (.cons (.slot 1) .nil))) (.cons (.bin .add (.slHi (.slot 1) (.neg (.int 1))) (.tup (.cons (.neg (.int 1)) .nil))) (.cons (.tup (.cons (.neg (.int 1)) .nil)) .nil)))) (.call 27 (.cons (.slot 0) (.cons (.int 3) .nil)))))
def sZ_4 : PSt := (.asg (.name 8) (.call 41 (.cons (.slot 0) (.cons (.slot 3) .nil))))
def sZ_5 : PSt := (.asg (.name 9) (.lst .nil))
def lZ_6 : PSts := (.cons (.asg (.name 9) (.bin .add (.slot 9) (.lst (.cons (.call 47 (.cons (.slot 10) (.cons (.slot 11) (.cons (.slot 12) (.cons (.slot 5) (.cons (.slot 4) .nil)))))) (.cons (.call 47 (.cons (.slot 10) (.cons (.slot 7) (.cons (.slot 12) (.cons (.slot 5) (.cons (.not (.slot 4)) .nil)))))) (.cons (.call 47 (.cons (.slot 10) (.cons (.slot 1) (.cons (.slot 12) (.cons (.slot 5) (.cons (.slot 4) .nil)))))) .nil)))))) .nil)
def sZ_6 : PSt := (.for (.name 10) (.range1 (.int 3)) lZ_6)
def tZ_7 : PTt := (.not (.val (.call 28 (.cons (.slot 9) (.cons (.bin .mul (.lst (.cons (.lst (.cons (.str "flow") (.cons (.slot 11) .nil))) (.cons (.lst (.cons (.str "flow") (.cons (.slot 7) .nil))) (.cons (.lst (.cons (.str "rate") (.cons (.slot 12) .nil))) .nil)))) (.int 3)) .nil)))))
def sZ_7 : PSt := (.iff tZ_7 (.cons (.ret (.bl false)) .nil) .nil)
def sZ_8 : PSt := (.asg (.name 9) (.lst (.cons (.call 47 (.cons (.int 2) (.cons (.slot 1) (.cons (.slot 2) (.cons (.slot 5) (.cons (.slot 4) .nil)))))) (.cons (.call 47 (.cons (.int 3) (.cons (.slot 11) (.cons (.slot 8) (.cons (.slot 6) (.cons (.slot 4) .nil)))))) (.cons (.call 47 (.cons (.int 3) (.cons (.slot 1) (.cons (.slot 8) (.cons (.slot 6) (.cons (.not (.slot 4)) .nil)))))) (.cons (.call 47 (.cons (.int 3) (.cons (.slot 7) (.cons (.slot 3) (.cons (.slot 6) (.cons (.slot 4) .nil)))))) .nil))))))
def sZ_9 : PSt := (.ret (.call 28 (.cons (.slot 9) (.cons (.lst (.cons (.lst (.cons (.str "times") (.cons (.slot 5) .nil))) (.cons (.lst (.cons (.str "flow") (.cons (.slot 11) .nil))) (.cons (.lst (.cons (.str "flow") (.cons (.slot 8) .nil))) (.cons (.lst (.cons (.str "rates") (.cons (.slot 6) .nil))) .nil))))) .nil))))
theorem eqZr : b__law_refusals_right = (.cons sZ_0 (.cons sZ_1 (.cons sZ_2 (.cons sZ_3 (.cons sZ_4 (.cons sZ_5 (.cons sZ_6 (.cons sZ_7 (.cons sZ_8 (.cons sZ_9 .nil)))))))))) := rfl

def sR_0 : PSt := (.asg (.tup [7, 8, 9]) (.tup (.cons (.call 45 (.cons (.slot 0) .nil)) (.cons (.call 39 (.cons (.slot 0) .nil)) (.cons (.cmp .eq (.call 27 (.cons (.slot 0) (.cons (.int 2) .nil))) (.int 0)) .nil)))))
def sR_1 : PSt := (.par [(10, false), (11, false)] (.cons (.blt .len (.cons (.slot 7) .nil)) (.cons (.call 31 (.cons (.tup (.cons (.int 1) (.cons (.int 1) .nil))) (.cons (.slot 8) .nil))) .nil)))
def sR_2 : PSt := (.asg (.name 1) (.call 44 (.cons (.slot 7) (.cons (.slot 8) (.cons (.rngL (.slot 10)) .nil)))))
def eR_0 : PX := (.bin .mul (.slot 14) (.bin .add (.slot 14) (.int 1)))
def sR_3 : PSt := (.asg (.name 2) (.call 34 (.cons (.call 44 (.cons (.slot 7) (.cons (.slot 8) (.cons (.comp eR_0 (.name 14) (.range1 (.slot 10))) .nil)))) (.cons (.call 33 (.cons (.slot 11) (.cons (.slot 11) .nil))) .nil))))
def sR_4 : PSt := (.asg (.name 3) (.lst (.cons (.call 47 (.cons (.int 0) (.cons (.slot 7) (.cons (.slot 8) (.cons .non (.cons (.slot 9) .nil)))))) (.cons (.call 47 (.cons (.int 0) (.cons (.slot 7) (.cons (.slot 8) (.cons .non (.cons (.not (.slot 9)) .nil)))))) (.cons (.call 47 (.cons (.int 1) (.cons (.slot 7) (.cons (.slot 8) (.cons .non (.cons (.slot 9) .nil)))))) (.cons (.call 47 (.cons (.int 1) (.cons (.slot 7) (.cons (.slot 8) (.cons .non (.cons (.not (.slot 9)) .nil)))))) .nil))))))
def tR_5 : PTt := (.not (.val (.call 28 (.cons (.slot 3) (.cons (.lst (.cons (.slot 1) (.cons (.slot 1) (.cons (.slot 2) (.cons (.slot 2) .nil))))) .nil)))))
def sR_5 : PSt := (.iff tR_5 (.cons (.ret (.bl false)) .nil) .nil)
def tR_6 : PTt := (.bop false (.cons (.not (.val (.call 49 (.cons (.slot 0) (.cons (.slot 7) (.cons (.slot 8) (.cons (.slot 1) (.cons (.slot 9) .nil)))))))) (.cons (.not (.val (.call 49 (.cons (.slot 0) (.cons (.slot 7) (.cons (.slot 8) (.cons (.slot 1) (.cons (.not (.slot 9)) .nil)))))))) .nil)))
def sR_6 : PSt := (.iff tR_6 (.cons (.ret (.bl false)) .nil) .nil)
def sR_7 : PSt := (.asg (.name 4) (.ite (.val (.cmp .gt (.call 27 (.cons (.slot 0) (.cons (.int 3) .nil))) (.int 0))) (.call 38 (.cons (.slot 0) (.cons (.int 8) (.cons (.ix (.lst (.cons (.int 4) (.cons (.int 90) .nil))) (.call 27 (.cons (.slot 0) (.cons (.int 2) .nil)))) .nil)))) (.slot 7)))
def tR_8 : PTt := (.val (.cmp .eq (.call 27 (.cons (.slot 0) (.cons (.int 3) .nil))) (.int 0)))
def sR_8 : PSt := (.iff tR_8 (.cons (.asg (.name 4) (.bin .add (.slHi (.slot 7) (.neg (.int 1))) (.tup (.cons (.bin .sub (.ix (.slot 7) (.neg (.int 1))) (.int 1)) .nil)))) .nil) .nil)
def eR_1 : PX := (.call 39 (.cons (.slot 0) .nil))
def sR_9 : PSt := (.asg (.name 5) (.blt .tuple (.cons (.comp eR_1 (.name 12) (.range1 (.bin .add (.int 1) (.call 27 (.cons (.slot 0) (.cons (.int 4) .nil)))))) .nil)))
def eR_2 : PX := (.slot 13)
def ceR_2 : PTt := (.val (.call 36 (.cons (.call 40 (.cons (.slot 7) (.cons (.slot 13) .nil))) (.cons (.call 40 (.cons (.slot 4) (.cons (.slot 13) .nil))) .nil))))
def sR_10 : PSt := (.asg (.name 6) (.cmp .eq (.compIf eR_2 (.name 13) (.seq (.slot 5)) ceR_2) (.lst .nil)))
def tR_11 : PTt := (.not (.val (.call 28 (.cons (.lst (.cons (.call 47 (.cons (.int 3) (.cons (.slot 7) (.cons (.slot 4) (.cons (.slot 5) (.cons (.slot 9) .nil)))))) (.cons (.call 47 (.cons (.int 3) (.cons (.slot 7) (.cons (.slot 4) (.cons (.slot 5) (.cons (.not (.slot 9)) .nil)))))) .nil))) (.cons (.lst (.cons (.slot 6) (.cons (.slot 6) .nil))) .nil)))))
def sR_11 : PSt := (.iff tR_11 (.cons (.ret (.bl false)) .nil) .nil)
def tR_12 : PTt := (.not (.val (.call 28 (.cons (.call 19 (.cons (.slot 7) (.cons (.slot 8) .nil))) (.cons (.call 40 (.cons (.slot 7) (.cons (.slot 8) .nil))) .nil)))))
def sR_12 : PSt := (.iff tR_12 (.cons (.ret (.bl false)) .nil) .nil)
def sR_13 : PSt := (.ret (.call 51 (.cons (.slot 0) (.cons (.slot 7) (.cons (.slot 8) (.cons (.slot 4) (.cons (.slot 9) .nil)))))))
theorem eqRr : b__law_right = (.cons sR_0 (.cons sR_1 (.cons sR_2 (.cons sR_3 (.cons sR_4 (.cons sR_5 (.cons sR_6 (.cons sR_7 (.cons sR_8 (.cons sR_9 (.cons sR_10 (.cons sR_11 (.cons sR_12 (.cons sR_13 .nil)))))))))))))) := rfl

section
variable {fw : Nat}
abbrev E (fw k : Nat) : FT := evF defs con fw k
theorem con0 : HD.con 0 = qD 0 := rfl
theorem con1 : HD.con 1 = qD 1 := rfl
theorem con2 : HD.con 2 = .int 12 := rfl
theorem con3 : HD.con 3 = .int 1000000 := rfl
theorem con4 : HD.con 4 = .int 40 := rfl
theorem con5 : HD.con 5 = .int 20 := rfl
theorem L0 (k) : IntAt (E fw (k + 3)) 0 := fun d b h => (ev_def rfl).trans (run_isInt h)
theorem L1 (k) : BetAt (E fw (k + 4)) 1 := fun d lo hi b h => (ev_def (k := k + 1) rfl).trans (run_betw (L0 k) h)
theorem L2 (k) : TupAt (E fw (k + 3)) 2 := fun d n b h => (ev_def rfl).trans (run_isTup h)
theorem L3 (k) : RowAt (E fw (k + 5)) 3 := fun d n lo hi b h1 h2 => (ev_def (k := k + 2) rfl).trans (run_row (L2 (k + 1)) (L1 k) h1 h2)
theorem L4 (k) : FrAt (E fw (k + 4)) 4 := fun d b h => (ev_def (k := k + 1) rfl).trans (run_isFrac (L2 k) (L0 k) h)
theorem L5 (k) : LowAt (E fw (k + 3)) 5 := fun i j bx h1 h2 => (ev_def rfl).trans (run_lowest h1 h2)
theorem L6 (k) {i : Int} {b : Bx} : E fw (k + 3) 6 [.int i] b = .ok (qD (i : Rat)) b := (ev_def rfl).trans (by
  rw [show qD (i : Rat) = .tup [.int i, .int 1] from rfl]
  simp [runF, b_whole, evalSs, evalS, evalE, evalEs, bindS, bindR, retR, slotE, big2])

theorem L7 (k) : AddAt (E fw (k + 4)) 7 := fun p q n m bx h1 h2 h3 => (ev_def (k := k + 1) rfl).trans (run_add (L5 k) h1 h2 h3)
theorem L8 (k) : SubAt (E fw (k + 4)) 8 := fun p q n m bx h1 h2 h3 => (ev_def (k := k + 1) rfl).trans (run_sub (L5 k) h1 h2 h3)
theorem L9 (k) : MulAt (E fw (k + 4)) 9 := fun p q n m bx h1 h2 h3 => (ev_def (k := k + 1) rfl).trans (run_mul (L5 k) h1 h2 h3)
theorem L10 (k) : DivAt (E fw (k + 4)) 10 := fun p q n m bx h1 h2 h3 h4 => (ev_def (k := k + 1) rfl).trans (run_div (L5 k) h1 h2 h3 h4)
theorem L11 (k) {p q : Rat} {n m : Nat} {b : Bx} (hp : Sz n p) (hq : Sz m q) (h : n + m ≤ 8000) : E fw (k + 3) 11 [qD p, qD q] b = .ok (.int ((if q < p then 1 else 0) - (if p < q then 1 else 0))) b := (ev_def rfl).trans (by
  have c1 : mulOk p.num q.den = true := mulOk_sz hp.1 (by simpa using hq.2) (by omega)
  have c2 : mulOk q.num p.den = true := mulOk_sz hq.1 (by simpa using hp.2) (by omega)
  have e1 : (p < q) = (p.num * q.den < q.num * p.den) := propext (Rat.lt_iff p q)
  have e2 : (q < p) = (q.num * p.den < p.num * q.den) := propext (Rat.lt_iff q p)
  unfold qD
  simp only [e1, e2]
  by_cases h1 : q.num * p.den < p.num * q.den <;> by_cases h2 : p.num * q.den < q.num * p.den <;> simp [runF, b_compare, evalSs, evalS, evalE, evalEs, evalPs, evalT, evalTB, bindS, bindR, retR, optR, slotE, slotP, pk, truR, truD, callR, ixD, at0, at1, binD, c1, c2, storeL, cpD, bltD, h1, h2])
theorem L12 (k) {p q : Rat} {n m : Nat} {b : Bx} (hp : Sz n p) (hq : Sz m q) (h : n + m ≤ 8000) : E fw (k + 4) 12 [qD p, qD q] b = .ok (.bl (decide (p < q))) b := (ev_def (k := k + 1) rfl).trans (by
  have e := L11 (fw := fw) k (b := b) hp hq h
  have hh : ∀ a c : Prop, [Decidable a] → [Decidable c] → (a → ¬ c) → decide (((if a then (1 : Int) else 0) - (if c then 1 else 0)) < 0) = decide c := fun a c _ _ hn => by
    by_cases ha : a <;> by_cases hc : c <;> simp [ha, hc]
    exact hn ha hc
  have h2 := hh (q < p) (p < q) fun z => Rat.not_lt.mpr (Rat.le_of_lt z)
  simp only [runF, b_is_less, List.length_cons, List.length_nil]
  simp [evalSs, evalS, evalE, evalEs, bindS, bindR, retR, optR, slotE, slotP, pk, callR, e, cpD]
  exact decide_eq_decide.mp h2)
theorem L13 (k) : FlowAt (E fw (k + 6)) 13 := fun d b h => (ev_def (k := k + 3) rfl).trans (run_isFlow (L3 k) con2 con3 h)
theorem L14 (k) : ChkFlAt (E fw (k + 7)) 14 0 := fun d b h => (ev_def (k := k + 4) rfl).trans (run_chkFl (L13 k) h)
theorem L15 (k) : RateAt (E fw (k + 5)) 15 := fun d b h => (ev_def (k := k + 2) rfl).trans (run_isRate (L4 k) h)
theorem L16 (k) : ChkRAt (E fw (k + 6)) 16 1 := fun d b h => (ev_def (k := k + 3) rfl).trans (run_chkR (L15 k) h)
theorem L17 (k) : FacAt (E fw (k + 5)) 17 := fun r n b h1 h2 => (ev_def (k := k + 2) rfl).trans (run_factor (L7 k) rfl h1 h2)

theorem sz11 {r : Rat} (h : Sz 9 r) : Sz 11 (1 + r) := (sz1.add h).mono (by omega)

section
variable {F : FT} {b : Bx} {x y z : D} {r : Rat} {fs : List Int}

def WhAt (F : FT) (i : Nat) : Prop := ∀ (x : Int) (b : Bx), F i [.int x] b = .ok (qD (x : Rat)) b

theorem asg1 {i : Nat} {d : D} {env : List Sl} {b : Bx} (h : i < env.length) : asgT (.name i) d ⟨env, b⟩ = some ⟨env.set i (.v d), b⟩ := if_pos h

theorem now_loop (hW : WhAt F 6) (hA : AddAt F 7) (hM : MulAt F 9) {s : Rat} (hs : Sz 12 s) {x0 x1 : Sl} : ∀ (ys : List Int) {zs : List Int} {y : Sl}, (∀ x ∈ ys, -132000000 ≤ x ∧ x ≤ 132000000) → (∀ x ∈ zs, -132000000 ≤ x ∧ x ≤ 132000000) → ys.length + zs.length ≤ 12 → ∃ y', loopF (.name 2) (evalSs F HD.con fw lN_1) (ys.map D.int) ⟨[x0, x1, y, .v (qD s), .v (qD (wQ s zs))], b⟩ = .next ⟨[x0, x1, y', .v (qD s), .v (qD (wQ s (ys.reverse ++ zs)))], b⟩
  | [], zs, y, _, _, _ => ⟨y, rfl⟩
  | x :: ys, zs, y, h1, h2, h3 => by
    rw [List.length_cons] at h3
    have hx := h1 x List.mem_cons_self
    have zw := wQ_szB hs h2
    have e1 := hM s (wQ s zs) _ _ b hs zw (by omega)
    have e2 := hA (x : Rat) (s * wQ s zs) _ _ b (int_szB hx) (hs.mul zw) (by omega)
    have e0 := hW x b
    obtain ⟨y', e3⟩ := now_loop hW hA hM hs (x0 := x0) (x1 := x1) ys (zs := x :: zs) (y := .v (.int x)) (fun z hz => h1 z (List.mem_cons_of_mem _ hz)) (fun z hz => by
      rcases List.mem_cons.mp hz with rfl | hz
      · exact hx
      · exact h2 z hz) (by rw [List.length_cons]; omega)
    refine ⟨y', ?_⟩
    have e2' : F 7 [qD (x : Rat), qD (s * wQ s zs)] b = .ok (qD (wQ s (x :: zs))) b := e2
    have eb : evalSs F HD.con fw lN_1 ⟨[x0, x1, .v (.int x), .v (qD s), .v (qD (wQ s zs))], b⟩ = .next ⟨[x0, x1, .v (.int x), .v (qD s), .v (qD (wQ s (x :: zs)))], b⟩ := by
      simp [lN_1, evalSs, evalS, evalE, evalEs, bindS, bindR, retR, slotE, callR, e0, e1, e2', asgT]
    rw [List.map_cons]
    unfold loopF
    rw [asg1 (by simp)]
    dsimp only [List.set_cons_succ, List.set_cons_zero]
    rw [eb]
    dsimp only
    rw [e3]
    simp

theorem n18 (hW : WhAt F 6) (hA : AddAt F 7) (hM : MulAt F 9) (hD : DivAt F 10) (hf : FacAt F 17) {d : D} (hd : SeqI d fs) (h : Bg fs) (h9 : Sz 9 r) (hr : 0 < 1 + r) : runF F HD.con fw ⟨2, 5, b_worth_now⟩ [d, qD r] b = .ok (qD (wQ (1 / (1 + r)) fs)) b := by
  have zs : Sz 12 (1 / (1 + r)) := sz1.div (sz11 h9) (num_ne hr)
  have e1 := hf r 9 b h9 (by omega)
  have e2 := hD 1 (1 + r) 1 11 b sz1 (sz11 h9) (by omega) (num_ne hr)
  obtain ⟨y', e3⟩ := now_loop (fw := fw) (b := b) hW hA hM zs (x0 := .v (d)) (x1 := .v (qD r)) fs.reverse (zs := []) (y := .no) (fun x hx => h.2 x (List.mem_reverse.mp hx)) (by simp) (by rw [List.length_reverse]; have := h.1; simpa using this)
  rw [List.reverse_reverse, List.append_nil] at e3
  refine run_of rfl ?_
  rw [eqNr]
  refine sq (s' := ⟨[.v (d), .v (qD r), .no, .v (qD (1 / (1 + r))), .v (qD 0)], b⟩) ?_ (sq (s' := ⟨[.v (d), .v (qD r), y', .v (qD (1 / (1 + r))), .v (qD (wQ (1 / (1 + r)) fs))], b⟩) ?_ (sr (ev_ret (ev_slot (s := ⟨[.v (d), .v (qD r), y', .v (qD (1 / (1 + r))), .v (qD (wQ (1 / (1 + r)) fs))], b⟩) rfl))))
  · simp [sN_0, evalSs, evalS, evalE, evalEs, evalPs, evalT, evalTB, bindS, bindR, retR, optR, slotE, slotP, pk, truR, truD, callR, e1, e2, con0, con1, storeL]
  · unfold sN_1
    have eI : evalI F HD.con (.seq (.slRev (.slot 0))) ⟨[.v (d), .v (qD r), .no, .v (qD (1 / (1 + r))), .v (qD 0)], b⟩ = .ok (fs.reverse.map D.int) ⟨[.v (d), .v (qD r), .no, .v (qD (1 / (1 + r))), .v (qD 0)], b⟩ := by
      rw [List.map_reverse]
      rcases hd with rfl | rfl <;> simp [evalI, evalE, bindR, optR, slotP, pk, revD, seqD]
    rw [ev_for eI]
    exact e3

theorem pres_loop (hA : AddAt F 31) (hM : MulAt F 33) {s : Rat} (hs : Sz 12 s) {x0 x1 : Sl} : ∀ (zs : List Int) {pw f : Rat} {mp mf : Nat} {y : Sl}, (∀ x ∈ zs, -132000000 ≤ x ∧ x ≤ 132000000) → Sz mp pw → Sz mf f → mp + 12 * zs.length ≤ 200 → mf + 230 * zs.length ≤ 4000 → ∃ y' pw', loopF (.name 2) (evalSs F HD.con fw lP_1) (zs.map D.int) ⟨[x0, x1, y, .v (qD s), .v (qD pw), .v (qD f)], b⟩ = .next ⟨[x0, x1, y', .v (qD s), pw', .v (qD (f + pw * wQ s zs))], b⟩
  | [], pw, f, mp, mf, y, _, _, _, _, _ => ⟨y, .v (qD pw), by
    have : f + pw * wQ s [] = f := by rw [wQ]; grind
    rw [this]; rfl⟩
  | x :: zs, pw, f, mp, mf, y, h1, hp, hf, h3, h4 => by
    rw [List.length_cons] at h3 h4
    have hx := h1 x List.mem_cons_self
    have zx := int_szB hx
    have e1 : F 33 [.tup [.int x, .int 1], qD pw] b = .ok (qD ((x : Rat) * pw)) b := hM (x : Rat) pw _ _ b zx hp (by omega)
    have e2 := hA f ((x : Rat) * pw) _ _ b hf (zx.mul hp) (by omega)
    have e3 := hM pw s _ _ b hp hs (by omega)
    obtain ⟨y', pw', e4⟩ := pres_loop hA hM hs (x0 := x0) (x1 := x1) zs (pw := pw * s) (f := f + (x : Rat) * pw) (mp := mp + 12) (mf := mf + (27 + mp) + 1) (y := .v (.int x)) (fun z hz => h1 z (List.mem_cons_of_mem _ hz)) (hp.mul hs) (hf.add (zx.mul hp)) (by omega) (by omega)
    refine ⟨y', pw', ?_⟩
    have q : f + (x : Rat) * pw + pw * s * wQ s zs = f + pw * wQ s (x :: zs) := by rw [wQ]; grind
    rw [q] at e4
    have eb : evalSs F HD.con fw lP_1 ⟨[x0, x1, .v (.int x), .v (qD s), .v (qD pw), .v (qD f)], b⟩ = .next ⟨[x0, x1, .v (.int x), .v (qD s), .v (qD (pw * s)), .v (qD (f + (x : Rat) * pw))], b⟩ := by
      simp [lP_1, evalSs, evalS, evalE, evalEs, bindS, bindR, retR, slotE, callR, e1, e2, e3, asgT, big2]
    rw [List.map_cons]
    unfold loopF
    rw [asg1 (by simp)]
    dsimp only [List.set_cons_succ, List.set_cons_zero]
    rw [eb]
    exact e4

theorem p40 (hA : AddAt F 31) (hM : MulAt F 33) (hD : DivAt F 34) {d : D} (hd : SeqI d fs) (h : Bg fs) (h9 : Sz 9 r) (hr : 0 < 1 + r) : runF F HD.con fw ⟨2, 6, b__law_present⟩ [d, qD r] b = .ok (qD (wQ (1 / (1 + r)) fs)) b := by
  have zs : Sz 12 (1 / (1 + r)) := sz1.div (sz11 h9) (num_ne hr)
  have e1 : F 31 [.tup [.int 1, .int 1], qD r] b = .ok (qD (1 + r)) b := hA 1 r 1 9 b sz1 h9 (by omega)
  have e2 : F 34 [.tup [.int 1, .int 1], qD (1 + r)] b = .ok (qD (1 / (1 + r))) b := hD 1 (1 + r) 1 11 b sz1 (sz11 h9) (by omega) (num_ne hr)
  have h12 := h.1
  obtain ⟨y', pw', e3⟩ := pres_loop (fw := fw) (b := b) hA hM zs (x0 := .v (d)) (x1 := .v (qD r)) fs (pw := 1) (f := 0) (mp := 1) (mf := 1) (y := .no) h.2 sz1 sz0 (by omega) (by omega)
  have q : (0 : Rat) + 1 * wQ (1 / (1 + r)) fs = wQ (1 / (1 + r)) fs := by grind
  rw [q] at e3
  refine run_of rfl ?_
  rw [eqPr]
  refine sq (s' := ⟨[.v (d), .v (qD r), .no, .v (qD (1 / (1 + r))), .v (qD 1), .v (qD 0)], b⟩) ?_ (sq (s' := ⟨[.v (d), .v (qD r), y', .v (qD (1 / (1 + r))), pw', .v (qD (wQ (1 / (1 + r)) fs))], b⟩) ?_ (sr (ev_ret (ev_slot (s := ⟨[.v (d), .v (qD r), y', .v (qD (1 / (1 + r))), pw', .v (qD (wQ (1 / (1 + r)) fs))], b⟩) rfl))))
  · rw [show qD 0 = .tup [.int 0, .int 1] from rfl, show qD 1 = .tup [.int 1, .int 1] from rfl]
    simp [sP_0, evalSs, evalS, evalE, evalEs, evalPs, evalT, evalTB, bindS, bindR, retR, optR, slotE, slotP, pk, truR, truD, callR, e1, e2, storeL, big2]
  · unfold sP_1
    have eI : evalI F HD.con (.seq (.slot 0)) ⟨[.v d, .v (qD r), .no, .v (qD (1 / (1 + r))), .v (qD 1), .v (qD 0)], b⟩ = .ok (fs.map D.int) ⟨[.v d, .v (qD r), .no, .v (qD (1 / (1 + r))), .v (qD 1), .v (qD 0)], b⟩ := by
      rcases hd with rfl | rfl <;> simp [evalI, evalE, bindR, optR, slotE, seqD]
    rw [ev_for eI]
    exact e3

def NowAt (F : FT) (i : Nat) : Prop := ∀ (d : D) (fs : List Int) (r : Rat) (b : Bx), SeqI d fs → Bg fs → Sz 9 r → 0 < 1 + r → F i [d, qD r] b = .ok (qD (wQ (1 / (1 + r)) fs)) b
theorem L18 (k) : NowAt (E fw (k + 8)) 18 := fun d fs r b hd h h9 hr => (ev_def (k := k + 5) rfl).trans (n18 (fun x b => L6 (k + 4)) (L7 (k + 3)) (L9 (k + 3)) (L10 (k + 3)) (L17 (k + 2)) hd h h9 hr)

theorem a19_f (hC : ChkFlAt F 14 0) (h1 : nf1 x = true) (h2 : flowB x = false) : runF F HD.con fw ⟨2, 2, b_present⟩ [x, y] b = .exc 0 [x] b := by
  have e := hC x b h1
  rw [h2] at e
  simp [runF, b_present, evalSs, evalS, evalE, evalEs, evalPs, evalT, evalTB, bindS, bindR, retR, optR, slotE, slotP, pk, truR, truD, callR, e]

theorem a19_r (hC : ChkFlAt F 14 0) (hR : ChkRAt F 16 1) (h : Fl fs) (h1 : nf1 y = true) (h2 : rateB y = false) : runF F HD.con fw ⟨2, 2, b_present⟩ [flD fs, y] b = .exc 1 [y] b := by
  have e := hC (flD fs) b (nf1_fl fs)
  rw [h.good, if_pos rfl] at e
  have e2 := hR y b h1
  rw [h2] at e2
  simp [runF, b_present, evalSs, evalS, evalE, evalEs, evalPs, evalT, evalTB, bindS, bindR, retR, optR, slotE, slotP, pk, truR, truD, callR, e, e2]

theorem a19_ok (hC : ChkFlAt F 14 0) (hR : ChkRAt F 16 1) (hN : NowAt F 18) (h : Fl fs) (h9 : Sz 9 r) (hr : 0 < 1 + r) : runF F HD.con fw ⟨2, 2, b_present⟩ [flD fs, qD r] b = .ok (qD (wQ (1 / (1 + r)) fs)) b := by
  have e := hC (flD fs) b (nf1_fl fs)
  rw [h.good, if_pos rfl] at e
  have e2 := hR (qD r) b (nf1_qD r)
  rw [rate_of.mpr hr, if_pos rfl] at e2
  have e3 := hN (flD fs) fs r b (.inl rfl) h.bg h9 hr
  simp [runF, b_present, evalSs, evalS, evalE, evalEs, evalPs, evalT, evalTB, bindS, bindR, retR, optR, slotE, slotP, pk, truR, truD, callR, e, e2, e3]

structure NoFl (x : D) : Prop where
  nf : nf1 x = true
  fl : flowB x = false
  pl : PlC 3 x

theorem L19o (k) (h : Fl fs) (h9 : Sz 9 r) (hr : 0 < 1 + r) : E fw (k + 9) 19 [flD fs, qD r] b = .ok (qD (wQ (1 / (1 + r)) fs)) b := (ev_def (k := k + 6) rfl).trans (a19_ok (L14 (k + 1)) (L16 (k + 2)) (L18 k) h h9 hr)
theorem nf_fl (h : Fl fs) : nf1 (flD fs) = true := nf1_fl fs
/-- a value that is no plain flow -/
structure NoPl (x : D) : Prop where
  nf : nf1 x = true
  pl : flowB x = false ∨ ∃ fs, x = flD fs ∧ Fl fs ∧ ((∃ y ∈ fs, y < 0) ∨ ∀ y ∈ fs, y = 0)
theorem a20_f (hC : ChkFlAt F 14 0) (h : NoPl x) : runF F HD.con fw ⟨1, 1, b_check_plain⟩ [x] b = .exc 0 [x] b := by
  have e := hC x b h.nf
  rcases h.pl with h2 | ⟨fs, rfl, hf, hz⟩
  · rw [h2] at e
    simp [runF, eqAr, sA_0, evalSs, evalS, evalE, evalEs, evalPs, evalT, evalTB, bindS, bindR, retR, optR, slotE, slotP, pk, truR, truD, callR, e]
  · rw [hf.good, if_pos rfl] at e
    match fs, hf with
    | y :: ys, hf =>
      have i1 := ints_map (y :: ys)
      have e1 : bltD .min2 [flD (y :: ys)] = some (.int (minI y ys)) := by
        show lstI minI (ints? ((y :: ys).map D.int)) = _
        rw [i1]; rfl
      have e2 : bltD .max2 [flD (y :: ys)] = some (.int (maxI y ys)) := by
        show lstI maxI (ints? ((y :: ys).map D.int)) = _
        rw [i1]; rfl
      generalize flD (y :: ys) = d at e e1 e2
      by_cases hm : minI y ys < 0
      · simp [runF, eqAr, sA_0, sA_1, tA_1, evalSs, evalS, evalE, evalEs, evalPs, evalT, evalTB, bindS, bindR, retR, optR, slotE, slotP, pk, truR, truD, callR, e, e1, e2, cpD, hm]
      · have h0 : maxI y ys = 0 := by
          rcases hz with ⟨z, hz, hn⟩ | hz
          · have := minI_le z hz; omega
          · exact hz _ maxI_mem
        simp [runF, eqAr, sA_0, sA_1, tA_1, evalSs, evalS, evalE, evalEs, evalPs, evalT, evalTB, bindS, bindR, retR, optR, slotE, slotP, pk, truR, truD, callR, e, e1, e2, cpD, hm, h0, eq_int]
theorem a20_ok (hC : ChkFlAt F 14 0) (h : Pln fs) : runF F HD.con fw ⟨1, 1, b_check_plain⟩ [flD fs] b = .ok .non b := by
  have e := hC (flD fs) b (nf1_fl fs)
  rw [h.fl.good, if_pos rfl] at e
  match fs, h with
  | y :: ys, h =>
    have i1 := ints_map (y :: ys)
    have e1 : bltD .min2 [flD (y :: ys)] = some (.int (minI y ys)) := by
      show lstI minI (ints? ((y :: ys).map D.int)) = _
      rw [i1]; rfl
    have e2 : bltD .max2 [flD (y :: ys)] = some (.int (maxI y ys)) := by
      show lstI maxI (ints? ((y :: ys).map D.int)) = _
      rw [i1]; rfl
    have hm : ¬ minI y ys < 0 := by have := h.nn _ minI_mem; omega
    have h0 : ¬ maxI y ys = 0 := by
      obtain ⟨z, hz, hp⟩ := h.ps
      have := maxI_le z hz; omega
    generalize flD (y :: ys) = d at e e1 e2
    simp [runF, eqAr, sA_0, sA_1, tA_1, evalSs, evalS, evalE, evalEs, evalPs, evalT, evalTB, bindS, bindR, retR, optR, slotE, slotP, pk, truR, truD, callR, e, e1, e2, cpD, hm, h0, eq_int]
theorem L20f (k) (h : NoPl x) : E fw (k + 9) 20 [x] b = .exc 0 [x] b := (ev_def (k := k + 6) rfl).trans (a20_f (L14 (k + 1)) h)
theorem L20o (k) (h : Pln fs) : E fw (k + 9) 20 [flD fs] b = .ok .non b := (ev_def (k := k + 6) rfl).trans (a20_ok (L14 (k + 1)) h)

end
end
end HD

namespace HD
open PySem PySem.Spec PV
section
variable {F : FT} {fw : Nat} {b : Bx} {x y z : D} {r : Rat} {fs gs : List Int}

theorem zip_i : ∀ (as bs : List Int), zipD (as.map D.int) (bs.map D.int) = (as.zip bs).map fun p => .tup [.int p.1, .int p.2]
  | [], _ => by simp [zipD]
  | a :: as, [] => by simp [zipD]
  | a :: as, b :: bs => by simp [zipD, zip_i as bs]
theorem mulOk_i {a c : Int} (ha : -1000000 ≤ a ∧ a ≤ 1000000) (hb : 0 ≤ c ∧ c ≤ 132) : mulOk a c = true := mulOk_sz (n := 21) (m := 9) (by omega) (by omega) (by omega)
def AvgAt (F : FT) (i : Nat) : Prop := ∀ (fs gs : List Int) (r : Rat) (b : Bx), Pln fs → (∀ x ∈ gs, 0 ≤ x ∧ x ≤ 132) → Sz 9 r → 0 < 1 + r → F i [flD fs, qD r, .lst (gs.map D.int)] b = .ok (qD (midQ (1 / (1 + r)) fs gs)) b

theorem v21 (hN : NowAt F 18) (hD : DivAt F 10) (h : Pln fs) (hg : ∀ x ∈ gs, 0 ≤ x ∧ x ≤ 132) (h9 : Sz 9 r) (hr : 0 < 1 + r) : runF F HD.con fw ⟨3, 6, b_average⟩ [flD fs, qD r, .lst (gs.map D.int)] b = .ok (qD (midQ (1 / (1 + r)) fs gs)) b := by
  have zs : Sz 12 (1 / (1 + r)) := sz1.div (sz11 h9) (num_ne hr)
  have sp := inv_pos' hr
  have hb := prodI_bg h.fl hg
  have h12 := h.fl.2.1
  have h13 := hb.1
  have e1 := hN (.lst ((prodI fs gs).map D.int)) _ r b (.inr rfl) hb h9 hr
  have e2 := hN (flD fs) fs r b (.inl rfl) h.fl.bg h9 hr
  have e3 : F 10 [qD (wQ (1 / (1 + r)) (prodI fs gs)), qD (wQ (1 / (1 + r)) fs)] b = .ok (qD (midQ (1 / (1 + r)) fs gs)) b := hD _ _ _ _ b (wQ_szB zs hb.2) (wQ_szB zs h.fl.bg.2) (by omega) (num_ne (wQ_pos sp h.nn h.ps))
  have hc := compR_two (elt := evalE F HD.con eV_0) (env := [.v (flD fs), .v (qD r), .v (.lst (gs.map D.int)), .no, .no, .no]) (b := b) (i := 4) (j := 5) (u := fun p : Int × Int => D.int p.1) (v := fun p => D.int p.2) (g := fun p => D.int (p.1 * p.2)) (xs := fs.zip gs) (by decide) rfl (by rw [List.length_zip]; unfold big; omega) fun p hp => by
    have mo := mulOk_i (h.fl.2.2 p.1 (List.of_mem_zip hp).1) (hg p.2 (List.of_mem_zip hp).2)
    simp [eV_0, evalSs, evalS, evalE, evalEs, evalPs, evalT, evalTB, bindS, bindR, retR, optR, slotE, slotP, pk, truR, truD, callR, binD, mo]
  have eI : evalI F HD.con (.zip (.slot 0) (.slot 2)) ⟨[.v (flD fs), .v (qD r), .v (.lst (gs.map D.int)), .no, .no, .no], b⟩ = .ok ((fs.zip gs).map fun p => .tup [.int p.1, .int p.2]) ⟨[.v (flD fs), .v (qD r), .v (.lst (gs.map D.int)), .no, .no, .no], b⟩ := by
    rw [← zip_i]
    unfold flD
    simp [evalI, evalE, bindR, slotE]
  have hp : ((fs.zip gs).map fun p => D.int (p.1 * p.2)) = (prodI fs gs).map D.int := by unfold prodI; rw [List.map_map]; rfl
  rw [hp] at hc
  have ec := ev_comp eI hc
  refine run_of rfl ?_
  rw [eqVr]
  refine sq (s' := ⟨[.v (flD fs), .v (qD r), .v (.lst (gs.map D.int)), .v (qD (wQ (1 / (1 + r)) (prodI fs gs))), .no, .no], b⟩) ?_ (sr ?_)
  · unfold sV_0
    exact ev_asg (ev_callc (ev_es1 ec (ev_es1 (ev_slot rfl) ev_es0)) e1) rfl
  · simp [sV_1, evalSs, evalS, evalE, evalEs, evalPs, evalT, evalTB, bindS, bindR, retR, optR, slotE, slotP, pk, truR, truD, callR, e2, e3]

theorem h44 (hN : NowAt F 40) (hD : DivAt F 34) (h : Pln fs) (hg : ∀ x ∈ gs, 0 ≤ x ∧ x ≤ 132) (h9 : Sz 9 r) (hr : 0 < 1 + r) : runF F HD.con fw ⟨3, 6, b__law_weighted⟩ [flD fs, qD r, .lst (gs.map D.int)] b = .ok (qD (midQ (1 / (1 + r)) fs gs)) b := by
  have zs : Sz 12 (1 / (1 + r)) := sz1.div (sz11 h9) (num_ne hr)
  have sp := inv_pos' hr
  have hb := prodI_bg h.fl hg
  have h12 := h.fl.2.1
  have h13 := hb.1
  have e1 := hN (.lst ((prodI fs gs).map D.int)) _ r b (.inr rfl) hb h9 hr
  have e2 := hN (flD fs) fs r b (.inl rfl) h.fl.bg h9 hr
  have e3 : F 34 [qD (wQ (1 / (1 + r)) (prodI fs gs)), qD (wQ (1 / (1 + r)) fs)] b = .ok (qD (midQ (1 / (1 + r)) fs gs)) b := hD _ _ _ _ b (wQ_szB zs hb.2) (wQ_szB zs h.fl.bg.2) (by omega) (num_ne (wQ_pos sp h.nn h.ps))
  have hc := compR_two (elt := evalE F HD.con eH_0) (env := [.v (flD fs), .v (qD r), .v (.lst (gs.map D.int)), .no, .no, .no]) (b := b) (i := 4) (j := 5) (u := fun p : Int × Int => D.int p.1) (v := fun p => D.int p.2) (g := fun p => D.int (p.1 * p.2)) (xs := fs.zip gs) (by decide) rfl (by rw [List.length_zip]; unfold big; omega) fun p hp => by
    have mo := mulOk_i (h.fl.2.2 p.1 (List.of_mem_zip hp).1) (hg p.2 (List.of_mem_zip hp).2)
    simp [eH_0, evalSs, evalS, evalE, evalEs, evalPs, evalT, evalTB, bindS, bindR, retR, optR, slotE, slotP, pk, truR, truD, callR, binD, mo]
  have eI : evalI F HD.con (.zip (.slot 0) (.slot 2)) ⟨[.v (flD fs), .v (qD r), .v (.lst (gs.map D.int)), .no, .no, .no], b⟩ = .ok ((fs.zip gs).map fun p => .tup [.int p.1, .int p.2]) ⟨[.v (flD fs), .v (qD r), .v (.lst (gs.map D.int)), .no, .no, .no], b⟩ := by
    rw [← zip_i]
    unfold flD
    simp [evalI, evalE, bindR, slotE]
  have hp : ((fs.zip gs).map fun p => D.int (p.1 * p.2)) = (prodI fs gs).map D.int := by unfold prodI; rw [List.map_map]; rfl
  rw [hp] at hc
  have ec := ev_comp eI hc
  refine run_of rfl ?_
  rw [eqHr]
  refine sq (s' := ⟨[.v (flD fs), .v (qD r), .v (.lst (gs.map D.int)), .v (qD (wQ (1 / (1 + r)) (prodI fs gs))), .no, .no], b⟩) ?_ (sr ?_)
  · unfold sH_0
    exact ev_asg (ev_callc (ev_es1 ec (ev_es1 (ev_slot rfl) ev_es0)) e1) rfl
  · simp [sH_1, evalSs, evalS, evalE, evalEs, evalPs, evalT, evalTB, bindS, bindR, retR, optR, slotE, slotP, pk, truR, truD, callR, e2, e3]

def rgI (n : Nat) : List Int := (List.range n).map fun (k : Nat) => (k : Int)
theorem range_i {n : Nat} : rangeD 0 (n : Int) = (rgI n).map D.int := by
  unfold rangeD rgI
  rw [List.map_map]
  simp
theorem rgI_bd {n : Nat} (h : n ≤ 12) : ∀ x ∈ rgI n, 0 ≤ x ∧ x ≤ 132 := fun x hx => by
  obtain ⟨k, hk, rfl⟩ := List.mem_map.mp hx
  have := List.mem_range.mp hk
  omega
def rg2 (n : Nat) : List Int := (rgI n).map fun t => t * (t + 1)
theorem rg2_bd {n : Nat} (h : n ≤ 12) : ∀ x ∈ rg2 n, 0 ≤ x ∧ x ≤ 132 := fun x hx => by
  obtain ⟨t, ht, rfl⟩ := List.mem_map.mp hx
  obtain ⟨k, hk, rfl⟩ := List.mem_map.mp ht
  have hk := List.mem_range.mp hk
  have : ∀ j : Nat, j < 12 → 0 ≤ (j : Int) * ((j : Int) + 1) ∧ (j : Int) * ((j : Int) + 1) ≤ 132 := by decide
  exact this k (by omega)
theorem ev_rngL {con : Nat → D} {e : PX} {n : Nat} {s s1 : S} (h : evalE F con e s = .ok (.int (n : Int)) s1) (hn : n ≤ 1000000) : evalE F con (.rngL e) s = .ok (.lst ((rgI n).map D.int)) s1 := by
  rw [evalE, bindR_ok h, bindR_ok (show intR (.int (n : Int)) s1 = .ok (n : Int) s1 from rfl), decide_eq_true (by omega), decide_eq_true (by omega), range_i]
  rfl
theorem ev_lenF {con : Nat → D} {j : Nat} {s : S} (h : s.env[j]? = some (.v (flD fs))) : evalE F con (.blt .len (.cons (.slot j) .nil)) s = .ok (.int (fs.length : Int)) s := by
  have e1 : evalPs F con (.cons (.slot j) .nil) s = .ok [flD fs] s := by
    rw [evalPs, bindR_ok (show pk (.slot j) (evalE F con (.slot j)) s = .ok (flD fs) s from by show slotP j s = _; unfold slotP; rw [h])]
    rfl
  rw [evalE, bindR_ok e1]
  show optR (some (D.int ((fs.map D.int).length : Int))) s = _
  rw [List.length_map]
  rfl
section
variable (hPf : ∀ (x : D) (b : Bx), NoPl x → F 20 [x] b = .exc 0 [x] b) (hP : ∀ (fs : List Int) (b : Bx), Pln fs → F 20 [flD fs] b = .ok .non b)
include hPf in
theorem u22_f (h : NoPl x) : runF F HD.con fw ⟨2, 2, b_duration⟩ [x, y] b = .exc 0 [x] b := by
  have e := hPf x b h
  simp [runF, b_duration, evalSs, evalS, evalE, evalEs, evalPs, evalT, evalTB, bindS, bindR, retR, optR, slotE, slotP, pk, truR, truD, callR, e]
include hPf in
theorem x23_f (h : NoPl x) : runF F HD.con fw ⟨2, 5, b_convexity⟩ [x, y] b = .exc 0 [x] b := by
  have e := hPf x b h
  simp [runF, b_convexity, evalSs, evalS, evalE, evalEs, evalPs, evalT, evalTB, bindS, bindR, retR, optR, slotE, slotP, pk, truR, truD, callR, e]
include hPf in
theorem i25_f (h : NoPl x) : runF F HD.con fw ⟨3, 9, b_immunized⟩ [x, y, z] b = .exc 0 [x] b := by
  have e := hPf x b h
  simp [runF, b_immunized, evalSs, evalS, evalE, evalEs, evalPs, evalT, evalTB, bindS, bindR, retR, optR, slotE, slotP, pk, truR, truD, callR, e]
include hP
theorem u22_r (hR : ChkRAt F 16 1) (h : Pln fs) (hy : NoR y) : runF F HD.con fw ⟨2, 2, b_duration⟩ [flD fs, y] b = .exc 1 [y] b := by
  have e := hP fs b h
  have e2 := hR y b hy.nf
  rw [hy.rt] at e2
  simp [runF, b_duration, evalSs, evalS, evalE, evalEs, evalPs, evalT, evalTB, bindS, bindR, retR, optR, slotE, slotP, pk, truR, truD, callR, e, e2]
theorem x23_r (hR : ChkRAt F 16 1) (h : Pln fs) (hy : NoR y) : runF F HD.con fw ⟨2, 5, b_convexity⟩ [flD fs, y] b = .exc 1 [y] b := by
  have e := hP fs b h
  have e2 := hR y b hy.nf
  rw [hy.rt] at e2
  simp [runF, b_convexity, evalSs, evalS, evalE, evalEs, evalPs, evalT, evalTB, bindS, bindR, retR, optR, slotE, slotP, pk, truR, truD, callR, e, e2]
theorem i25_r (hR : ChkRAt F 16 1) (h : Pln fs) (hy : NoR y) : runF F HD.con fw ⟨3, 9, b_immunized⟩ [flD fs, y, z] b = .exc 1 [y] b := by
  have e := hP fs b h
  have e2 := hR y b hy.nf
  rw [hy.rt] at e2
  simp [runF, b_immunized, evalSs, evalS, evalE, evalEs, evalPs, evalT, evalTB, bindS, bindR, retR, optR, slotE, slotP, pk, truR, truD, callR, e, e2]
theorem u22_ok (hR : ChkRAt F 16 1) (hA : AvgAt F 21) (h : Pln fs) (h9 : Sz 9 r) (hr : 0 < 1 + r) : runF F HD.con fw ⟨2, 2, b_duration⟩ [flD fs, qD r] b = .ok (qD (midQ (1 / (1 + r)) fs (rgI fs.length))) b := by
  have e := hP fs b h
  have e2 := hR (qD r) b (nf1_qD r)
  rw [rate_of.mpr hr, if_pos rfl] at e2
  have h12 := h.fl.2.1
  have e3 := hA fs (rgI fs.length) r b h (rgI_bd h12) h9 hr
  have eL := ev_rngL (con := HD.con) (ev_lenF (F := F) (con := HD.con) (fs := fs) (j := 0) (s := ⟨[.v (flD fs), .v (qD r)], b⟩) rfl) (by omega)
  refine run_of rfl ?_
  rw [eqUr]
  refine sq (s' := ⟨[.v (flD fs), .v (qD r)], b⟩) ?_ (sq (s' := ⟨[.v (flD fs), .v (qD r)], b⟩) ?_ (sr (ev_ret (s1 := ⟨[.v (flD fs), .v (qD r)], b⟩) (ev_callc (ev_es1 (ev_slot rfl) (ev_es1 (ev_slot rfl) (ev_es1 eL ev_es0))) e3))))
  · simp [sU_0, evalSs, evalS, evalE, evalEs, evalPs, evalT, evalTB, bindS, bindR, retR, optR, slotE, slotP, pk, truR, truD, callR, e]
  · simp [sU_1, evalSs, evalS, evalE, evalEs, evalPs, evalT, evalTB, bindS, bindR, retR, optR, slotE, slotP, pk, truR, truD, callR, e2]
theorem x23_ok (hR : ChkRAt F 16 1) (hf : FacAt F 17) (hM : MulAt F 9) (hD : DivAt F 10) (hA : AvgAt F 21) (h : Pln fs) (h9 : Sz 9 r) (hr : 0 < 1 + r) : runF F HD.con fw ⟨2, 5, b_convexity⟩ [flD fs, qD r] b = .ok (qD (midQ (1 / (1 + r)) fs (rg2 fs.length) / ((1 + r) * (1 + r)))) b := by
  have e := hP fs b h
  have e2 := hR (qD r) b (nf1_qD r)
  rw [rate_of.mpr hr, if_pos rfl] at e2
  have h12 := h.fl.2.1
  have e3 := hA fs (rg2 fs.length) r b h (rg2_bd h12) h9 hr
  have e4 := hf r 9 b h9 (by omega)
  have e5 := hM (1 + r) (1 + r) 11 11 b (sz11 h9) (sz11 h9) (by omega)
  have zs : Sz 12 (1 / (1 + r)) := sz1.div (sz11 h9) (num_ne hr)
  have e6 := hD _ ((1 + r) * (1 + r)) _ _ b (mid_sz zs (inv_pos' hr) h (rg2_bd h12)) ((sz11 h9).mul (sz11 h9)) (by omega) (num_ne (Rat.mul_pos hr hr))
  have hc := compR_oneA (elt := evalE F HD.con eX_0) (env := [.v (flD fs), .v (qD r), .v (qD (1 + r)), .no, .no]) (b := b) (j := 4) (f := D.int) (g := fun t => D.int (t * (t + 1))) (xs := rgI fs.length) rfl (by unfold rgI; rw [List.length_map, List.length_range]; unfold big; omega) fun t ht => by
    have hb := rgI_bd h12 t ht
    have mo : mulOk t (t + 1) = true := mulOk_sz (n := 9) (m := 9) (by omega) (by omega) (by omega)
    simp [eX_0, evalSs, evalS, evalE, evalEs, evalPs, evalT, evalTB, bindS, bindR, retR, optR, slotE, slotP, pk, truR, truD, callR, binD, mo]
  have hp : ((rgI fs.length).map fun t => D.int (t * (t + 1))) = (rg2 fs.length).map D.int := by unfold rg2; rw [List.map_map]; rfl
  rw [hp] at hc
  have eI := ev_range1s (F := F) (con := HD.con) (e := .blt .len (.cons (.slot 0) .nil)) (env := [.v (flD fs), .v (qD r), .v (qD (1 + r)), .no, .no]) (b := b) (n := fs.length) (ev_lenF rfl) (by omega)
  rw [range_i] at eI
  have ec := ev_comp eI hc
  refine run_of rfl ?_
  rw [eqXr]
  refine sq (s' := ⟨[.v (flD fs), .v (qD r), .no, .no, .no], b⟩) ?_ (sq (s' := ⟨[.v (flD fs), .v (qD r), .no, .no, .no], b⟩) ?_ (sq (s' := ⟨[.v (flD fs), .v (qD r), .v (qD (1 + r)), .no, .no], b⟩) ?_ (sq (s' := ⟨[.v (flD fs), .v (qD r), .v (qD (1 + r)), .v (qD (midQ (1 / (1 + r)) fs (rg2 fs.length))), .no], b⟩) ?_ (sr ?_))))
  · simp [sX_0, evalSs, evalS, evalE, evalEs, evalPs, evalT, evalTB, bindS, bindR, retR, optR, slotE, slotP, pk, truR, truD, callR, e]
  · simp [sX_1, evalSs, evalS, evalE, evalEs, evalPs, evalT, evalTB, bindS, bindR, retR, optR, slotE, slotP, pk, truR, truD, callR, e2]
  · simp [sX_2, evalSs, evalS, evalE, evalEs, evalPs, evalT, evalTB, bindS, bindR, retR, optR, slotE, slotP, pk, truR, truD, callR, e4, asgT]
  · unfold sX_3
    exact ev_asg (ev_callc (ev_es1 (ev_slot rfl) (ev_es1 (ev_slot rfl) (ev_es1 ec ev_es0))) e3) rfl
  · simp [sX_4, evalSs, evalS, evalE, evalEs, evalPs, evalT, evalTB, bindS, bindR, retR, optR, slotE, slotP, pk, truR, truD, callR, e5, e6]
end
theorem later_loop (hf : FacAt F 17) (hM : MulAt F 9) {a : Rat} {m : Nat} (ha : Sz m a) (hm : m ≤ 4000) (h9 : Sz 9 r) {x0 x2 : Sl} : ∀ (xs : List D) {k : Nat} {y : Sl}, k + xs.length ≤ 40 → ∃ y', loopF (.name 4) (evalSs F HD.con fw lT_1) xs ⟨[x0, .v (qD r), x2, .v (qD (a * powQ (1 + r) k)), y], b⟩ = .next ⟨[x0, .v (qD r), x2, .v (qD (a * powQ (1 + r) (k + xs.length))), y'], b⟩
  | [], k, y, _ => ⟨y, rfl⟩
  | x :: xs, k, y, hk => by
    rw [List.length_cons] at hk
    have e1 := hf r 9 b h9 (by omega)
    have e2 := hM _ _ _ _ b (ha.mul (pow_sz (sz11 h9) k)) (sz11 h9) (by omega)
    rw [show a * powQ (1 + r) k * (1 + r) = a * powQ (1 + r) (k + 1) from by rw [powQ]; grind] at e2
    obtain ⟨y', e3⟩ := later_loop hf hM ha hm h9 (x0 := x0) (x2 := x2) xs (k := k + 1) (y := .v x) (by omega)
    refine ⟨y', ?_⟩
    unfold loopF
    have eb : evalSs F HD.con fw lT_1 ⟨[x0, .v (qD r), x2, .v (qD (a * powQ (1 + r) k)), .v x], b⟩ = .next ⟨[x0, .v (qD r), x2, .v (qD (a * powQ (1 + r) (k + 1))), .v x], b⟩ := by
      simp [lT_1, evalSs, evalS, evalE, evalEs, evalPs, evalT, evalTB, bindS, bindR, retR, optR, slotE, slotP, pk, truR, truD, callR, e1, e2, asgT]
    simp [asgT, eb]
    rw [e3]
    simp [Nat.add_assoc, Nat.add_comm 1]
theorem t24 (hf : FacAt F 17) (hM : MulAt F 9) {a : Rat} {m n : Nat} (ha : Sz m a) (hm : m ≤ 4000) (h9 : Sz 9 r) (hn : n ≤ 40) : runF F HD.con fw ⟨3, 5, b_later⟩ [qD a, qD r, .int (n : Int)] b = .ok (qD (a * powQ (1 + r) n)) b := by
  obtain ⟨y', e3⟩ := later_loop (fw := fw) (b := b) hf hM ha hm h9 (x0 := .v (qD a)) (x2 := .v (.int (n : Int))) (rangeD 0 (n : Int)) (k := 0) (y := .no) (by rw [rng_len]; omega)
  rw [rng_len, Nat.zero_add, show a * powQ (1 + r) 0 = a from by rw [powQ]; grind] at e3
  refine run_of rfl ?_
  rw [eqTr]
  refine sq (s' := ⟨[.v (qD a), .v (qD r), .v (.int (n : Int)), .v (qD a), .no], b⟩) ?_ (sq (s' := ⟨[.v (qD a), .v (qD r), .v (.int (n : Int)), .v (qD (a * powQ (1 + r) n)), y'], b⟩) ?_ (sr ?_))
  · simp [sT_0, evalSs, evalS, evalE, evalEs, evalPs, evalT, evalTB, bindS, bindR, retR, optR, slotE, slotP, pk, truR, truD, callR, asgT]
  · unfold sT_1
    rw [ev_for (ev_range1s (n := n) (ev_slot rfl) (by omega))]
    exact e3
  · simp [sT_2, evalSs, evalS, evalE, evalEs, evalPs, evalT, evalTB, bindS, bindR, retR, optR, slotE, slotP, pk, truR, truD, callR]
theorem back_loop (hD : DivAt F 34) {p : Rat} {m : Nat} (hp : Sz m p) (hm : m ≤ 4000) (h9 : Sz 9 r) (hr : 0 < 1 + r) {x0 x1 x2 : Sl} : ∀ (xs : List D) {k : Nat} {y : Sl}, k + xs.length ≤ 40 → ∃ y', loopF (.name 3) (evalSs F HD.con fw lK_1) xs ⟨[x0, x1, x2, y, .v (qD (p * powQ (1 + r) (k + xs.length))), .v (qD (1 + r))], b⟩ = .next ⟨[x0, x1, x2, y', .v (qD (p * powQ (1 + r) k)), .v (qD (1 + r))], b⟩
  | [], k, y, _ => ⟨y, rfl⟩
  | x :: xs, k, y, hk => by
    rw [List.length_cons] at hk
    have e2 := hD _ _ _ _ b (hp.mul (pow_sz (sz11 h9) (k + xs.length + 1))) (sz11 h9) (by omega) (num_ne hr)
    have hne : (1 + r) ≠ 0 := fun z => by rw [z] at hr; exact absurd hr (by decide)
    rw [show p * powQ (1 + r) (k + xs.length + 1) / (1 + r) = p * powQ (1 + r) (k + xs.length) from by rw [powQ]; grind] at e2
    obtain ⟨y', e3⟩ := back_loop hD hp hm h9 hr (x0 := x0) (x1 := x1) (x2 := x2) xs (k := k) (y := .v x) (by omega)
    refine ⟨y', ?_⟩
    unfold loopF
    rw [List.length_cons, ← Nat.add_assoc]
    have eb : evalSs F HD.con fw lK_1 ⟨[x0, x1, x2, .v x, .v (qD (p * powQ (1 + r) (k + xs.length + 1))), .v (qD (1 + r))], b⟩ = .next ⟨[x0, x1, x2, .v x, .v (qD (p * powQ (1 + r) (k + xs.length))), .v (qD (1 + r))], b⟩ := by
      simp [lK_1, evalSs, evalS, evalE, evalEs, evalPs, evalT, evalTB, bindS, bindR, retR, optR, slotE, slotP, pk, truR, truD, callR, e2, asgT]
    simp [asgT, eb]
    rw [e3]
theorem k46 (hA : AddAt F 31) (hD : DivAt F 34) {p : Rat} {m n : Nat} (hp : Sz m p) (hm : m ≤ 4000) (h9 : Sz 9 r) (hr : 0 < 1 + r) (hn : n ≤ 40) : runF F HD.con fw ⟨3, 6, b__law_back⟩ [qD (p * powQ (1 + r) n), qD r, .int (n : Int)] b = .ok (qD p) b := by
  obtain ⟨y', e3⟩ := back_loop (fw := fw) (b := b) hD hp hm h9 hr (x0 := .v (qD (p * powQ (1 + r) n))) (x1 := .v (qD r)) (x2 := .v (.int (n : Int))) (rangeD 0 (n : Int)) (k := 0) (y := .no) (by rw [rng_len]; omega)
  rw [rng_len, Nat.zero_add, show p * powQ (1 + r) 0 = p from by rw [powQ]; grind] at e3
  have e1 : F 31 [.tup [.int 1, .int 1], qD r] b = .ok (qD (1 + r)) b := hA 1 r 1 9 b sz1 h9 (by omega)
  refine run_of rfl ?_
  rw [eqKr]
  refine sq (s' := ⟨[.v (qD (p * powQ (1 + r) n)), .v (qD r), .v (.int (n : Int)), .no, .v (qD (p * powQ (1 + r) n)), .v (qD (1 + r))], b⟩) ?_ (sq (s' := ⟨[.v (qD (p * powQ (1 + r) n)), .v (qD r), .v (.int (n : Int)), y', .v (qD p), .v (qD (1 + r))], b⟩) ?_ (sr ?_))
  · simp [sK_0, evalSs, evalS, evalE, evalEs, evalPs, evalT, evalTB, bindS, bindR, retR, optR, slotE, slotP, pk, truR, truD, callR, e1, big2, storeL]
  · unfold sK_1
    rw [ev_for (ev_range1s (n := n) (ev_slot rfl) (by omega))]
    exact e3
  · simp [sK_2, evalSs, evalS, evalE, evalEs, evalPs, evalT, evalTB, bindS, bindR, retR, optR, slotE, slotP, pk, truR, truD, callR]
end
end HD

namespace HD
open PySem PySem.Spec PV
section
variable {F : FT} {fw : Nat} {b : Bx} {x y z : D} {r : Rat} {fs gs os : List Int}

def tmD (t0 t1 : Nat) : D := .tup [.int (t0 : Int), .int (t1 : Int)]
structure Tm (t0 t1 : Nat) : Prop where
  h0 : t0 ≤ 40
  h1 : t1 ≤ 40
  ne : t0 ≠ t1
theorem Tm.row {t0 t1 : Nat} (h : Tm t0 t1) : rowB (tmD t0 t1) 2 0 40 = true := by
  have := h.h0
  have := h.h1
  simp [rowB, tmD, betB]
  omega
def LatAt (F : FT) (i : Nat) : Prop := ∀ (a r : Rat) (m n : Nat) (b : Bx), Sz m a → m ≤ 4000 → Sz 9 r → n ≤ 40 → F i [qD a, qD r, .int (n : Int)] b = .ok (qD (a * powQ (1 + r) n)) b
def valQ (r : Rat) (fs : List Int) : Rat := wQ (1 / (1 + r)) fs
def medQ (r : Rat) (fs : List Int) : Rat := midQ (1 / (1 + r)) fs (rgI fs.length)
def shrQ (r : Rat) (fs : List Int) (t0 t1 : Nat) : Rat := shareQ (t0 : Int) (t1 : Int) (medQ r fs)
def p0Q (r : Rat) (fs : List Int) (t0 t1 : Nat) : Rat := valQ r fs * shrQ r fs t0 t1
def p1Q (r : Rat) (fs : List Int) (t0 t1 : Nat) : Rat := valQ r fs * (1 - shrQ r fs t0 t1)
theorem val_sz (h : Pln fs) (h9 : Sz 9 r) (hr : 0 < 1 + r) : Sz 481 (valQ r fs) := by
  have zs : Sz 12 (1 / (1 + r)) := sz1.div (sz11 h9) (num_ne hr)
  have h12 := h.fl.2.1
  exact (wQ_szB zs h.fl.bg.2).mono (by omega)
theorem val_pos (h : Pln fs) (hr : 0 < 1 + r) : 0 < valQ r fs := wQ_pos (inv_pos' hr) h.nn h.ps
theorem med_sz (h : Pln fs) (h9 : Sz 9 r) (hr : 0 < 1 + r) : Sz 962 (medQ r fs) := mid_sz (sz1.div (sz11 h9) (num_ne hr)) (inv_pos' hr) h (rgI_bd h.fl.2.1)
theorem tm_sz {t : Int} (h : -40 ≤ t ∧ t ≤ 40) : Sz 6 (t : Rat) := ⟨by show t.natAbs < 64; omega, by show 1 < 64; omega⟩
theorem tm_num {t : Int} (h : t ≠ 0) : (t : Rat).num ≠ 0 := h
theorem shr_sz {t0 t1 : Nat} (ht : Tm t0 t1) (h : Pln fs) (h9 : Sz 9 r) (hr : 0 < 1 + r) : Sz 975 (shrQ r fs t0 t1) := by
  have := ht.h0
  have := ht.h1
  have := ht.ne
  exact ((tm_sz (t := (t1 : Int)) (by omega)).sub (med_sz h h9 hr)).div (tm_sz (t := (t1 : Int) - t0) (by omega)) (tm_num (by omega))
theorem p0_sz {t0 t1 : Nat} (ht : Tm t0 t1) (h : Pln fs) (h9 : Sz 9 r) (hr : 0 < 1 + r) : Sz 1456 (p0Q r fs t0 t1) := (val_sz h h9 hr).mul (shr_sz ht h h9 hr)
theorem p1_sz {t0 t1 : Nat} (ht : Tm t0 t1) (h : Pln fs) (h9 : Sz 9 r) (hr : 0 < 1 + r) : Sz 1458 (p1Q r fs t0 t1) := (val_sz h h9 hr).mul (sz1.sub (shr_sz ht h h9 hr))
def immD (r : Rat) (fs : List Int) (t0 t1 : Nat) : D := .tup [qD (p0Q r fs t0 t1 * powQ (1 + r) t0), qD (p1Q r fs t0 t1 * powQ (1 + r) t1)]
/-- no pair of times -/
structure NoTm (z : D) : Prop where
  nf : nf1 z = true
  bd : rowB z 2 0 40 = false ∨ ∃ t : Int, z = .tup [.int t, .int t] ∧ rowB z 2 0 40 = true
  pl : PlC 3 z
section
variable (hP : ∀ (fs : List Int) (b : Bx), Pln fs → F 20 [flD fs] b = .ok .non b) (hR : ChkRAt F 16 1) (hW : RowAt F 3)
include hP hR hW

theorem i25_t (h : Pln fs) (h9 : Sz 9 r) (hr : 0 < 1 + r) (hz : NoTm z) : runF F HD.con fw ⟨3, 9, b_immunized⟩ [flD fs, qD r, z] b = .exc 3 [z] b := by
  have e := hP fs b h
  have e2 := hR (qD r) b (nf1_qD r)
  rw [rate_of.mpr hr, if_pos rfl] at e2
  have e3 := hW z 2 0 40 b hz.nf (by omega)
  have a0 : evalS F HD.con fw sI_0 ⟨[.v (flD fs), .v (qD r), .v z, .no, .no, .no, .no, .no, .no], b⟩ = .next ⟨[.v (flD fs), .v (qD r), .v z, .no, .no, .no, .no, .no, .no], b⟩ := by simp [sI_0, evalSs, evalS, evalE, evalEs, evalPs, evalT, evalTB, bindS, bindR, retR, optR, slotE, slotP, pk, truR, truD, callR, e]
  have a1 : evalS F HD.con fw sI_1 ⟨[.v (flD fs), .v (qD r), .v z, .no, .no, .no, .no, .no, .no], b⟩ = .next ⟨[.v (flD fs), .v (qD r), .v z, .no, .no, .no, .no, .no, .no], b⟩ := by simp [sI_1, evalSs, evalS, evalE, evalEs, evalPs, evalT, evalTB, bindS, bindR, retR, optR, slotE, slotP, pk, truR, truD, callR, e2]
  have ec : evalE F HD.con (.call 3 (.cons (.slot 2) (.cons (.int 2) (.cons (.int 0) (.cons (.glob 4) .nil))))) ⟨[.v (flD fs), .v (qD r), .v z, .no, .no, .no, .no, .no, .no], b⟩ = .ok (.bl (rowB z 2 0 40)) ⟨[.v (flD fs), .v (qD r), .v z, .no, .no, .no, .no, .no, .no], b⟩ := by
    simp [evalSs, evalS, evalE, evalEs, evalPs, evalT, evalTB, bindS, bindR, retR, optR, slotE, slotP, pk, truR, truD, callR, con4, e3]
  have t1 := ev_tnot (ev_tval (k := rowB z 2 0 40) (show pk (.call 3 (.cons (.slot 2) (.cons (.int 2) (.cons (.int 0) (.cons (.glob 4) .nil))))) (evalE F HD.con (.call 3 (.cons (.slot 2) (.cons (.int 2) (.cons (.int 0) (.cons (.glob 4) .nil)))))) ⟨[.v (flD fs), .v (qD r), .v z, .no, .no, .no, .no, .no, .no], b⟩ = _ from ec) rfl)
  have et : evalT F HD.con tI_2 ⟨[.v (flD fs), .v (qD r), .v z, .no, .no, .no, .no, .no, .no], b⟩ = .ok true ⟨[.v (flD fs), .v (qD r), .v z, .no, .no, .no, .no, .no, .no], b⟩ := by
    unfold tI_2
    rcases hz.bd with hb | ⟨t, rfl, hb⟩
    · rw [hb] at t1
      exact ev_tstop t1
    · rw [hb] at t1
      refine ev_tgo t1 (ev_t1 (ev_valC (ev_cmpG (x := .int t) (y := .int t) (ev_ixs rfl at0 (fun z => by cases z)) (ev_ixs rfl at1 (fun z => by cases z)) (by simp [cpD, eq_int]))))
  refine run_exc (s := ⟨[.v (flD fs), .v (qD r), .v z, .no, .no, .no, .no, .no, .no], b⟩) rfl ?_
  rw [eqIr]
  refine sq a0 (sq a1 (se ?_))
  unfold sI_2
  refine ev_iffT et ?_
  simp [evalSs, evalS, evalE, evalEs, evalPs, evalT, evalTB, bindS, bindR, retR, optR, slotE, slotP, pk, truR, truD, callR]
theorem i25_ok (hN : NowAt F 18) (hA : AvgAt F 21) (hH : WhAt F 6) (hS : SubAt F 8) (hM : MulAt F 9) (hD : DivAt F 10) (hL : LatAt F 24) {t0 t1 : Nat} (ht : Tm t0 t1) (h : Pln fs) (h9 : Sz 9 r) (hr : 0 < 1 + r) : runF F HD.con fw ⟨3, 9, b_immunized⟩ [flD fs, qD r, tmD t0 t1] b = .ok (immD r fs t0 t1) b := by
  have h12 := h.fl.2.1
  have q0 := ht.h0
  have q1 := ht.h1
  have qn := ht.ne
  have e := hP fs b h
  have e2 := hR (qD r) b (nf1_qD r)
  rw [rate_of.mpr hr, if_pos rfl] at e2
  have e3 := hW (tmD t0 t1) 2 0 40 b rfl (by omega)
  rw [ht.row] at e3
  have x0 : ixD (tmD t0 t1) (.int 0) = some (.int (t0 : Int)) := at0
  have x1 : ixD (tmD t0 t1) (.int 1) = some (.int (t1 : Int)) := at1
  have nb : tmD t0 t1 ≠ .box := fun z => by cases z
  have a0 : evalS F HD.con fw sI_0 ⟨[.v (flD fs), .v (qD r), .v (tmD t0 t1), .no, .no, .no, .no, .no, .no], b⟩ = .next ⟨[.v (flD fs), .v (qD r), .v (tmD t0 t1), .no, .no, .no, .no, .no, .no], b⟩ := by simp [sI_0, evalSs, evalS, evalE, evalEs, evalPs, evalT, evalTB, bindS, bindR, retR, optR, slotE, slotP, pk, truR, truD, callR, e]
  have a1 : evalS F HD.con fw sI_1 ⟨[.v (flD fs), .v (qD r), .v (tmD t0 t1), .no, .no, .no, .no, .no, .no], b⟩ = .next ⟨[.v (flD fs), .v (qD r), .v (tmD t0 t1), .no, .no, .no, .no, .no, .no], b⟩ := by simp [sI_1, evalSs, evalS, evalE, evalEs, evalPs, evalT, evalTB, bindS, bindR, retR, optR, slotE, slotP, pk, truR, truD, callR, e2]
  have ec : evalE F HD.con (.call 3 (.cons (.slot 2) (.cons (.int 2) (.cons (.int 0) (.cons (.glob 4) .nil))))) ⟨[.v (flD fs), .v (qD r), .v (tmD t0 t1), .no, .no, .no, .no, .no, .no], b⟩ = .ok (.bl true) ⟨[.v (flD fs), .v (qD r), .v (tmD t0 t1), .no, .no, .no, .no, .no, .no], b⟩ := by
    simp [evalSs, evalS, evalE, evalEs, evalPs, evalT, evalTB, bindS, bindR, retR, optR, slotE, slotP, pk, truR, truD, callR, con4, e3]
  have et : evalT F HD.con tI_2 ⟨[.v (flD fs), .v (qD r), .v (tmD t0 t1), .no, .no, .no, .no, .no, .no], b⟩ = .ok false ⟨[.v (flD fs), .v (qD r), .v (tmD t0 t1), .no, .no, .no, .no, .no, .no], b⟩ := by
    unfold tI_2
    refine ev_tgo (ev_not ec) (ev_t1 (ev_valC (ev_cmpG (ev_ixs rfl x0 nb) (ev_ixs rfl x1 nb) ?_)))
    simp [cpD, eq_int]
    omega
  have a2 : evalS F HD.con fw sI_2 ⟨[.v (flD fs), .v (qD r), .v (tmD t0 t1), .no, .no, .no, .no, .no, .no], b⟩ = .next ⟨[.v (flD fs), .v (qD r), .v (tmD t0 t1), .no, .no, .no, .no, .no, .no], b⟩ := by
    unfold sI_2
    exact ev_iffno et
  have eN : F 18 [flD fs, qD r] b = .ok (qD (valQ r fs)) b := hN (flD fs) fs r b (.inl rfl) h.fl.bg h9 hr
  have eA : F 21 [flD fs, qD r, .lst ((rgI fs.length).map D.int)] b = .ok (qD (medQ r fs)) b := hA fs (rgI fs.length) r b h (rgI_bd h12) h9 hr
  have eL := ev_rngL (con := HD.con) (ev_lenF (F := F) (con := HD.con) (fs := fs) (j := 0) (s := ⟨[.v (flD fs), .v (qD r), .v (tmD t0 t1), .no, .no, .no, .no, .no, .no], b⟩) rfl) (by omega)
  have c18 : evalE F HD.con (.call 18 (.cons (.slot 0) (.cons (.slot 1) .nil))) ⟨[.v (flD fs), .v (qD r), .v (tmD t0 t1), .no, .no, .no, .no, .no, .no], b⟩ = .ok (qD (valQ r fs)) ⟨[.v (flD fs), .v (qD r), .v (tmD t0 t1), .no, .no, .no, .no, .no, .no], b⟩ := ev_callc (ev_es1 (ev_slot rfl) (ev_es1 (ev_slot rfl) ev_es0)) eN
  have c21 : evalE F HD.con (.call 21 (.cons (.slot 0) (.cons (.slot 1) (.cons (.rngL (.blt .len (.cons (.slot 0) .nil))) .nil)))) ⟨[.v (flD fs), .v (qD r), .v (tmD t0 t1), .no, .no, .no, .no, .no, .no], b⟩ = .ok (qD (medQ r fs)) ⟨[.v (flD fs), .v (qD r), .v (tmD t0 t1), .no, .no, .no, .no, .no, .no], b⟩ := ev_callc (ev_es1 (ev_slot rfl) (ev_es1 (ev_slot rfl) (ev_es1 eL ev_es0))) eA
  have a3 : evalS F HD.con fw sI_3 ⟨[.v (flD fs), .v (qD r), .v (tmD t0 t1), .no, .no, .no, .no, .no, .no], b⟩ = .next ⟨[.v (flD fs), .v (qD r), .v (tmD t0 t1), .no, .no, .v (qD (valQ r fs)), .v (qD (medQ r fs)), .no, .no], b⟩ := by
    unfold sI_3
    rw [evalS]
    unfold bindS
    rw [ev_es1 c18 (ev_es1 c21 ev_es0)]
    rfl
  have f6 := hH (t1 : Int) b
  have f6' := hH ((t1 : Int) - t0) b
  have f8 := hS ((t1 : Int) : Rat) (medQ r fs) _ _ b (tm_sz (t := (t1 : Int)) (by omega)) (med_sz h h9 hr) (by omega)
  have f10 : F 10 [qD (((t1 : Int) : Rat) - medQ r fs), qD (((t1 : Int) - t0 : Int) : Rat)] b = .ok (qD (shrQ r fs t0 t1)) b := hD _ _ _ _ b ((tm_sz (t := (t1 : Int)) (by omega)).sub (med_sz h h9 hr)) (tm_sz (t := (t1 : Int) - t0) (by omega)) (by omega) (tm_num (by omega))
  have a4 : evalS F HD.con fw sI_4 ⟨[.v (flD fs), .v (qD r), .v (tmD t0 t1), .no, .no, .v (qD (valQ r fs)), .v (qD (medQ r fs)), .no, .no], b⟩ = .next ⟨[.v (flD fs), .v (qD r), .v (tmD t0 t1), .v (qD (shrQ r fs t0 t1)), .no, .v (qD (valQ r fs)), .v (qD (medQ r fs)), .no, .no], b⟩ := by
    unfold tmD at *
    simp [-Rat.intCast_sub, sI_4, evalSs, evalS, evalE, evalEs, evalPs, evalT, evalTB, bindS, bindR, retR, optR, slotE, slotP, pk, truR, truD, callR, x0, x1, binD, f6, f6', f8, f10, asgT]
  have g9 : F 9 [qD (valQ r fs), qD (shrQ r fs t0 t1)] b = .ok (qD (p0Q r fs t0 t1)) b := hM _ _ _ _ b (val_sz h h9 hr) (shr_sz ht h h9 hr) (by omega)
  have g8 := hS 1 (shrQ r fs t0 t1) _ _ b sz1 (shr_sz ht h h9 hr) (by omega)
  have g9' : F 9 [qD (valQ r fs), qD (1 - shrQ r fs t0 t1)] b = .ok (qD (p1Q r fs t0 t1)) b := hM _ _ _ _ b (val_sz h h9 hr) (sz1.sub (shr_sz ht h h9 hr)) (by omega)
  have a5 : evalS F HD.con fw sI_5 ⟨[.v (flD fs), .v (qD r), .v (tmD t0 t1), .v (qD (shrQ r fs t0 t1)), .no, .v (qD (valQ r fs)), .v (qD (medQ r fs)), .no, .no], b⟩ = .next ⟨[.v (flD fs), .v (qD r), .v (tmD t0 t1), .v (qD (shrQ r fs t0 t1)), .v (.lst [qD (p0Q r fs t0 t1), qD (p1Q r fs t0 t1)]), .v (qD (valQ r fs)), .v (qD (medQ r fs)), .no, .no], b⟩ := by
    simp [sI_5, evalSs, evalS, evalE, evalEs, evalPs, evalT, evalTB, bindS, bindR, retR, optR, slotE, slotP, pk, truR, truD, callR, con1, g9, g8, g9', asgT, big2]
  have l0 := hL (p0Q r fs t0 t1) r _ t0 b (p0_sz ht h h9 hr) (by omega) h9 q0
  have l1 := hL (p1Q r fs t0 t1) r _ t1 b (p1_sz ht h h9 hr) (by omega) h9 q1
  have hc := compR_two (elt := evalE F HD.con eI_0) (env := [.v (flD fs), .v (qD r), .v (tmD t0 t1), .v (qD (shrQ r fs t0 t1)), .v (.lst [qD (p0Q r fs t0 t1), qD (p1Q r fs t0 t1)]), .v (qD (valQ r fs)), .v (qD (medQ r fs)), .no, .no]) (b := b) (i := 7) (j := 8) (u := fun p : Rat × Nat => qD p.1) (v := fun p => D.int (p.2 : Int)) (g := fun p => qD (p.1 * powQ (1 + r) p.2)) (xs := [(p0Q r fs t0 t1, t0), (p1Q r fs t0 t1, t1)]) (by decide) rfl (by show 2 ≤ big; decide) fun p hp => by
    simp only [List.mem_cons, List.not_mem_nil, or_false] at hp
    rcases hp with rfl | rfl
    · simp [eI_0, evalSs, evalS, evalE, evalEs, evalPs, evalT, evalTB, bindS, bindR, retR, optR, slotE, slotP, pk, truR, truD, callR, l0]
    · simp [eI_0, evalSs, evalS, evalE, evalEs, evalPs, evalT, evalTB, bindS, bindR, retR, optR, slotE, slotP, pk, truR, truD, callR, l1]
  have eI : evalI F HD.con (.zip (.slot 4) (.slot 2)) ⟨[.v (flD fs), .v (qD r), .v (tmD t0 t1), .v (qD (shrQ r fs t0 t1)), .v (.lst [qD (p0Q r fs t0 t1), qD (p1Q r fs t0 t1)]), .v (qD (valQ r fs)), .v (qD (medQ r fs)), .no, .no], b⟩ = .ok (([(p0Q r fs t0 t1, t0), (p1Q r fs t0 t1, t1)] : List (Rat × Nat)).map fun p => .tup [qD p.1, D.int (p.2 : Int)]) ⟨[.v (flD fs), .v (qD r), .v (tmD t0 t1), .v (qD (shrQ r fs t0 t1)), .v (.lst [qD (p0Q r fs t0 t1), qD (p1Q r fs t0 t1)]), .v (qD (valQ r fs)), .v (qD (medQ r fs)), .no, .no], b⟩ := by
    unfold tmD
    simp [evalI, evalE, bindR, slotE, zipD]
  refine run_of rfl ?_
  rw [eqIr]
  refine sq a0 (sq a1 (sq a2 (sq a3 (sq a4 (sq a5 (sr ?_))))))
  unfold sI_6
  exact ev_ret (ev_tupc (ev_comp eI hc))
end

/-- some rates -/
structure Rs (rs : List Rat) : Prop where
  l1 : 1 ≤ rs.length
  l2 : rs.length ≤ 20
  sz : ∀ q ∈ rs, Sz 9 q ∧ 0 < 1 + q
def ratesB : D → Bool
  | .tup xs => decide (1 ≤ xs.length) && decide (xs.length ≤ 20) && xs.all rateB
  | _ => false
structure NoRs (z : D) : Prop where
  nf : nf2 z = true
  bd : ratesB z = false
  pl : PlC 3 z
def lessQ (fs os : List Int) (q : Rat) : Bool := decide (wQ (1 / (1 + q)) fs < wQ (1 / (1 + q)) os)
section
variable (hC : ChkFlAt F 14 0)
include hC
theorem o26_f1 (h : NoFl x) : runF F HD.con fw ⟨3, 4, b_is_covered⟩ [x, y, z] b = .exc 0 [x] b := by
  have e := hC x b h.nf
  rw [h.fl] at e
  simp [runF, b_is_covered, evalSs, evalS, evalE, evalEs, evalPs, evalT, evalTB, bindS, bindR, retR, optR, slotE, slotP, pk, truR, truD, callR, e]
theorem o26_f2 (hf : Fl fs) (h : NoFl y) : runF F HD.con fw ⟨3, 4, b_is_covered⟩ [flD fs, y, z] b = .exc 0 [y] b := by
  have e := hC (flD fs) b (nf1_fl fs)
  rw [hf.good, if_pos rfl] at e
  have e2 := hC y b h.nf
  rw [h.fl] at e2
  simp [runF, b_is_covered, evalSs, evalS, evalE, evalEs, evalPs, evalT, evalTB, bindS, bindR, retR, optR, slotE, slotP, pk, truR, truD, callR, e, e2]
theorem o26_rs (hR : RateAt F 15) (hf : Fl fs) (ho : Fl os) (hz : NoRs z) : runF F HD.con fw ⟨3, 4, b_is_covered⟩ [flD fs, flD os, z] b = .exc 2 [z] b := by
  have e := hC (flD fs) b (nf1_fl fs)
  rw [hf.good, if_pos rfl] at e
  have e2 := hC (flD os) b (nf1_fl os)
  rw [ho.good, if_pos rfl] at e2
  have a0 : evalS F HD.con fw sO_0 ⟨[.v (flD fs), .v (flD os), .v z, .no], b⟩ = .next ⟨[.v (flD fs), .v (flD os), .v z, .no], b⟩ := by simp [sO_0, evalSs, evalS, evalE, evalEs, evalPs, evalT, evalTB, bindS, bindR, retR, optR, slotE, slotP, pk, truR, truD, callR, e]
  have a1 : evalS F HD.con fw sO_1 ⟨[.v (flD fs), .v (flD os), .v z, .no], b⟩ = .next ⟨[.v (flD fs), .v (flD os), .v z, .no], b⟩ := by simp [sO_1, evalSs, evalS, evalE, evalEs, evalPs, evalT, evalTB, bindS, bindR, retR, optR, slotE, slotP, pk, truR, truD, callR, e2]
  have et : evalT F HD.con tO_2 ⟨[.v (flD fs), .v (flD os), .v z, .no], b⟩ = .ok true ⟨[.v (flD fs), .v (flD os), .v z, .no], b⟩ := by
    unfold tO_2
    cases z with
    | tup xs =>
      have t1 : evalT F HD.con (.not (.val (.isi (.slot 2) .tuple))) ⟨[.v (flD fs), .v (flD os), .v (.tup xs), .no], b⟩ = .ok false ⟨[.v (flD fs), .v (flD os), .v (.tup xs), .no], b⟩ := by
        simp [evalSs, evalS, evalE, evalEs, evalPs, evalT, evalTB, bindS, bindR, retR, optR, slotE, slotP, pk, truR, truD, callR, isiD]
      refine ev_tgo t1 ?_
      have t2 : evalT F HD.con (.not (.val (.chain .le .le (.int 1) (.blt .len (.cons (.slot 2) .nil)) (.glob 5)))) ⟨[.v (flD fs), .v (flD os), .v (.tup xs), .no], b⟩ = .ok (!(decide (1 ≤ xs.length) && decide (xs.length ≤ 20))) ⟨[.v (flD fs), .v (flD os), .v (.tup xs), .no], b⟩ := by
        by_cases h1 : 1 ≤ xs.length
        · have h1' : (1 : Int) ≤ xs.length := by omega
          by_cases h2 : xs.length ≤ 20
          · have h2' : (xs.length : Int) ≤ 20 := by omega
            simp [evalSs, evalS, evalE, evalEs, evalPs, evalT, evalTB, bindS, bindR, retR, optR, slotE, slotP, pk, truR, truD, callR, bltD, cpD, con5, h1, h1', h2, h2']
          · have h2' : ¬ (xs.length : Int) ≤ 20 := by omega
            simp [evalSs, evalS, evalE, evalEs, evalPs, evalT, evalTB, bindS, bindR, retR, optR, slotE, slotP, pk, truR, truD, callR, bltD, cpD, con5, h1, h1', h2, h2']
        · have h1' : ¬ (1 : Int) ≤ xs.length := by omega
          simp [evalSs, evalS, evalE, evalEs, evalPs, evalT, evalTB, bindS, bindR, retR, optR, slotE, slotP, pk, truR, truD, callR, bltD, cpD, con5, h1, h1']
      have hbd : (decide (1 ≤ xs.length) && decide (xs.length ≤ 20) && xs.all rateB) = false := hz.bd
      by_cases hl : (decide (1 ≤ xs.length) && decide (xs.length ≤ 20)) = true
      · rw [hl] at t2 hbd
        refine ev_tgo t2 (ev_t1 ?_)
        rw [Bool.and_eq_true, decide_eq_true_eq, decide_eq_true_eq] at hl
        have hnf : xs.all nf1 = true := hz.nf
        rw [List.all_eq_true] at hnf
        have hc := compR_one (elt := evalE F HD.con eO_0) (env := [.v (flD fs), .v (flD os), .v (.tup xs), .no]) (b := b) (j := 3) (g := fun x => .bl (rateB x)) (xs := xs) rfl (by unfold big; omega) fun x hx => by
          have := hR x b (hnf x hx)
          simp [eO_0, evalSs, evalS, evalE, evalEs, evalPs, evalT, evalTB, bindS, bindR, retR, optR, slotE, slotP, pk, truR, truD, callR, this]
        have ec := ev_comp (ev_seqT (e := .slot 2) (s := ⟨[.v (flD fs), .v (flD os), .v (.tup xs), .no], b⟩) (ev_slot rfl)) hc
        have ea := ev_blt1 (o := .all) (d := .bl ((xs.map rateB).all id)) (show pk (.comp eO_0 (.name 3) (.seq (.slot 2))) (evalE F HD.con (.comp eO_0 (.name 3) (.seq (.slot 2)))) _ = _ from ec) (by show (bls? _).map _ = _; rw [all_bls]; rfl)
        have hall : (xs.map rateB).all id = false := by rw [List.all_map]; simpa using hbd
        rw [hall] at ea
        exact ev_tnot (ev_tval (k := false) (show pk (.blt .all (.cons (.comp eO_0 (.name 3) (.seq (.slot 2))) .nil)) (evalE F HD.con (.blt .all (.cons (.comp eO_0 (.name 3) (.seq (.slot 2))) .nil))) _ = _ from ea) rfl)
      · have hl : (decide (1 ≤ xs.length) && decide (xs.length ≤ 20)) = false := by simpa using hl
        rw [hl] at t2
        exact ev_tstop t2
    | fn i => cases hz.nf
    | _ => exact ev_tstop (by simp [evalSs, evalS, evalE, evalEs, evalPs, evalT, evalTB, bindS, bindR, retR, optR, slotE, slotP, pk, truR, truD, callR, isiD])
  refine run_exc (s := ⟨[.v (flD fs), .v (flD os), .v z, .no], b⟩) rfl ?_
  rw [eqOr]
  refine sq a0 (sq a1 (se ?_))
  unfold sO_2
  refine ev_iffT et ?_
  simp [evalSs, evalS, evalE, evalEs, evalPs, evalT, evalTB, bindS, bindR, retR, optR, slotE, slotP, pk, truR, truD, callR]
theorem o26_ok (hR : RateAt F 15) (hN : NowAt F 18) (hB : ∀ (p q : Rat) (n m : Nat) (b : Bx), Sz n p → Sz m q → n + m ≤ 8000 → F 12 [qD p, qD q] b = .ok (.bl (decide (p < q))) b) {rs : List Rat} (hf : Fl fs) (ho : Fl os) (hz : Rs rs) : runF F HD.con fw ⟨3, 4, b_is_covered⟩ [flD fs, flD os, .tup (rs.map qD)] b = .ok (.bl (!rs.any (lessQ fs os))) b := by
  have l1 := hz.l1
  have l2 := hz.l2
  have f12 := hf.2.1
  have o12 := ho.2.1
  have e := hC (flD fs) b (nf1_fl fs)
  rw [hf.good, if_pos rfl] at e
  have e2 := hC (flD os) b (nf1_fl os)
  rw [ho.good, if_pos rfl] at e2
  generalize hS : (⟨[.v (flD fs), .v (flD os), .v (.tup (rs.map qD)), .no], b⟩ : S) = st
  have a0 : evalS F HD.con fw sO_0 st = .next st := by subst hS; simp [sO_0, evalSs, evalS, evalE, evalEs, evalPs, evalT, evalTB, bindS, bindR, retR, optR, slotE, slotP, pk, truR, truD, callR, e]
  have a1 : evalS F HD.con fw sO_1 st = .next st := by subst hS; simp [sO_1, evalSs, evalS, evalE, evalEs, evalPs, evalT, evalTB, bindS, bindR, retR, optR, slotE, slotP, pk, truR, truD, callR, e2]
  have t1 : evalT F HD.con (.not (.val (.isi (.slot 2) .tuple))) st = .ok false st := by
    subst hS; simp [evalSs, evalS, evalE, evalEs, evalPs, evalT, evalTB, bindS, bindR, retR, optR, slotE, slotP, pk, truR, truD, callR, isiD]
  have t2 : evalT F HD.con (.not (.val (.chain .le .le (.int 1) (.blt .len (.cons (.slot 2) .nil)) (.glob 5)))) st = .ok false st := by
    have h1' : (1 : Int) ≤ rs.length := by omega
    have h2' : (rs.length : Int) ≤ 20 := by omega
    subst hS; simp [evalSs, evalS, evalE, evalEs, evalPs, evalT, evalTB, bindS, bindR, retR, optR, slotE, slotP, pk, truR, truD, callR, bltD, cpD, con5, h1', h2']
  have hsl : evalE F HD.con (.slot 2) st = .ok (.tup (rs.map qD)) st := by subst hS; exact ev_slot rfl
  have hc : compR (.name 3) (retR true) (evalE F HD.con eO_0) (rs.map qD) st = .ok (.lst (rs.map fun q => .bl true)) st := by
    subst hS
    exact compR_oneA (elt := evalE F HD.con eO_0) (env := [.v (flD fs), .v (flD os), .v (.tup (rs.map qD)), .no]) (b := b) (j := 3) (f := qD) (g := fun q => .bl true) (xs := rs) rfl (by unfold big; omega) fun q hq => by
      have := hR (qD q) b (nf1_qD q)
      rw [rate_of.mpr (hz.sz q hq).2] at this
      simp [eO_0, evalSs, evalS, evalE, evalEs, evalPs, evalT, evalTB, bindS, bindR, retR, optR, slotE, slotP, pk, truR, truD, callR, this]
  have ec := ev_comp (ev_seqT hsl) hc
  have ea := ev_blt1 (o := .all) (d := .bl ((rs.map fun _ => true).all id)) (show pk (.comp eO_0 (.name 3) (.seq (.slot 2))) (evalE F HD.con (.comp eO_0 (.name 3) (.seq (.slot 2)))) _ = _ from ec) (by show (bls? _).map _ = _; rw [all_bls (f := fun _ : Rat => true)]; rfl)
  have hall : (rs.map fun _ => true).all id = true := by rw [List.all_map]; simp
  rw [hall] at ea
  have t3 := ev_tnot (ev_tval (k := true) (show pk (.blt .all (.cons (.comp eO_0 (.name 3) (.seq (.slot 2))) .nil)) (evalE F HD.con (.blt .all (.cons (.comp eO_0 (.name 3) (.seq (.slot 2))) .nil))) _ = _ from ea) rfl)
  have a2 : evalS F HD.con fw sO_2 st = .next st := by
    unfold sO_2 tO_2
    exact ev_iffno (ev_tgo t1 (ev_tgo t2 (ev_t1 t3)))
  have hc2 : compR (.name 3) (retR true) (evalE F HD.con eO_1) (rs.map qD) st = .ok (.lst (rs.map fun q => .bl (lessQ fs os q))) st := by
    subst hS
    exact compR_oneA (elt := evalE F HD.con eO_1) (env := [.v (flD fs), .v (flD os), .v (.tup (rs.map qD)), .no]) (b := b) (j := 3) (f := qD) (g := fun q => .bl (lessQ fs os q)) (xs := rs) rfl (by unfold big; omega) fun q hq => by
      obtain ⟨h9, hq0⟩ := hz.sz q hq
      have zs : Sz 12 (1 / (1 + q)) := sz1.div (sz11 h9) (num_ne hq0)
      have n1 := hN (flD fs) fs q b (.inl rfl) hf.bg h9 hq0
      have n2 := hN (flD os) os q b (.inl rfl) ho.bg h9 hq0
      have n3 := hB _ _ _ _ b (wQ_szB zs hf.bg.2) (wQ_szB zs ho.bg.2) (by omega)
      simp [eO_1, evalSs, evalS, evalE, evalEs, evalPs, evalT, evalTB, bindS, bindR, retR, optR, slotE, slotP, pk, truR, truD, callR, n1, n2, n3, lessQ]
  have ec2 := ev_comp (ev_seqT hsl) hc2
  have ea2 := ev_blt1 (o := .any) (d := .bl ((rs.map (lessQ fs os)).any id)) (show pk (.comp eO_1 (.name 3) (.seq (.slot 2))) (evalE F HD.con (.comp eO_1 (.name 3) (.seq (.slot 2)))) _ = _ from ec2) (by show (bls? _).map _ = _; rw [all_bls]; rfl)
  refine run_of rfl ?_
  rw [eqOr]
  have hret : evalE F HD.con (.not (.blt .any (.cons (.comp eO_1 (.name 3) (.seq (.slot 2))) .nil))) st = .ok (.bl (!rs.any (lessQ fs os))) st := by
    rw [evalE, bindR_ok (show pk (.blt .any (.cons (.comp eO_1 (.name 3) (.seq (.slot 2))) .nil)) (evalE F HD.con (.blt .any (.cons (.comp eO_1 (.name 3) (.seq (.slot 2))) .nil))) st = _ from ea2)]
    show R.ok (D.bl (!(rs.map (lessQ fs os)).any id)) st = _
    rw [List.any_map]
    rfl
  have := ev_ret (fw := fw) hret
  subst hS
  exact sq a0 (sq a1 (sq a2 (sr this)))
end
theorem gcd_qD {q : Rat} {b : Bx} (hG : ∀ (i j : Int) (b : Bx), j.natAbs.log2 < 9000 → F 29 [.int i, .int j] b = .ok (.int ((Nat.gcd i.natAbs j.natAbs : Nat) : Int)) b) {m : Nat} (hq : Sz m q) (hm : m ≤ 8000) : F 29 [.int q.num, .int (q.den : Int)] b = .ok (.int 1) b := by
  have := hG q.num q.den b (by
    have h1 : q.den < 2 ^ 8001 := Nat.lt_of_lt_of_le hq.2 (Nat.pow_le_pow_right (by omega) (by omega))
    have h2 : (q.den : Int).natAbs = q.den := by omega
    have h3 := (Nat.log2_lt (Nat.pos_iff_ne_zero.mp q.den_pos)).mpr h1
    rw [h2]
    omega)
  rw [this]
  have := q.reduced
  rw [Nat.Coprime] at this
  simp [this]
theorem j48 (hG : ∀ (i j : Int) (b : Bx), j.natAbs.log2 < 9000 → F 29 [.int i, .int j] b = .ok (.int ((Nat.gcd i.natAbs j.natAbs : Nat) : Int)) b) {q : Rat} {m : Nat} (hq : Sz m q) (hm : m ≤ 8000) : runF F HD.con fw ⟨1, 2, b__law_is_fraction⟩ [qD q] b = .ok (.bl true) b := by
  have e := gcd_qD (b := b) hG hq hm
  have hd : (0 : Int) < (q.den : Int) := by have := q.den_pos; omega
  have hc := compR_none (cond := evalT F HD.con ceJ_0) (elt := evalE F HD.con eJ_0) (env := [.v (qD q), .no]) (b := b) (j := 1) rfl (xs := [.int q.num, .int (q.den : Int)]) (by show 2 ≤ big; decide) fun x hx => by
    simp only [List.mem_cons, List.not_mem_nil, or_false] at hx
    rcases hx with rfl | rfl <;> simp [ceJ_0, evalSs, evalS, evalE, evalEs, evalPs, evalT, evalTB, bindS, bindR, retR, optR, slotE, slotP, pk, truR, truD, callR, isiD]
  have hs : evalE F HD.con (.slot 0) ⟨[.v (qD q), .no], b⟩ = .ok (.tup [.int q.num, .int (q.den : Int)]) ⟨[.v (qD q), .no], b⟩ := ev_slot rfl
  have ec := ev_compI (ev_seqT hs) hc
  have t1 : evalT F HD.con (.not (.val (.isi (.slot 0) .tuple))) ⟨[.v (qD q), .no], b⟩ = .ok false ⟨[.v (qD q), .no], b⟩ := by
    unfold qD; simp [evalSs, evalS, evalE, evalEs, evalPs, evalT, evalTB, bindS, bindR, retR, optR, slotE, slotP, pk, truR, truD, callR, isiD]
  have t2 : evalT F HD.con (.val (.cmp .ne (.blt .len (.cons (.slot 0) .nil)) (.int 2))) ⟨[.v (qD q), .no], b⟩ = .ok false ⟨[.v (qD q), .no], b⟩ := by
    unfold qD; simp [evalSs, evalS, evalE, evalEs, evalPs, evalT, evalTB, bindS, bindR, retR, optR, slotE, slotP, pk, truR, truD, callR, bltD, cpD, eq_int]
  have t3 : evalT F HD.con (.val (.cmp .ne (.compIf eJ_0 (.name 1) (.seq (.slot 0)) ceJ_0) (.lst .nil))) ⟨[.v (qD q), .no], b⟩ = .ok false ⟨[.v (qD q), .no], b⟩ := by
    refine ev_valC (ev_cmpG (x := .lst []) (y := .lst []) (show pk (.compIf eJ_0 (.name 1) (.seq (.slot 0)) ceJ_0) (evalE F HD.con (.compIf eJ_0 (.name 1) (.seq (.slot 0)) ceJ_0)) _ = _ from ec) ?_ rfl)
    show evalE F HD.con (.lst .nil) _ = _
    simp [evalE, evalEs, bindR, retR]
  refine run_of rfl ?_
  rw [eqJr]
  refine sq (s' := ⟨[.v (qD q), .no], b⟩) ?_ (sr ?_)
  · unfold sJ_0 tJ_0
    exact ev_iffno (ev_tgo t1 (ev_tgo t2 (ev_t1 t3)))
  · have x0 : ixD (qD q) (.int 0) = some (.int q.num) := at0
    have x1 : ixD (qD q) (.int 1) = some (.int (q.den : Int)) := at1
    unfold qD at *
    simp [sJ_1, evalSs, evalS, evalE, evalEs, evalPs, evalT, evalTB, bindS, bindR, retR, optR, slotE, slotP, pk, truR, truD, callR, evalB, x0, x1, cpD, hd, q.den_pos, e, eq_int]
end
end HD

namespace HD
open PySem PySem.Spec PV
section
variable {F : FT} {fw : Nat} {b : Bx} {x y z : D} {r : Rat} {fs gs os : List Int}

def IsI (W : Int) (d : D) : Prop := ∃ x : Int, d = .int x ∧ -W ≤ x ∧ x ≤ W

theorem isI_list {W : Int} : ∀ {ds : List D}, (∀ d ∈ ds, IsI W d) → ∃ xs : List Int, ds = xs.map D.int ∧ ∀ x ∈ xs, -W ≤ x ∧ x ≤ W
  | [], _ => ⟨[], rfl, by simp⟩
  | d :: ds, h => by
    obtain ⟨x, rfl, hx⟩ := h d List.mem_cons_self
    obtain ⟨xs, rfl, hxs⟩ := isI_list fun e he => h e (List.mem_cons_of_mem _ he)
    exact ⟨x :: xs, rfl, fun y hy => by
      rcases List.mem_cons.mp hy with rfl | hy
      · exact hx
      · exact hxs y hy⟩

theorem abs_i (x : Int) : (if x < 0 then -x else x) = ((x.natAbs : Nat) : Int) := by split <;> omega

def flE (most wide many way : Int) (s3 : Sl) : List Sl := [.v .box, .v (.int most), .v (.int wide), s3, .v (.int many), .v (.int way), .no, .no]

theorem flow_1 (hT : TakeAt F 27) {most wide way : Int} {many : Nat} (h1 : 1 ≤ many) (h2 : many ≤ 12) (hw : 1 ≤ wide ∧ wide ≤ 900000) {m : Nat} (hb : BI m b) (hm : m ≤ 800000000) : ∃ (xs : List Int) (b' : Bx), evalS F HD.con fw sW_1 ⟨flE most wide many way .no, b⟩ = .next ⟨flE most wide many way (.own (xs.map D.int)), b'⟩ ∧ xs.length = many ∧ (∀ x ∈ xs, -wide ≤ x ∧ x ≤ wide) ∧ BI (m + many) b' := by
  obtain ⟨ds, b', e, q1, q2, q3⟩ := compR_box (elt := evalE F HD.con eW_0) (env := flE most wide many way .no) (j := 6) rfl (Q := IsI wide) (M := 900000000) (xs := rangeD 0 (many : Int)) (b := b) (m := m) (by rw [rng_len]; unfold big; omega) hb (by rw [rng_len]; omega) fun x hx b m hb hm => by
    have mo : mulOk 2 wide = true := mulOk_sz (n := 2) (m := 20) (by decide) (by omega) (by omega)
    obtain ⟨t, b1, e1, p1, p2, i1⟩ := hT (2 * wide + 1) m b (by omega) (by omega) hb (by omega)
    refine ⟨.int (t - wide), b1, ?_, ⟨_, rfl, by omega, by omega⟩, i1⟩
    unfold flE
    simp [eW_0, evalSs, evalS, evalE, evalEs, evalPs, evalT, evalTB, bindS, bindR, retR, optR, slotE, slotP, pk, truR, truD, callR, binD, mo, e1]
  rw [rng_len] at q1 q3
  obtain ⟨xs, rfl, hxs⟩ := isI_list q2
  rw [List.length_map] at q1
  have eI := ev_range1s (F := F) (con := HD.con) (e := .slot 4) (env := flE most wide many way .no) (b := b) (n := many) (ev_slot rfl) (by omega)
  refine ⟨xs, b', ?_, q1, hxs, q3⟩
  unfold sW_1
  rw [ev_ownL (ev_comp eI e) (by show 3 < 8; omega)]
  rfl

theorem flow_2 {most wide way : Int} {many : Nat} (hw : 1 ≤ wide ∧ wide ≤ 900000) {xs : List Int} (hl : 1 ≤ xs.length ∧ xs.length ≤ 12) (hx : ∀ x ∈ xs, -wide ≤ x ∧ x ≤ wide) : ∃ ys : List Int, evalS F HD.con fw sW_2 ⟨flE most wide many way (.own (xs.map D.int)), b⟩ = .next ⟨flE most wide many way (.own (ys.map D.int)), b⟩ ∧ ys.length = xs.length ∧ (∀ x ∈ ys, -(wide + 1) ≤ x ∧ x ≤ wide + 1) := by
  have et : evalT F HD.con tW_2 ⟨flE most wide many way (.own (xs.map D.int)), b⟩ = .ok (decide (way = 0)) ⟨flE most wide many way (.own (xs.map D.int)), b⟩ := by
    unfold flE
    simp [tW_2, evalSs, evalS, evalE, evalEs, evalPs, evalT, evalTB, bindS, bindR, retR, optR, slotE, slotP, pk, truR, truD, callR, cpD, eq_int]
  unfold sW_2
  by_cases h : way = 0
  · match xs, hl with
    | x :: xs, hl =>
      have hc := compR_oneA (elt := evalE F HD.con eW_1) (env := flE most wide many way (.own ((x :: xs).map D.int))) (b := b) (j := 7) (f := D.int) (g := fun x => D.int ((x.natAbs : Nat) : Int)) (xs := xs) rfl (by rw [List.length_cons] at hl; unfold big; omega) fun y hy => by
        unfold flE
        simp [eW_1, evalSs, evalS, evalE, evalEs, evalPs, evalT, evalTB, bindS, bindR, retR, optR, slotE, slotP, pk, truR, truD, callR, bltD, abs_i]
      have hcut : cutD ((x :: xs).map D.int) (some 1) none = xs.map D.int := by
        unfold cutD
        rw [HT.sIx_none, show (1 : Int) = ((1 : Nat) : Int) from rfl, HT.sIx_nat, List.length_map, List.length_cons, Nat.min_eq_left (by omega)]
        simp [List.take_of_length_le]
      have eI : evalI F HD.con (.seq (.slLo (.slot 3) (.int 1))) ⟨flE most wide many way (.own ((x :: xs).map D.int)), b⟩ = .ok (xs.map D.int) ⟨flE most wide many way (.own ((x :: xs).map D.int)), b⟩ := by
        rw [← hcut]
        unfold flE
        simp [evalI, evalE, bindR, retR, optR, slotP, pk, intR, slD, seqD]
      have e1 : evalE F HD.con (.lst (.cons (.bin .sub (.neg (.blt .abs (.cons (.ix (.slot 3) (.int 0)) .nil))) (.int 1)) .nil)) ⟨flE most wide many way (.own ((x :: xs).map D.int)), b⟩ = .ok (.lst [.int (-((x.natAbs : Nat) : Int) - 1)]) ⟨flE most wide many way (.own ((x :: xs).map D.int)), b⟩ := by
        unfold flE
        simp [evalE, evalEs, evalPs, bindR, retR, optR, slotP, pk, intR, bltD, ixD, at0, abs_i, binD, big1]
      have e2 : evalE F HD.con (.bin .add (.lst (.cons (.bin .sub (.neg (.blt .abs (.cons (.ix (.slot 3) (.int 0)) .nil))) (.int 1)) .nil)) (.comp eW_1 (.name 7) (.seq (.slLo (.slot 3) (.int 1))))) ⟨flE most wide many way (.own ((x :: xs).map D.int)), b⟩ = .ok (.lst (((-((x.natAbs : Nat) : Int) - 1) :: xs.map fun x => ((x.natAbs : Nat) : Int)).map D.int)) ⟨flE most wide many way (.own ((x :: xs).map D.int)), b⟩ := by
        rw [evalE, bindR_ok (show pk (.lst (.cons (.bin .sub (.neg (.blt .abs (.cons (.ix (.slot 3) (.int 0)) .nil))) (.int 1)) .nil)) (evalE F HD.con (.lst (.cons (.bin .sub (.neg (.blt .abs (.cons (.ix (.slot 3) (.int 0)) .nil))) (.int 1)) .nil))) _ = _ from e1), bindR_ok (show pk (.comp eW_1 (.name 7) (.seq (.slLo (.slot 3) (.int 1)))) (evalE F HD.con (.comp eW_1 (.name 7) (.seq (.slLo (.slot 3) (.int 1))))) _ = _ from ev_comp eI hc)]
        have hb : 1 + xs.length ≤ big := by rw [List.length_cons] at hl; unfold big; omega
        simp [optR, binD, hb]
      refine ⟨(-((x.natAbs : Nat) : Int) - 1) :: xs.map fun x => ((x.natAbs : Nat) : Int), ev_iffT (et.trans (by rw [decide_eq_true h])) (sq (ev_ownL e2 (by show 3 < 8; omega)) s0), by simp, fun y hy => ?_⟩
      rcases List.mem_cons.mp hy with rfl | hy
      · have := hx x List.mem_cons_self; omega
      · obtain ⟨z, hz, rfl⟩ := List.mem_map.mp hy
        have := hx z (List.mem_cons_of_mem _ hz)
        omega
  · exact ⟨xs, ev_iffno (et.trans (by rw [decide_eq_false h])), rfl, fun y hy => by have := hx y hy; omega⟩

theorem flow_3 {most wide way W : Int} {many : Nat} {xs : List Int} (hl : xs.length ≤ 12) (hx : ∀ x ∈ xs, -W ≤ x ∧ x ≤ W) : ∃ ys : List Int, evalS F HD.con fw sW_3 ⟨flE most wide many way (.own (xs.map D.int)), b⟩ = .next ⟨flE most wide many way (.own (ys.map D.int)), b⟩ ∧ ys.length = xs.length ∧ (∀ x ∈ ys, -W ≤ x ∧ x ≤ W) := by
  have et : evalT F HD.con tW_3 ⟨flE most wide many way (.own (xs.map D.int)), b⟩ = .ok (decide (way = 1)) ⟨flE most wide many way (.own (xs.map D.int)), b⟩ := by
    unfold flE
    simp [tW_3, evalSs, evalS, evalE, evalEs, evalPs, evalT, evalTB, bindS, bindR, retR, optR, slotE, slotP, pk, truR, truD, callR, cpD, eq_int]
  unfold sW_3
  by_cases h : way = 1
  · have hc := compR_oneA (elt := evalE F HD.con eW_2) (env := flE most wide many way (.v (.lst (xs.map D.int)))) (b := b) (j := 7) (f := D.int) (g := fun x => D.int ((x.natAbs : Nat) : Int)) (xs := xs) rfl (by unfold big; omega) fun y hy => by
      unfold flE
      simp [eW_2, evalSs, evalS, evalE, evalEs, evalPs, evalT, evalTB, bindS, bindR, retR, optR, slotE, slotP, pk, truR, truD, callR, bltD, abs_i]
    have eI : evalI F HD.con (.seq (.slot 3)) ⟨flE most wide many way (.own (xs.map D.int)), b⟩ = .ok (xs.map D.int) ⟨flE most wide many way (.v (.lst (xs.map D.int))), b⟩ := by
      unfold flE
      simp [evalI, evalE, bindR, optR, slotE, seqD]
    have hm : (xs.map fun x => D.int ((x.natAbs : Nat) : Int)) = (xs.map fun x => ((x.natAbs : Nat) : Int)).map D.int := by rw [List.map_map]; rfl
    rw [hm] at hc
    refine ⟨xs.map fun x => ((x.natAbs : Nat) : Int), ev_iffT (et.trans (by rw [decide_eq_true h])) (sq (ev_ownL (ev_comp eI hc) (by show 3 < 8; omega)) s0), by simp, fun y hy => ?_⟩
    obtain ⟨z, hz, rfl⟩ := List.mem_map.mp hy
    have := hx z hz
    omega
  · exact ⟨xs, ev_iffno (et.trans (by rw [decide_eq_false h])), rfl, hx⟩

theorem flow_4 (hT : TakeAt F 27) {most wide way W : Int} {many : Nat} (hW : 0 ≤ W ∧ W ≤ 1000000) {xs : List Int} (hl : xs.length ≤ 12) (hx : ∀ x ∈ xs, -W ≤ x ∧ x ≤ W) {m : Nat} (hb : BI m b) (hm : m ≤ 800000000) : ∃ (ys : List Int) (b' : Bx), evalS F HD.con fw sW_4 ⟨flE most wide many way (.own (xs.map D.int)), b⟩ = .next ⟨flE most wide many way (.own (ys.map D.int)), b'⟩ ∧ ys.length = xs.length ∧ (∀ x ∈ ys, -W ≤ x ∧ x ≤ W) ∧ BI (m + 12) b' := by
  have et : evalT F HD.con tW_4 ⟨flE most wide many way (.own (xs.map D.int)), b⟩ = .ok (decide (way = 2)) ⟨flE most wide many way (.own (xs.map D.int)), b⟩ := by
    unfold flE
    simp [tW_4, evalSs, evalS, evalE, evalEs, evalPs, evalT, evalTB, bindS, bindR, retR, optR, slotE, slotP, pk, truR, truD, callR, cpD, eq_int]
  unfold sW_4
  by_cases h : way = 2
  · obtain ⟨ds, b', e, q1, q2, q3⟩ := compR_box (elt := evalE F HD.con eW_3) (env := flE most wide many way (.v (.lst (xs.map D.int)))) (j := 7) rfl (Q := IsI W) (M := 900000000) (xs := xs.map D.int) (b := b) (m := m) (by rw [List.length_map]; unfold big; omega) hb (by rw [List.length_map]; omega) fun d hd b m hb hm => by
      obtain ⟨x, hx', rfl⟩ := List.mem_map.mp hd
      have hxx := hx x hx'
      obtain ⟨t, b1, e1, p1, p2, i1⟩ := hT 3 m b (by omega) (by omega) hb (by omega)
      have mo1 : mulOk x 1 = true := mulOk_sz (n := 21) (m := 2) (by omega) (by decide) (by omega)
      have mo0 : mulOk x 0 = true := mulOk_sz (n := 21) (m := 2) (by omega) (by decide) (by omega)
      by_cases ht : 0 < t
      · refine ⟨.int (x * 1), b1, ?_, ⟨_, rfl, by omega, by omega⟩, i1⟩
        unfold flE
        simp [eW_3, evalSs, evalS, evalE, evalEs, evalPs, evalT, evalTB, bindS, bindR, retR, optR, slotE, slotP, pk, truR, truD, callR, binD, mo1, e1, cpD, bltD, ht]
      · refine ⟨.int (x * 0), b1, ?_, ⟨_, rfl, by omega, by omega⟩, i1⟩
        unfold flE
        simp [eW_3, evalSs, evalS, evalE, evalEs, evalPs, evalT, evalTB, bindS, bindR, retR, optR, slotE, slotP, pk, truR, truD, callR, binD, mo0, e1, cpD, bltD, ht]
    obtain ⟨ys, rfl, hys⟩ := isI_list q2
    rw [List.length_map, List.length_map] at q1
    rw [List.length_map] at q3
    have eI : evalI F HD.con (.seq (.slot 3)) ⟨flE most wide many way (.own (xs.map D.int)), b⟩ = .ok (xs.map D.int) ⟨flE most wide many way (.v (.lst (xs.map D.int))), b⟩ := by
      unfold flE
      simp [evalI, evalE, bindR, optR, slotE, seqD]
    refine ⟨ys, b', ev_iffT (et.trans (by rw [decide_eq_true h])) (sq (ev_ownL (ev_comp eI e) (by show 3 < 8; omega)) s0), q1, hys, bi_mono q3 (by omega)⟩
  · exact ⟨xs, b, ev_iffno (et.trans (by rw [decide_eq_false h])), rfl, hx, bi_mono hb (by omega)⟩

theorem flow_5 (hT : TakeAt F 27) {most wide way : Int} {many : Nat} {xs : List Int} (hl : 1 ≤ xs.length ∧ xs.length ≤ 12) (hx : ∀ x ∈ xs, -1000000 ≤ x ∧ x ≤ 1000000) {m : Nat} (hb : BI m b) (hm : m ≤ 800000000) : ∃ (ys : List Int) (b' : Bx), evalS F HD.con fw sW_5 ⟨flE most wide many way (.own (xs.map D.int)), b⟩ = .next ⟨flE most wide many way (.own (ys.map D.int)), b'⟩ ∧ Fl ys ∧ BI (m + 1) b' := by
  have et : evalT F HD.con tW_5 ⟨flE most wide many way (.own (xs.map D.int)), b⟩ = .ok (decide (way = 3)) ⟨flE most wide many way (.own (xs.map D.int)), b⟩ := by
    unfold flE
    simp [tW_5, evalSs, evalS, evalE, evalEs, evalPs, evalT, evalTB, bindS, bindR, retR, optR, slotE, slotP, pk, truR, truD, callR, cpD, eq_int]
  unfold sW_5
  by_cases h : way = 3
  · obtain ⟨t, b1, e1, p1, p2, i1⟩ := hT 9 m b (by omega) (by omega) hb (by omega)
    have hix : L2.ixN (xs.map D.int).length ((xs.length : Int) - 1) = some (xs.length - 1) := by
      unfold L2.ixN
      rw [if_pos (by omega), if_pos (by rw [List.length_map]; omega)]
      congr 1; omega
    have hset : (xs.map D.int).set (xs.length - 1) (.int (1000000 - t)) = (xs.set (xs.length - 1) (1000000 - t)).map D.int := by rw [List.map_set]
    refine ⟨xs.set (xs.length - 1) (1000000 - t), b1, ev_iffT (et.trans (by rw [decide_eq_true h])) (sq (s' := ⟨flE most wide many way (.own ((xs.set (xs.length - 1) (1000000 - t)).map D.int)), b1⟩) ?_ s0), ⟨by rw [List.length_set]; exact hl.1, by rw [List.length_set]; exact hl.2, fun y hy => ?_⟩, i1⟩
    · rw [← hset]
      generalize hn : xs.map D.int = ds at hix
      have hdl : ds.length = xs.length := by rw [← hn, List.length_map]
      unfold flE
      rw [hdl] at hix
      simp [evalS, evalE, evalEs, evalPs, bindS, bindR, retR, optR, slotE, slotP, pk, callR, e1, binD, bltD, setSl, hdl, hix]
    · rcases List.mem_or_eq_of_mem_set hy with hy | rfl
      · exact hx y hy
      · omega
  · exact ⟨xs, b, ev_iffno (et.trans (by rw [decide_eq_false h])), ⟨hl.1, hl.2, hx⟩, bi_mono hb (by omega)⟩

theorem w31 (hT : TakeAt F 27) {most wide : Int} (hmo : 1 ≤ most ∧ most ≤ 12) (hw : 1 ≤ wide ∧ wide ≤ 900000) {m : Nat} (hb : BI m b) (hm : m ≤ 700000000) : ∃ (fs : List Int) (b' : Bx), runF F HD.con fw ⟨3, 8, b__law_flow⟩ [.box, .int most, .int wide] b = .ok (flD fs) b' ∧ Fl fs ∧ BI (m + 27) b' := by
  obtain ⟨t1, b1, e1, p1, q1, i1⟩ := hT most m b (by omega) (by omega) hb (by omega)
  obtain ⟨way, b2, e2, p2, q2, i2⟩ := hT 5 (m + 1) b1 (by omega) (by omega) i1 (by omega)
  obtain ⟨many, hmany⟩ : ∃ n : Nat, (n : Int) = 1 + t1 := ⟨(1 + t1).toNat, by omega⟩
  have s0' : evalS F HD.con fw sW_0 ⟨[.v .box, .v (.int most), .v (.int wide), .no, .no, .no, .no, .no], b⟩ = .next ⟨flE most wide many way .no, b2⟩ := by
    rw [hmany]
    unfold flE
    simp [sW_0, evalSs, evalS, evalE, evalEs, evalPs, evalT, evalTB, bindS, bindR, retR, optR, slotE, slotP, pk, truR, truD, callR, e1, e2, binD, storeL]
  obtain ⟨xs, b3, s1, l1, x1, i3⟩ := flow_1 (fw := fw) hT (most := most) (way := way) (many := many) (by omega) (by omega) hw i2 (by omega)
  obtain ⟨ys, s2, l2, x2⟩ := flow_2 (F := F) (fw := fw) (b := b3) (most := most) (way := way) (many := many) hw (xs := xs) (by omega) x1
  obtain ⟨zs, s3, l3, x3⟩ := flow_3 (F := F) (fw := fw) (b := b3) (most := most) (wide := wide) (way := way) (many := many) (W := wide + 1) (xs := ys) (by omega) x2
  obtain ⟨us, b4, s4, l4, x4, i4⟩ := flow_4 (fw := fw) hT (most := most) (wide := wide) (way := way) (many := many) (W := wide + 1) (by omega) (xs := zs) (by omega) x3 i3 (by omega)
  obtain ⟨vs, b5, s5, hv, i5⟩ := flow_5 (fw := fw) hT (most := most) (wide := wide) (way := way) (many := many) (xs := us) (by omega) (fun x hx => by have := x4 x hx; omega) i4 (by omega)
  refine ⟨vs, b5, ?_, hv, bi_mono i5 (by omega)⟩
  refine run_of rfl ?_
  rw [eqWr]
  refine sq s0' (sq s1 (sq s2 (sq s3 (sq s4 (sq s5 (sr ?_))))))
  unfold flE flD
  simp [sW_6, evalSs, evalS, evalE, evalEs, evalPs, evalT, evalTB, bindS, bindR, retR, optR, slotE, slotP, pk, truR, truD, callR, bltD]

theorem nf0_i {xs : List Int} : (xs.map D.int).all nf0 = true := by
  rw [List.all_eq_true]
  intro d hd
  obtain ⟨i, _, rfl⟩ := List.mem_map.mp hd
  rfl

structure Odd (x : D) : Prop where
  nf : nf0 x = true
  bt : betB x (-1000000) 1000000 = false
  pl : PlC 1 x

theorem noFl_odd {xs zs : List Int} (hx : Odd x) (hl : xs.length + zs.length ≤ 12) : NoFl (.tup (xs.map D.int ++ [x] ++ zs.map D.int)) where
  nf := by
    show List.all _ nf0 = true
    rw [List.all_append, List.all_append, nf0_i, nf0_i]
    simp [hx.nf]
  fl := by
    show (_ && _ && List.all _ _) = false
    rw [List.all_append, List.all_append]
    simp [hx.bt]
  pl := .upTo (n := 2) (.tup (by simp; unfold big; omega) fun y hy => by
    rw [List.mem_append, List.mem_append] at hy
    rcases hy with (hy | hy) | hy
    · obtain ⟨i, _, rfl⟩ := List.mem_map.mp hy; exact .int _
    · rw [List.mem_singleton.mp hy]; exact hx.pl
    · obtain ⟨i, _, rfl⟩ := List.mem_map.mp hy; exact .int _) (by omega)

theorem odd_all : ∀ x ∈ ([.non, .bl true, .str "1", .tup [.int 1], .int 1000001, .int (-1000001), .tup [.int 1, .int 2]] : List D), Odd x := by
  intro x hx
  simp only [List.mem_cons, List.not_mem_nil, or_false] at hx
  rcases hx with rfl | rfl | rfl | rfl | rfl | rfl | rfl
  · exact ⟨rfl, rfl, .non⟩
  · exact ⟨rfl, rfl, .bl _⟩
  · exact ⟨rfl, rfl, .str sb_1⟩
  · exact ⟨rfl, rfl, .tup big1 fun y hy => by rw [List.mem_singleton.mp hy]; exact .int _⟩
  · exact ⟨rfl, by decide, .int _⟩
  · exact ⟨rfl, by decide, .int _⟩
  · exact ⟨rfl, rfl, (plB_two (.int _) (.int _)).c⟩

theorem thirteen : NoFl (.tup [.int 1, .int 1, .int 1, .int 1, .int 1, .int 1, .int 1, .int 1, .int 1, .int 1, .int 1, .int 1, .int 1]) :=
  ⟨rfl, by decide, .tup (n := 2) (by show 13 ≤ big; decide) fun y hy => by
    have : ∀ y ∈ (List.replicate 13 (.int 1) : List D), PlC 2 y := fun y hy => by rw [(List.mem_replicate.mp hy).2]; exact .int _
    exact this y hy⟩

theorem n34 (hT : TakeAt F 27) (h : Fl fs) {m : Nat} (hb : BI m b) (hm : m ≤ 800000000) : ∃ (x : D) (b' : Bx), runF F HD.con fw ⟨2, 4, b__law_no_flow⟩ [.box, flD fs] b = .ok x b' ∧ NoFl x ∧ BI (m + 3) b' := by
  have l1 := h.1
  have l2 := h.2.1
  obtain ⟨t1, b1, e1, p1, q1, i1⟩ := hT (fs.length : Int) m b (by omega) (by omega) hb (by omega)
  obtain ⟨at', hat⟩ : ∃ n : Nat, (n : Int) = t1 := ⟨t1.toNat, by omega⟩
  subst hat
  obtain ⟨t2, b2, e2, p2, q2, i2⟩ := hT 7 (m + 1) b1 (by omega) (by omega) i1 (by omega)
  obtain ⟨od, ho, ha⟩ := atI_mem (xs := [.non, .bl true, .str "1", .tup [.int 1], .int 1000001, .int (-1000001), .tup [.int 1, .int 2]]) p2 q2
  have hodd := odd_all od ho
  obtain ⟨t3, b3, e3, p3, q3, i3⟩ := hT 9 (m + 2) b2 (by omega) (by omega) i2 (by omega)
  have hn := noFl_odd (xs := fs.take at') (zs := fs.drop (at' + 1)) hodd (by rw [List.length_take, List.length_drop]; omega)
  rw [List.map_take, List.map_drop] at hn
  have hM : ∀ x ∈ ([.lst (fs.map D.int), .tup [], .tup [.int 1, .int 1, .int 1, .int 1, .int 1, .int 1, .int 1, .int 1, .int 1, .int 1, .int 1, .int 1, .int 1], .non, .str "12", .int 5, .dct [], .tup ((fs.map D.int).take at' ++ [od] ++ (fs.map D.int).drop (at' + 1)), .tup ((fs.map D.int).take at' ++ [od] ++ (fs.map D.int).drop (at' + 1))] : List D), NoFl x := by
    intro x hx
    simp only [List.mem_cons, List.not_mem_nil, or_false] at hx
    rcases hx with rfl | rfl | rfl | rfl | rfl | rfl | rfl | rfl | rfl
    · exact ⟨rfl, rfl, .lst (n := 2) (by rw [List.length_map]; unfold big; omega) fun y hy => by obtain ⟨i, _, rfl⟩ := List.mem_map.mp hy; exact .int _⟩
    · exact ⟨rfl, rfl, .tup (n := 2) (by show 0 ≤ big; omega) fun y hy => nomatch hy⟩
    · exact thirteen
    · exact ⟨rfl, rfl, .non⟩
    · exact ⟨rfl, rfl, .str sb_12⟩
    · exact ⟨rfl, rfl, .int _⟩
    · exact ⟨rfl, rfl, .dct⟩
    · exact hn
    · exact hn
  obtain ⟨x, hx, hxa⟩ := atI_mem (xs := [.lst (fs.map D.int), .tup [], .tup [.int 1, .int 1, .int 1, .int 1, .int 1, .int 1, .int 1, .int 1, .int 1, .int 1, .int 1, .int 1, .int 1], .non, .str "12", .int 5, .dct [], .tup ((fs.map D.int).take at' ++ [od] ++ (fs.map D.int).drop (at' + 1)), .tup ((fs.map D.int).take at' ++ [od] ++ (fs.map D.int).drop (at' + 1))]) p3 q3
  have s0' : evalS F HD.con fw sB_0 ⟨[.v .box, .v (flD fs), .no, .no], b⟩ = .next ⟨[.v .box, .v (flD fs), .v (.int (at' : Int)), .no], b1⟩ := by
    unfold flD
    simp [sB_0, evalSs, evalS, evalE, evalEs, evalPs, evalT, evalTB, bindS, bindR, retR, optR, slotE, slotP, pk, truR, truD, callR, bltD, e1, asgT]
  have s1' : evalS F HD.con fw sB_1 ⟨[.v .box, .v (flD fs), .v (.int (at' : Int)), .no], b1⟩ = .next ⟨[.v .box, .v (flD fs), .v (.int (at' : Int)), .v od], b2⟩ := by
    simp [sB_1, evalSs, evalS, evalE, evalEs, evalPs, evalT, evalTB, bindS, bindR, retR, optR, slotE, slotP, pk, truR, truD, callR, e2, ixD, ha, asgT, big1, big2, big7, intR]
  have hl : (fs.map D.int).length = fs.length := List.length_map _
  have k1 := cut_hi (xs := fs.map D.int) (l := at') (by omega)
  have k2 := cut_lo (xs := fs.map D.int) (l := at' + 1) (by omega)
  have k3 : ((at' : Int) + 1) = ((at' + 1 : Nat) : Int) := by omega
  have k4 : (List.take at' (fs.map D.int)).length + 1 ≤ big := by rw [List.length_take]; unfold big; omega
  have k5 : (List.take at' (fs.map D.int) ++ [od]).length + (List.drop (at' + 1) (fs.map D.int)).length ≤ big := by
    simp; unfold big; omega
  refine ⟨x, b3, ?_, hM x hx, i3⟩
  refine run_of rfl ?_
  rw [eqBr]
  refine sq s0' (sq s1' (sr ?_))
  have ec : evalE F HD.con (.bin .add (.bin .add (.slHi (.slot 1) (.slot 2)) (.tup (.cons (.slot 3) .nil))) (.slLo (.slot 1) (.bin .add (.slot 2) (.int 1)))) ⟨[.v .box, .v (flD fs), .v (.int (at' : Int)), .v od], b2⟩ = .ok (.tup ((fs.map D.int).take at' ++ [od] ++ (fs.map D.int).drop (at' + 1))) ⟨[.v .box, .v (flD fs), .v (.int (at' : Int)), .v od], b2⟩ := by
    unfold flD
    generalize fs.map D.int = ds at *
    simp only [evalE, evalEs, bindR, retR, optR, slotE, slotP, pk, slD, binD, intR, List.getElem?_cons_succ, List.getElem?_cons_zero, k1, k2, k3, k4, k5, big1, List.length_cons, List.length_nil, if_true, ite_true, Nat.zero_add]
  have el : evalE F HD.con (.blt .list (.cons (.slot 1) .nil)) ⟨[.v .box, .v (flD fs), .v (.int (at' : Int)), .v od], b2⟩ = .ok (.lst (fs.map D.int)) ⟨[.v .box, .v (flD fs), .v (.int (at' : Int)), .v od], b2⟩ := by
    unfold flD
    simp [evalSs, evalS, evalE, evalEs, evalPs, evalT, evalTB, bindS, bindR, retR, optR, slotE, slotP, pk, truR, truD, callR, bltD]
  have et : evalE F HD.con (.bin .mul (.tup (.cons (.int 1) .nil)) (.int 13)) ⟨[.v .box, .v (flD fs), .v (.int (at' : Int)), .v od], b2⟩ = .ok (.tup [.int 1, .int 1, .int 1, .int 1, .int 1, .int 1, .int 1, .int 1, .int 1, .int 1, .int 1, .int 1, .int 1]) ⟨[.v .box, .v (flD fs), .v (.int (at' : Int)), .v od], b2⟩ := by
    rfl
  have elist := ev_es1 el (ev_es1 (F := F) (con := HD.con) (e := .tup .nil) (d := .tup []) (by rfl) (ev_es1 et (ev_es1 (F := F) (con := HD.con) (e := .non) (d := .non) (by rfl) (ev_es1 (F := F) (con := HD.con) (e := .str "12") (d := .str "12") (by rfl) (ev_es1 (F := F) (con := HD.con) (e := .int 5) (d := .int 5) (by rfl) (ev_es1 (F := F) (con := HD.con) (e := .dct0) (d := .dct []) (by rfl) (ev_es1 ec (ev_es1 ec ev_es0))))))))
  unfold sB_2
  refine ev_ret (s1 := ⟨[.v .box, .v (flD fs), .v (.int (at' : Int)), .v od], b3⟩) ?_
  refine ev_ixL (ev_lst elist (by show 9 ≤ big; decide)) ?_ hxa
  have h9 : evalEs F HD.con (.cons (.slot 0) (.cons (.int 9) .nil)) ⟨[.v .box, .v (flD fs), .v (.int (at' : Int)), .v od], b2⟩ = .ok [.box, .int 9] ⟨[.v .box, .v (flD fs), .v (.int (at' : Int)), .v od], b2⟩ := by
    simp [evalEs, evalE, bindR, retR, slotE]
  exact ev_callc h9 e3


def NoFlAt (F : FT) (i : Nat) : Prop := ∀ (fs : List Int) (m : Nat) (b : Bx), Fl fs → BI m b → m ≤ 800000000 → ∃ (x : D) (b' : Bx), F i [.box, flD fs] b = .ok x b' ∧ NoFl x ∧ BI (m + 3) b'

def IsN (d : D) : Prop := ∃ x : Int, d = .int x ∧ 0 ≤ x ∧ x ≤ 900000
theorem isN_list : ∀ {ds : List D}, (∀ d ∈ ds, IsN d) → ∃ xs : List Int, ds = xs.map D.int ∧ ∀ x ∈ xs, 0 ≤ x ∧ x ≤ 900000
  | [], _ => ⟨[], rfl, by simp⟩
  | d :: ds, h => by
    obtain ⟨x, rfl, hx⟩ := h d List.mem_cons_self
    obtain ⟨xs, rfl, hxs⟩ := isN_list fun e he => h e (List.mem_cons_of_mem _ he)
    exact ⟨x :: xs, rfl, fun y hy => by
      rcases List.mem_cons.mp hy with rfl | hy
      · exact hx
      · exact hxs y hy⟩
theorem q45 (hT : TakeAt F 27) {m : Nat} (hb : BI m b) (hm : m ≤ 700000000) : ∃ (fs : List Int) (b' : Bx), runF F HD.con fw ⟨1, 4, b__law_plain_flow⟩ [.box] b = .ok (flD fs) b' ∧ Pln fs ∧ BI (m + 40) b' := by
  have a0 : ∃ (n : Nat) (b1 : Bx), evalS F HD.con fw sQ_0 ⟨[.v .box, .no, .no, .no], b⟩ = .next ⟨[.v .box, .v (.int (n : Int)), .no, .no], b1⟩ ∧ 1 ≤ n ∧ n ≤ 12 ∧ BI (m + 2) b1 := by
    obtain ⟨t1, b1, e1, p1, q1, i1⟩ := hT 8 m b (by omega) (by omega) hb (by omega)
    by_cases h : t1 = 0
    · refine ⟨12, b1, ?_, by omega, by omega, bi_mono i1 (by omega)⟩
      simp [sQ_0, evalSs, evalS, evalE, evalEs, evalPs, evalT, evalTB, bindS, bindR, retR, optR, slotE, slotP, pk, truR, truD, callR, e1, h, cpD, eq_int, asgT]
    · obtain ⟨t2, b2, e2, p2, q2, i2⟩ := hT 8 (m + 1) b1 (by omega) (by omega) i1 (by omega)
      refine ⟨(1 + t2).toNat, b2, ?_, by omega, by omega, i2⟩
      have : (((1 + t2).toNat : Nat) : Int) = 1 + t2 := by omega
      rw [this]
      simp [sQ_0, evalSs, evalS, evalE, evalEs, evalPs, evalT, evalTB, bindS, bindR, retR, optR, slotE, slotP, pk, truR, truD, callR, e1, e2, h, binD, cpD, eq_int, asgT]
  obtain ⟨n, b1, s0', n1, n2, i1⟩ := a0
  obtain ⟨ds, b2, e, q1, q2, q3⟩ := compR_boxN (elt := evalE F HD.con eQ_0) (env := [.v .box, .v (.int (n : Int)), .no, .no]) (j := 3) (c := 3) rfl (Q := IsN) (M := 900000000) (xs := rangeD 0 (n : Int)) (b := b1) (m := m + 2) (by rw [rng_len]; unfold big; omega) i1 (by rw [rng_len]; omega) fun x hx b m hb hm => by
    obtain ⟨t3, c1, e1, p1, q1, j1⟩ := hT 3 m b (by omega) (by omega) hb (by omega)
    have hM : ∀ x ∈ ([.int 4, .int 90, .int 900000] : List D), ∃ w : Int, x = .int w ∧ 1 ≤ w ∧ w ≤ 900000 := by
      intro x hx
      simp only [List.mem_cons, List.not_mem_nil, or_false] at hx
      rcases hx with rfl | rfl | rfl <;> exact ⟨_, rfl, by omega, by omega⟩
    obtain ⟨u, hu, ha⟩ := atI_mem (xs := [.int 4, .int 90, .int 900000]) p1 q1
    obtain ⟨w, rfl, w1, w2⟩ := hM u hu
    obtain ⟨t, c2, e2, p2, q2, j2⟩ := hT w (m + 1) c1 (by omega) (by omega) j1 (by omega)
    obtain ⟨t4, c3, e3, p3, q3, j3⟩ := hT 4 (m + 2) c2 (by omega) (by omega) j2 (by omega)
    have mo1 : mulOk t 1 = true := mulOk_sz (n := 21) (m := 2) (by omega) (by decide) (by omega)
    have mo0 : mulOk t 0 = true := mulOk_sz (n := 21) (m := 2) (by omega) (by decide) (by omega)
    by_cases ht : 0 < t4
    · refine ⟨.int (t * 1), c3, ?_, ⟨_, rfl, by omega, by omega⟩, j3⟩
      simp [eQ_0, evalSs, evalS, evalE, evalEs, evalPs, evalT, evalTB, bindS, bindR, retR, optR, slotE, slotP, pk, truR, truD, callR, e1, ixD, ha, e2, e3, cpD, bltD, ht, binD, mo1, big3]
    · refine ⟨.int (t * 0), c3, ?_, ⟨_, rfl, by omega, by omega⟩, j3⟩
      simp [eQ_0, evalSs, evalS, evalE, evalEs, evalPs, evalT, evalTB, bindS, bindR, retR, optR, slotE, slotP, pk, truR, truD, callR, e1, ixD, ha, e2, e3, cpD, bltD, ht, binD, mo0, big3]
  rw [rng_len] at q1 q3
  obtain ⟨xs, rfl, hxs⟩ := isN_list q2
  rw [List.length_map] at q1
  have eI := ev_range1s (F := F) (con := HD.con) (e := .slot 1) (env := [.v .box, .v (.int (n : Int)), .no, .no]) (b := b1) (n := n) (ev_slot rfl) (by omega)
  have a1 : evalS F HD.con fw sQ_1 ⟨[.v .box, .v (.int (n : Int)), .no, .no], b1⟩ = .next ⟨[.v .box, .v (.int (n : Int)), .own (xs.map D.int), .no], b2⟩ := by
    unfold sQ_1
    rw [ev_ownL (ev_comp eI e) (by show 2 < 4; omega)]
    rfl
  have fin : ∀ (ys : List Int) (b' : Bx), evalS F HD.con fw sQ_3 ⟨[.v .box, .v (.int (n : Int)), .own (ys.map D.int), .no], b'⟩ = .ret (flD ys) b' := fun ys b' => by
    unfold flD
    simp [sQ_3, evalSs, evalS, evalE, evalEs, evalPs, evalT, evalTB, bindS, bindR, retR, optR, slotE, slotP, pk, truR, truD, callR, bltD]
  match xs, q1, hxs, a1 with
  | [], q1, _, _ =>
    rw [List.length_nil] at q1
    omega
  | x :: xs, q1, hxs, a1 =>
    rw [List.length_cons] at q1
    have em : bltD .max2 [.lst ((x :: xs).map D.int)] = some (.int (maxI x xs)) := by
      show lstI maxI (ints? ((x :: xs).map D.int)) = _
      rw [ints_map]; rfl
    have et : evalT F HD.con tQ_2 ⟨[.v .box, .v (.int (n : Int)), .own ((x :: xs).map D.int), .no], b2⟩ = .ok (decide (maxI x xs = 0)) ⟨[.v .box, .v (.int (n : Int)), .own ((x :: xs).map D.int), .no], b2⟩ := by
      generalize (x :: xs).map D.int = ds at em
      simp [tQ_2, evalSs, evalS, evalE, evalEs, evalPs, evalT, evalTB, bindS, bindR, retR, optR, slotE, slotP, pk, truR, truD, callR, em, cpD, eq_int]
    by_cases h0 : maxI x xs = 0
    · obtain ⟨t9, b3, e9, p9, q9, i3⟩ := hT 9 (m + 2 + 3 * n) b2 (by omega) (by omega) q3 (by omega)
      obtain ⟨tk, b4, ek, pk', qk, i4⟩ := hT (n : Int) (m + 2 + 3 * n + 1) b3 (by omega) (by omega) i3 (by omega)
      obtain ⟨k, rfl⟩ : ∃ k : Nat, (k : Int) = tk := ⟨tk.toNat, by omega⟩
      have hix : L2.ixN ((x :: xs).map D.int).length (k : Int) = some k := by
        unfold L2.ixN
        rw [if_pos (by omega), if_pos (by rw [List.length_map, List.length_cons]; omega)]
        rfl
      have hset : ((x :: xs).map D.int).set k (.int (1 + t9)) = ((x :: xs).set k (1 + t9)).map D.int := by rw [List.map_set]
      have a2 : evalS F HD.con fw sQ_2 ⟨[.v .box, .v (.int (n : Int)), .own ((x :: xs).map D.int), .no], b2⟩ = .next ⟨[.v .box, .v (.int (n : Int)), .own (((x :: xs).set k (1 + t9)).map D.int), .no], b4⟩ := by
        unfold sQ_2
        refine ev_iffT (et.trans (by rw [decide_eq_true h0])) (sq (s' := ⟨[.v .box, .v (.int (n : Int)), .own (((x :: xs).set k (1 + t9)).map D.int), .no], b4⟩) ?_ s0)
        rw [← hset]
        generalize (x :: xs).map D.int = ds at hix
        simp [evalS, evalE, evalEs, bindS, bindR, retR, optR, slotE, slotP, pk, callR, e9, ek, binD, setSl, hix]
      have hk : k < (x :: xs).length := by rw [List.length_cons]; omega
      have hin : ∀ y ∈ (x :: xs).set k (1 + t9), 0 ≤ y ∧ y ≤ 900000 := fun y hy => by
        rcases List.mem_or_eq_of_mem_set hy with hy | rfl
        · exact hxs y hy
        · omega
      refine ⟨(x :: xs).set k (1 + t9), b4, ?_, ⟨⟨by rw [List.length_set]; omega, by rw [List.length_set, List.length_cons]; omega, fun y hy => by have := hin y hy; omega⟩, fun y hy => (hin y hy).1, ⟨1 + t9, ?_, by omega⟩⟩, bi_mono i4 (by omega)⟩
      · refine run_of rfl ?_
        rw [eqQr]
        exact sq s0' (sq a1 (sq a2 (sr (fin _ _))))
      · exact List.mem_set hk _
    · have a2 : evalS F HD.con fw sQ_2 ⟨[.v .box, .v (.int (n : Int)), .own ((x :: xs).map D.int), .no], b2⟩ = .next ⟨[.v .box, .v (.int (n : Int)), .own ((x :: xs).map D.int), .no], b2⟩ := by
        unfold sQ_2
        exact ev_iffno (et.trans (by rw [decide_eq_false h0]))
      refine ⟨x :: xs, b2, ?_, ⟨⟨by rw [List.length_cons]; omega, by rw [List.length_cons]; omega, fun y hy => by have := hxs y hy; omega⟩, fun y hy => (hxs y hy).1, ⟨maxI x xs, maxI_mem, by have := hxs _ (maxI_mem (x := x) (xs := xs)); omega⟩⟩, bi_mono q3 (by omega)⟩
      refine run_of rfl ?_
      rw [eqQr]
      exact sq s0' (sq a1 (sq a2 (sr (fin _ _))))

theorem L21 (k) : AvgAt (E fw (k + 9)) 21 := fun fs gs r b h hg h9 hr => (ev_def (k := k + 6) rfl).trans (v21 (L18 k) (L10 (k + 4)) h hg h9 hr)
theorem P20f (k) : ∀ (x : D) (b : Bx), NoPl x → E fw (k + 9) 20 [x] b = .exc 0 [x] b := fun x b h => L20f k h
theorem P20 (k) : ∀ (fs : List Int) (b : Bx), Pln fs → E fw (k + 9) 20 [flD fs] b = .ok .non b := fun fs b h => L20o k h
theorem L22f (k) (h : NoPl x) : E fw (k + 10) 22 [x, y] b = .exc 0 [x] b := (ev_def (k := k + 7) rfl).trans (u22_f (P20f k) h)
theorem L22r (k) (h : Pln fs) (hy : NoR y) : E fw (k + 10) 22 [flD fs, y] b = .exc 1 [y] b := (ev_def (k := k + 7) rfl).trans (u22_r (P20 k) (L16 (k + 3)) h hy)
theorem L22o (k) (h : Pln fs) (h9 : Sz 9 r) (hr : 0 < 1 + r) : E fw (k + 10) 22 [flD fs, qD r] b = .ok (qD (midQ (1 / (1 + r)) fs (rgI fs.length))) b := (ev_def (k := k + 7) rfl).trans (u22_ok (P20 k) (L16 (k + 3)) (L21 k) h h9 hr)
theorem L23f (k) (h : NoPl x) : E fw (k + 10) 23 [x, y] b = .exc 0 [x] b := (ev_def (k := k + 7) rfl).trans (x23_f (P20f k) h)
theorem L23r (k) (h : Pln fs) (hy : NoR y) : E fw (k + 10) 23 [flD fs, y] b = .exc 1 [y] b := (ev_def (k := k + 7) rfl).trans (x23_r (P20 k) (L16 (k + 3)) h hy)
theorem L23o (k) (h : Pln fs) (h9 : Sz 9 r) (hr : 0 < 1 + r) : E fw (k + 10) 23 [flD fs, qD r] b = .ok (qD (midQ (1 / (1 + r)) fs (rg2 fs.length) / ((1 + r) * (1 + r)))) b := (ev_def (k := k + 7) rfl).trans (x23_ok (P20 k) (L16 (k + 3)) (L17 (k + 4)) (L9 (k + 5)) (L10 (k + 5)) (L21 k) h h9 hr)
theorem L24 (k) : LatAt (E fw (k + 6)) 24 := fun a r m n b ha hm h9 hn => (ev_def (k := k + 3) rfl).trans (t24 (L17 k) (L9 (k + 1)) ha hm h9 hn)
theorem L25f (k) (h : NoPl x) : E fw (k + 10) 25 [x, y, z] b = .exc 0 [x] b := (ev_def (k := k + 7) rfl).trans (i25_f (P20f k) h)
theorem L25r (k) (h : Pln fs) (hy : NoR y) : E fw (k + 10) 25 [flD fs, y, z] b = .exc 1 [y] b := (ev_def (k := k + 7) rfl).trans (i25_r (P20 k) (L16 (k + 3)) h hy)
theorem L25t (k) (h : Pln fs) (h9 : Sz 9 r) (hr : 0 < 1 + r) (hz : NoTm z) : E fw (k + 10) 25 [flD fs, qD r, z] b = .exc 3 [z] b := (ev_def (k := k + 7) rfl).trans (i25_t (P20 k) (L16 (k + 3)) (L3 (k + 4)) h h9 hr hz)
theorem L25o (k) {t0 t1 : Nat} (ht : Tm t0 t1) (h : Pln fs) (h9 : Sz 9 r) (hr : 0 < 1 + r) : E fw (k + 10) 25 [flD fs, qD r, tmD t0 t1] b = .ok (immD r fs t0 t1) b := (ev_def (k := k + 7) rfl).trans (i25_ok (P20 k) (L16 (k + 3)) (L3 (k + 4)) (L18 (k + 1)) (L21 k) (fun x b => L6 (k + 6)) (L8 (k + 5)) (L9 (k + 5)) (L10 (k + 5)) (L24 (k + 3)) ht h h9 hr)
theorem L26a (k) (h : NoFl x) : E fw (k + 10) 26 [x, y, z] b = .exc 0 [x] b := (ev_def (k := k + 7) rfl).trans (o26_f1 (L14 (k + 2)) h)
theorem L26b (k) (hf : Fl fs) (h : NoFl y) : E fw (k + 10) 26 [flD fs, y, z] b = .exc 0 [y] b := (ev_def (k := k + 7) rfl).trans (o26_f2 (L14 (k + 2)) hf h)
theorem L26c (k) (hf : Fl fs) (ho : Fl os) (hz : NoRs z) : E fw (k + 10) 26 [flD fs, flD os, z] b = .exc 2 [z] b := (ev_def (k := k + 7) rfl).trans (o26_rs (L14 (k + 2)) (L15 (k + 4)) hf ho hz)
theorem L26o (k) {rs : List Rat} (hf : Fl fs) (ho : Fl os) (hz : Rs rs) : E fw (k + 10) 26 [flD fs, flD os, .tup (rs.map qD)] b = .ok (.bl (!rs.any (lessQ fs os))) b := (ev_def (k := k + 7) rfl).trans (o26_ok (L14 (k + 2)) (L15 (k + 4)) (L18 (k + 1)) (fun p q n m b h1 h2 h3 => L12 (k + 5) h1 h2 h3) hf ho hz)
theorem L27 (k) : TakeAt (E fw (k + 3)) 27 := fun many m b h1 h2 h3 h4 => by
  obtain ⟨t, b', e, q⟩ := run_take (F := E fw (k + 2)) (con := HD.con) (fw := fw) (c1 := 15485863) (c2 := 179424673) (c3 := 104729) (by omega) (by omega) (by omega) h1 h2 h3 h4
  exact ⟨t, b', (ev_def rfl).trans e, q⟩
theorem L28 (n k) {d : D} {b : Bx} (h : PlC n d) : E fw (n + k + 3) 28 [d, d] b = .ok (.bl true) b := sameC_all rfl n k d b h
theorem L38 (k) {most wide : Int} (hmo : 1 ≤ most ∧ most ≤ 12) (hw : 1 ≤ wide ∧ wide ≤ 900000) {m : Nat} {b : Bx} (hb : BI m b) (hm : m ≤ 700000000) : ∃ (fs : List Int) (b' : Bx), E fw (k + 4) 38 [.box, .int most, .int wide] b = .ok (flD fs) b' ∧ Fl fs ∧ BI (m + 27) b' := by
  obtain ⟨fs, b', e, h⟩ := w31 (fw := fw) (L27 k) hmo hw hb hm
  exact ⟨fs, b', (ev_def (k := k + 1) rfl).trans e, h⟩
theorem L41 (k) : NoFlAt (E fw (k + 4)) 41 := by
  intro fs m b h hb hm
  obtain ⟨x, b', e, q⟩ := n34 (fw := fw) (L27 k) h hb hm
  exact ⟨x, b', (ev_def (k := k + 1) rfl).trans e, q⟩
theorem L42 (k) : NoFrAt (E fw (k + 4)) 42 := by
  intro m b hb hm
  obtain ⟨r, b', e, h⟩ := run_noFr (F := E fw (k + 3)) (con := HD.con) (fw := fw) (t := 27) (L27 k) m b hb hm
  exact ⟨r, b', (ev_def (k := k + 1) rfl).trans e, h⟩
theorem L43 (k) : NoRAt (E fw (k + 5)) 43 := by
  intro m b hb hm
  obtain ⟨r, b', e, h⟩ := run_noRate (F := E fw (k + 4)) (con := HD.con) (fw := fw) (t := 27) (f := 42) (L27 (k + 1)) (L42 k) m b hb hm
  exact ⟨r, b', (ev_def (k := k + 2) rfl).trans e, h⟩
theorem L45 (k) {m : Nat} {b : Bx} (hb : BI m b) (hm : m ≤ 700000000) : ∃ (fs : List Int) (b' : Bx), E fw (k + 4) 45 [.box] b = .ok (flD fs) b' ∧ Pln fs ∧ BI (m + 40) b' := by
  obtain ⟨fs, b', e, h⟩ := q45 (fw := fw) (L27 k) hb hm
  exact ⟨fs, b', (ev_def (k := k + 1) rfl).trans e, h⟩
variable (hfw : ∀ n : Nat, n.log2 < 9000 → n < fw)
include hfw
theorem L29 (k) (i j : Int) (b : Bx) (h : j.natAbs.log2 < 9000) : E fw (k + 3) 29 [.int i, .int j] b = .ok (.int ((Nat.gcd i.natAbs j.natAbs : Nat) : Int)) b := (ev_def rfl).trans (run_gcd (hfw _ h))
theorem L30 (k) : LowAt (E fw (k + 4)) 30 := fun i j bx h1 h2 => (ev_def (k := k + 1) rfl).trans (run_low h1 h2 fun i' j' hj => (ev_def rfl).trans (run_gcd (by rw [hj]; exact hfw _ h2)))
theorem L31 (k) : AddAt (E fw (k + 5)) 31 := fun p q n m bx h1 h2 h3 => (ev_def (k := k + 2) rfl).trans (run_add (L30 hfw k) h1 h2 h3)
theorem L33 (k) : MulAt (E fw (k + 5)) 33 := fun p q n m bx h1 h2 h3 => (ev_def (k := k + 2) rfl).trans (run_mul (L30 hfw k) h1 h2 h3)
theorem L34 (k) : DivAt (E fw (k + 5)) 34 := fun p q n m bx h1 h2 h3 h4 => (ev_def (k := k + 2) rfl).trans (run_div (L30 hfw k) h1 h2 h3 h4)
theorem L39 (k) : RateDrAt (E fw (k + 5)) 39 := by
  intro m b hb hm
  obtain ⟨r, b', e, h⟩ := run_lrate (F := E fw (k + 4)) (con := HD.con) (fw := fw) (l := 30) (t := 27) (L27 (k + 1)) (L30 hfw k) m b hb hm
  exact ⟨r, b', (ev_def (k := k + 2) rfl).trans e, h⟩
theorem L40 (k) : NowAt (E fw (k + 6)) 40 := fun d fs r b hd h h9 hr => (ev_def (k := k + 3) rfl).trans (p40 (L31 hfw k) (L33 hfw k) (L34 hfw k) hd h h9 hr)
theorem L44 (k) : AvgAt (E fw (k + 7)) 44 := fun fs gs r b h hg h9 hr => (ev_def (k := k + 4) rfl).trans (h44 (L40 hfw k) (L34 hfw (k + 1)) h hg h9 hr)
theorem L46 (k) {p : Rat} {m n : Nat} (hp : Sz m p) (hm : m ≤ 4000) (h9 : Sz 9 r) (hr : 0 < 1 + r) (hn : n ≤ 40) : E fw (k + 6) 46 [qD (p * powQ (1 + r) n), qD r, .int (n : Int)] b = .ok (qD p) b := (ev_def (k := k + 3) rfl).trans (k46 (L31 hfw k) (L34 hfw k) hp hm h9 hr hn)
theorem L48 (k) {q : Rat} {m : Nat} (hq : Sz m q) (hm : m ≤ 8000) : E fw (k + 4) 48 [qD q] b = .ok (.bl true) b := (ev_def (k := k + 1) rfl).trans (j48 (fun i j b h => L29 hfw k i j b h) hq hm)
omit hfw
theorem L36 (k) {p q : Rat} {n m : Nat} (hp : Sz n p) (hq : Sz m q) (h : n + m ≤ 8000) : E fw (k + 3) 36 [qD p, qD q] b = .ok (.bl (decide (p < q))) b := (ev_def rfl).trans (run_below hp hq h)

theorem k0_ok {q : Bool} {w : D} (h : F 22 [x, y] b = .ok w b) : runF F HD.con fw ⟨5, 6, b__law_asked⟩ [.int 0, x, y, z, .bl q] b = .ok w b := by
  cases q <;> simp [runF, b__law_asked, evalSs, evalS, evalE, evalEs, evalPs, evalT, evalTB, bindS, bindR, retR, optR, slotE, slotP, pk, truR, truD, callR, cpD, eq_int, permD, h]
theorem k0_0 {q : Bool} {w : D} (h : F 22 [x, y] b = .exc 0 [w] b) : runF F HD.con fw ⟨5, 6, b__law_asked⟩ [.int 0, x, y, z, .bl q] b = .ok (.lst [.str "flow", w]) b := by
  cases q <;> simp [runF, b__law_asked, evalSs, evalS, evalE, evalEs, evalPs, evalT, evalTB, bindS, bindR, retR, optR, slotE, slotP, pk, truR, truD, callR, cpD, eq_int, permD, h, handle, slotIn, catches, fldsOf, phD, pqsD, pqD, show (2 : Nat) ≤ big from by decide]
theorem k0_1 {q : Bool} {w : D} (h : F 22 [x, y] b = .exc 1 [w] b) : runF F HD.con fw ⟨5, 6, b__law_asked⟩ [.int 0, x, y, z, .bl q] b = .ok (.lst [.str "rate", w]) b := by
  cases q <;> simp [runF, b__law_asked, evalSs, evalS, evalE, evalEs, evalPs, evalT, evalTB, bindS, bindR, retR, optR, slotE, slotP, pk, truR, truD, callR, cpD, eq_int, permD, h, handle, slotIn, catches, fldsOf, phD, pqsD, pqD, show (2 : Nat) ≤ big from by decide]
theorem k1_ok {q : Bool} {w : D} (h : F 23 [x, y] b = .ok w b) : runF F HD.con fw ⟨5, 6, b__law_asked⟩ [.int 1, x, y, z, .bl q] b = .ok w b := by
  cases q <;> simp [runF, b__law_asked, evalSs, evalS, evalE, evalEs, evalPs, evalT, evalTB, bindS, bindR, retR, optR, slotE, slotP, pk, truR, truD, callR, cpD, eq_int, permD, h]
theorem k1_0 {q : Bool} {w : D} (h : F 23 [x, y] b = .exc 0 [w] b) : runF F HD.con fw ⟨5, 6, b__law_asked⟩ [.int 1, x, y, z, .bl q] b = .ok (.lst [.str "flow", w]) b := by
  cases q <;> simp [runF, b__law_asked, evalSs, evalS, evalE, evalEs, evalPs, evalT, evalTB, bindS, bindR, retR, optR, slotE, slotP, pk, truR, truD, callR, cpD, eq_int, permD, h, handle, slotIn, catches, fldsOf, phD, pqsD, pqD, show (2 : Nat) ≤ big from by decide]
theorem k1_1 {q : Bool} {w : D} (h : F 23 [x, y] b = .exc 1 [w] b) : runF F HD.con fw ⟨5, 6, b__law_asked⟩ [.int 1, x, y, z, .bl q] b = .ok (.lst [.str "rate", w]) b := by
  cases q <;> simp [runF, b__law_asked, evalSs, evalS, evalE, evalEs, evalPs, evalT, evalTB, bindS, bindR, retR, optR, slotE, slotP, pk, truR, truD, callR, cpD, eq_int, permD, h, handle, slotIn, catches, fldsOf, phD, pqsD, pqD, show (2 : Nat) ≤ big from by decide]
theorem k2_ok {q : Bool} {w : D} (h : F 25 [x, y, z] b = .ok w b) : runF F HD.con fw ⟨5, 6, b__law_asked⟩ [.int 2, x, y, z, .bl q] b = .ok w b := by
  cases q <;> simp [runF, b__law_asked, evalSs, evalS, evalE, evalEs, evalPs, evalT, evalTB, bindS, bindR, retR, optR, slotE, slotP, pk, truR, truD, callR, cpD, eq_int, permD, h]
theorem k2_0 {q : Bool} {w : D} (h : F 25 [x, y, z] b = .exc 0 [w] b) : runF F HD.con fw ⟨5, 6, b__law_asked⟩ [.int 2, x, y, z, .bl q] b = .ok (.lst [.str "flow", w]) b := by
  cases q <;> simp [runF, b__law_asked, evalSs, evalS, evalE, evalEs, evalPs, evalT, evalTB, bindS, bindR, retR, optR, slotE, slotP, pk, truR, truD, callR, cpD, eq_int, permD, h, handle, slotIn, catches, fldsOf, phD, pqsD, pqD, show (2 : Nat) ≤ big from by decide]
theorem k2_1 {q : Bool} {w : D} (h : F 25 [x, y, z] b = .exc 1 [w] b) : runF F HD.con fw ⟨5, 6, b__law_asked⟩ [.int 2, x, y, z, .bl q] b = .ok (.lst [.str "rate", w]) b := by
  cases q <;> simp [runF, b__law_asked, evalSs, evalS, evalE, evalEs, evalPs, evalT, evalTB, bindS, bindR, retR, optR, slotE, slotP, pk, truR, truD, callR, cpD, eq_int, permD, h, handle, slotIn, catches, fldsOf, phD, pqsD, pqD, show (2 : Nat) ≤ big from by decide]
theorem k2_3 {q : Bool} {w : D} (h : F 25 [x, y, z] b = .exc 3 [w] b) : runF F HD.con fw ⟨5, 6, b__law_asked⟩ [.int 2, x, y, z, .bl q] b = .ok (.lst [.str "times", w]) b := by
  cases q <;> simp [runF, b__law_asked, evalSs, evalS, evalE, evalEs, evalPs, evalT, evalTB, bindS, bindR, retR, optR, slotE, slotP, pk, truR, truD, callR, cpD, eq_int, permD, h, handle, slotIn, catches, fldsOf, phD, pqsD, pqD, show (2 : Nat) ≤ big from by decide]
theorem k3_ok {q : Bool} {w : D} (h : F 26 [x, y, z] b = .ok w b) : runF F HD.con fw ⟨5, 6, b__law_asked⟩ [.int 3, x, y, z, .bl q] b = .ok w b := by
  cases q <;> simp [runF, b__law_asked, evalSs, evalS, evalE, evalEs, evalPs, evalT, evalTB, bindS, bindR, retR, optR, slotE, slotP, pk, truR, truD, callR, cpD, eq_int, permD, h]
theorem k3_0 {q : Bool} {w : D} (h : F 26 [x, y, z] b = .exc 0 [w] b) : runF F HD.con fw ⟨5, 6, b__law_asked⟩ [.int 3, x, y, z, .bl q] b = .ok (.lst [.str "flow", w]) b := by
  cases q <;> simp [runF, b__law_asked, evalSs, evalS, evalE, evalEs, evalPs, evalT, evalTB, bindS, bindR, retR, optR, slotE, slotP, pk, truR, truD, callR, cpD, eq_int, permD, h, handle, slotIn, catches, fldsOf, phD, pqsD, pqD, show (2 : Nat) ≤ big from by decide]
theorem k3_2 {q : Bool} {w : D} (h : F 26 [x, y, z] b = .exc 2 [w] b) : runF F HD.con fw ⟨5, 6, b__law_asked⟩ [.int 3, x, y, z, .bl q] b = .ok (.lst [.str "rates", w]) b := by
  cases q <;> simp [runF, b__law_asked, evalSs, evalS, evalE, evalEs, evalPs, evalT, evalTB, bindS, bindR, retR, optR, slotE, slotP, pk, truR, truD, callR, cpD, eq_int, permD, h, handle, slotIn, catches, fldsOf, phD, pqsD, pqD, show (2 : Nat) ≤ big from by decide]

end
end HD

namespace HD
open PySem PySem.Spec PV
theorem sb_times : SameTB "times" := fun F con fw i a4 b => by kernel_rfl
theorem sb_rates : SameTB "rates" := fun F con fw i a4 b => by kernel_rfl
theorem sb_01 : SameTB "01" := fun F con fw i a4 b => by kernel_rfl
theorem sb_r : SameTB "r" := fun F con fw i a4 b => by kernel_rfl
def bendQ (r : Rat) (fs : List Int) : Rat := midQ (1 / (1 + r)) fs (rg2 fs.length) / ((1 + r) * (1 + r))
structure Lib30 (F : FT) : Prop where
  take : TakeAt F 27
  same : ∀ (d : D) (b : Bx), PlC 6 d → F 28 [d, d] b = .ok (.bl true) b
  add : AddAt F 31
  mul : MulAt F 33
  div : DivAt F 34
  below : ∀ (p q : Rat) (n m : Nat) (b : Bx), Sz n p → Sz m q → n + m ≤ 8000 → F 36 [qD p, qD q] b = .ok (.bl (decide (p < q))) b
  flow : ∀ (most wide : Int) (m : Nat) (b : Bx), 1 ≤ most ∧ most ≤ 12 → 1 ≤ wide ∧ wide ≤ 900000 → BI m b → m ≤ 700000000 → ∃ (fs : List Int) (b' : Bx), F 38 [.box, .int most, .int wide] b = .ok (flD fs) b' ∧ Fl fs ∧ BI (m + 27) b'
  rate : RateDrAt F 39
  pres : NowAt F 40
  nofl : NoFlAt F 41
  nort : NoRAt F 43
  wtd : AvgAt F 44
  pln : ∀ (m : Nat) (b : Bx), BI m b → m ≤ 700000000 → ∃ (fs : List Int) (b' : Bx), F 45 [.box] b = .ok (flD fs) b' ∧ Pln fs ∧ BI (m + 40) b'
  back : ∀ (p r : Rat) (m n : Nat) (b : Bx), Sz m p → m ≤ 4000 → Sz 9 r → 0 < 1 + r → n ≤ 40 → F 46 [qD (p * powQ (1 + r) n), qD r, .int (n : Int)] b = .ok (qD p) b
  isfr : ∀ (q : Rat) (m : Nat) (b : Bx), Sz m q → m ≤ 8000 → F 48 [qD q] b = .ok (.bl true) b
  prs : ∀ (fs : List Int) (r : Rat) (b : Bx), Fl fs → Sz 9 r → 0 < 1 + r → F 19 [flD fs, qD r] b = .ok (qD (wQ (1 / (1 + r)) fs)) b
  a0 : ∀ (fs : List Int) (r : Rat) (z : D) (q : Bool) (b : Bx), Pln fs → Sz 9 r → 0 < 1 + r → F 47 [.int 0, flD fs, qD r, z, .bl q] b = .ok (qD (medQ r fs)) b
  a1 : ∀ (fs : List Int) (r : Rat) (z : D) (q : Bool) (b : Bx), Pln fs → Sz 9 r → 0 < 1 + r → F 47 [.int 1, flD fs, qD r, z, .bl q] b = .ok (qD (bendQ r fs)) b
  a2 : ∀ (fs : List Int) (r : Rat) (t0 t1 : Nat) (q : Bool) (b : Bx), Tm t0 t1 → Pln fs → Sz 9 r → 0 < 1 + r → F 47 [.int 2, flD fs, qD r, tmD t0 t1, .bl q] b = .ok (immD r fs t0 t1) b
  a3 : ∀ (fs os : List Int) (rs : List Rat) (q : Bool) (b : Bx), Fl fs → Fl os → Rs rs → F 47 [.int 3, flD fs, flD os, .tup (rs.map qD), .bl q] b = .ok (.bl (!rs.any (lessQ fs os))) b
  f : ∀ (t : Int) (x y z : D) (q : Bool) (b : Bx), (t = 0 ∨ t = 1 ∨ t = 2) → NoPl x → F 47 [.int t, x, y, z, .bl q] b = .ok (.lst [.str "flow", x]) b
  r : ∀ (t : Int) (fs : List Int) (y z : D) (q : Bool) (b : Bx), (t = 0 ∨ t = 1 ∨ t = 2) → Pln fs → NoR y → F 47 [.int t, flD fs, y, z, .bl q] b = .ok (.lst [.str "rate", y]) b
  t2 : ∀ (fs : List Int) (r : Rat) (z : D) (q : Bool) (b : Bx), Pln fs → Sz 9 r → 0 < 1 + r → NoTm z → F 47 [.int 2, flD fs, qD r, z, .bl q] b = .ok (.lst [.str "times", z]) b
  c1 : ∀ (x y z : D) (q : Bool) (b : Bx), NoFl x → F 47 [.int 3, x, y, z, .bl q] b = .ok (.lst [.str "flow", x]) b
  c2 : ∀ (fs : List Int) (y z : D) (q : Bool) (b : Bx), Fl fs → NoFl y → F 47 [.int 3, flD fs, y, z, .bl q] b = .ok (.lst [.str "flow", y]) b
  c3 : ∀ (fs os : List Int) (z : D) (q : Bool) (b : Bx), Fl fs → Fl os → NoRs z → F 47 [.int 3, flD fs, flD os, z, .bl q] b = .ok (.lst [.str "rates", z]) b
theorem lib30 {fw : Nat} (hfw : ∀ n : Nat, n.log2 < 9000 → n < fw) (k : Nat) : Lib30 (E fw (k + 11)) where
  take := L27 (k + 8)
  same := fun d b h => by
    have := L28 (fw := fw) 6 (k + 2) (b := b) h
    rw [show 6 + (k + 2) + 3 = k + 11 from by omega] at this
    exact this
  add := L31 hfw (k + 6)
  mul := L33 hfw (k + 6)
  div := L34 hfw (k + 6)
  below := fun p q n m b h1 h2 h3 => L36 (k + 8) h1 h2 h3
  flow := fun most wide m b h1 h2 h3 h4 => L38 (k + 7) h1 h2 h3 h4
  rate := L39 hfw (k + 6)
  pres := L40 hfw (k + 5)
  nofl := L41 (k + 7)
  nort := L43 (k + 6)
  wtd := L44 hfw (k + 4)
  pln := fun m b h1 h2 => L45 (k + 7) h1 h2
  back := fun p r m n b h1 h2 h3 h4 h5 => L46 hfw (k + 5) h1 h2 h3 h4 h5
  isfr := fun q m b h1 h2 => L48 hfw (k + 7) h1 h2
  prs := fun fs r b h1 h2 h3 => L19o (k + 2) h1 h2 h3
  a0 := fun fs r z q b h1 h2 h3 => (ev_def (k := k + 8) rfl).trans (k0_ok (L22o k h1 h2 h3))
  a1 := fun fs r z q b h1 h2 h3 => (ev_def (k := k + 8) rfl).trans (k1_ok (L23o k h1 h2 h3))
  a2 := fun fs r t0 t1 q b h0 h1 h2 h3 => (ev_def (k := k + 8) rfl).trans (k2_ok (L25o k h0 h1 h2 h3))
  a3 := fun fs os rs q b h1 h2 h3 => (ev_def (k := k + 8) rfl).trans (k3_ok (L26o k h1 h2 h3))
  f := fun t x y z q b ht h => by
    rcases ht with rfl | rfl | rfl
    · exact (ev_def (k := k + 8) rfl).trans (k0_0 (L22f k h))
    · exact (ev_def (k := k + 8) rfl).trans (k1_0 (L23f k h))
    · exact (ev_def (k := k + 8) rfl).trans (k2_0 (L25f k h))
  r := fun t fs y z q b ht h hy => by
    rcases ht with rfl | rfl | rfl
    · exact (ev_def (k := k + 8) rfl).trans (k0_1 (L22r k h hy))
    · exact (ev_def (k := k + 8) rfl).trans (k1_1 (L23r k h hy))
    · exact (ev_def (k := k + 8) rfl).trans (k2_1 (L25r k h hy))
  t2 := fun fs r z q b h1 h2 h3 h4 => (ev_def (k := k + 8) rfl).trans (k2_3 (L25t k h1 h2 h3 h4))
  c1 := fun x y z q b h => (ev_def (k := k + 8) rfl).trans (k3_0 (L26a k h))
  c2 := fun fs y z q b h1 h2 => (ev_def (k := k + 8) rfl).trans (k3_0 (L26b k h1 h2))
  c3 := fun fs os z q b h1 h2 h3 => (ev_def (k := k + 8) rfl).trans (k3_2 (L26c k h1 h2 h3))
section
variable {F : FT} {fw : Nat} {b : Bx} {x y z : D} {r : Rat} {fs gs os : List Int} {q : Bool} {t0 t1 : Nat}
theorem eq_bl (c : Bool) : eqD (.bl c) (.bl c) = some true := by cases c <;> rfl
theorem plC_imm : PlC 6 (immD r fs t0 t1) := .tup (n := 5) big2 fun u hu => by
  simp only [List.mem_cons, List.not_mem_nil, or_false] at hu
  rcases hu with rfl | rfl <;> exact plC_q _

theorem y_0 (L : Lib30 F) {m : Nat} (hb : BI m b) (hm : m ≤ 800000000) : ∃ (t0 t1 : Nat) (b' : Bx), evalS F HD.con fw sY_0 ⟨[.v .box, .v (flD fs), .v (qD r), .v (qD (medQ r fs)), .v (.bl q), .no, .no, .no, .no, .no, .no], b⟩ = .next ⟨[.v .box, .v (flD fs), .v (qD r), .v (qD (medQ r fs)), .v (.bl q), .v (tmD t0 t1), .no, .no, .no, .no, .no], b'⟩ ∧ t0 ≤ 40 ∧ t1 ≤ 40 ∧ BI (m + 3) b' := by
  obtain ⟨u1, b1, e1, p1, q1, i1⟩ := L.take 2 m b (by omega) (by omega) hb (by omega)
  by_cases h : u1 = 0
  · obtain ⟨u2, b2, e2, p2, q2, i2⟩ := L.take 41 (m + 1) b1 (by omega) (by omega) i1 (by omega)
    obtain ⟨u3, b3, e3, p3, q3, i3⟩ := L.take 41 (m + 2) b2 (by omega) (by omega) i2 (by omega)
    refine ⟨u2.toNat, u3.toNat, b3, ?_, by omega, by omega, i3⟩
    unfold tmD
    rw [show ((u2.toNat : Nat) : Int) = u2 from by omega, show ((u3.toNat : Nat) : Int) = u3 from by omega]
    simp [sY_0, evalSs, evalS, evalE, evalEs, evalPs, evalT, evalTB, bindS, bindR, retR, optR, slotE, slotP, pk, truR, truD, callR, e1, e2, e3, h, cpD, eq_int, asgT, big2]
  · obtain ⟨u2, b2, e2, p2, q2, i2⟩ := L.take 6 (m + 1) b1 (by omega) (by omega) i1 (by omega)
    obtain ⟨u3, b3, e3, p3, q3, i3⟩ := L.take 9 (m + 2) b2 (by omega) (by omega) i2 (by omega)
    refine ⟨u2.toNat, (4 + u3).toNat, b3, ?_, by omega, by omega, i3⟩
    unfold tmD
    rw [show ((u2.toNat : Nat) : Int) = u2 from by omega, show (((4 + u3).toNat : Nat) : Int) = 4 + u3 from by omega]
    simp [sY_0, evalSs, evalS, evalE, evalEs, evalPs, evalT, evalTB, bindS, bindR, retR, optR, slotE, slotP, pk, truR, truD, callR, e1, e2, e3, h, cpD, eq_int, asgT, big2, binD]
theorem y_1 (h0 : t0 ≤ 40) (h1 : t1 ≤ 40) : ∃ t0' t1' : Nat, Tm t0' t1' ∧ evalS F HD.con fw sY_1 ⟨[.v .box, .v (flD fs), .v (qD r), .v (qD (medQ r fs)), .v (.bl q), .v (tmD t0 t1), .no, .no, .no, .no, .no], b⟩ = .next ⟨[.v .box, .v (flD fs), .v (qD r), .v (qD (medQ r fs)), .v (.bl q), .v (tmD t0' t1'), .no, .no, .no, .no, .no], b⟩ := by
  have et : evalT F HD.con tY_1 ⟨[.v .box, .v (flD fs), .v (qD r), .v (qD (medQ r fs)), .v (.bl q), .v (tmD t0 t1), .no, .no, .no, .no, .no], b⟩ = .ok (decide ((t0 : Int) = t1)) ⟨[.v .box, .v (flD fs), .v (qD r), .v (qD (medQ r fs)), .v (.bl q), .v (tmD t0 t1), .no, .no, .no, .no, .no], b⟩ := by
    unfold tmD tY_1
    exact ev_valC (ev_cmpG (ev_ixs rfl at0 (fun z => by cases z)) (ev_ixs rfl at1 (fun z => by cases z)) (by simp [cpD, eq_int]))
  by_cases h : (t0 : Int) = t1
  · refine ⟨t0, (t0 + 1) % 41, ⟨h0, by omega, by omega⟩, ?_⟩
    unfold sY_1
    refine ev_iffT (et.trans (by rw [decide_eq_true h])) ?_
    have hm : ((t0 : Int) + 1).fmod 41 = (((t0 + 1) % 41 : Nat) : Int) := by
      rw [Int.fmod_eq_emod_of_nonneg _ (by omega)]
      omega
    have x0 : ixD (tmD t0 t1) (.int 0) = some (.int (t0 : Int)) := at0
    have c0 : evalE F HD.con (.ix (.slot 5) (.int 0)) ⟨[.v .box, .v (flD fs), .v (qD r), .v (qD (medQ r fs)), .v (.bl q), .v (tmD t0 t1), .no, .no, .no, .no, .no], b⟩ = .ok (.int (t0 : Int)) ⟨[.v .box, .v (flD fs), .v (qD r), .v (qD (medQ r fs)), .v (.bl q), .v (tmD t0 t1), .no, .no, .no, .no, .no], b⟩ := ev_ixs rfl x0 (fun z => by cases z)
    refine sq (s' := ⟨[.v .box, .v (flD fs), .v (qD r), .v (qD (medQ r fs)), .v (.bl q), .v (tmD t0 ((t0 + 1) % 41)), .no, .no, .no, .no, .no], b⟩) (ev_asg (ev_tup (ev_es1 c0 (ev_es1 (ev_bin (x := .int ((t0 : Int) + 1)) (y := .int 41) (s1 := ⟨[.v .box, .v (flD fs), .v (qD r), .v (qD (medQ r fs)), .v (.bl q), .v (tmD t0 t1), .no, .no, .no, .no, .no], b⟩) (s2 := ⟨[.v .box, .v (flD fs), .v (qD r), .v (qD (medQ r fs)), .v (.bl q), .v (tmD t0 t1), .no, .no, .no, .no, .no], b⟩) ?_ ?_ ?_) ev_es0)) big2) rfl) s0
    · show evalE F HD.con (.bin .add (.ix (.slot 5) (.int 0)) (.int 1)) _ = _
      exact ev_bin (y := .int 1) (s2 := ⟨[.v .box, .v (flD fs), .v (qD r), .v (qD (medQ r fs)), .v (.bl q), .v (tmD t0 t1), .no, .no, .no, .no, .no], b⟩) (show pk (.ix (.slot 5) (.int 0)) (evalE F HD.con (.ix (.slot 5) (.int 0))) _ = _ from c0) (by show evalE F HD.con (.int 1) _ = _; rw [evalE]; rfl) rfl
    · show evalE F HD.con (.int 41) _ = _
      rw [evalE]; rfl
    · simp only [binD]
      rw [if_neg (by decide), hm]
  · exact ⟨t0, t1, ⟨h0, h1, by omega⟩, by unfold sY_1; exact ev_iffno (et.trans (by rw [decide_eq_false h]))⟩
theorem y_2 (L : Lib30 F) (ht : Tm t0 t1) (h : Pln fs) (h9 : Sz 9 r) (hr : 0 < 1 + r) : evalS F HD.con fw sY_2 ⟨[.v .box, .v (flD fs), .v (qD r), .v (qD (medQ r fs)), .v (.bl q), .v (tmD t0 t1), .no, .no, .no, .no, .no], b⟩ = .next ⟨[.v .box, .v (flD fs), .v (qD r), .v (qD (medQ r fs)), .v (.bl q), .v (tmD t0 t1), .v (immD r fs t0 t1), .no, .no, .no, .no], b⟩ := by
  have e := L.a2 fs r t0 t1 q b ht h h9 hr
  simp [sY_2, evalSs, evalS, evalE, evalEs, evalPs, evalT, evalTB, bindS, bindR, retR, optR, slotE, slotP, pk, truR, truD, callR, e, asgT]
theorem pw_szt {t : Nat} (h9 : Sz 9 r) (ht : t ≤ 40) : Sz 441 (powQ (1 + r) t) := (pow_sz (sz11 h9) t).mono (by omega)
theorem y_3 (L : Lib30 F) (ht : Tm t0 t1) (h : Pln fs) (h9 : Sz 9 r) (hr : 0 < 1 + r) : evalS F HD.con fw sY_3 ⟨[.v .box, .v (flD fs), .v (qD r), .v (qD (medQ r fs)), .v (.bl q), .v (tmD t0 t1), .v (immD r fs t0 t1), .no, .no, .no, .no], b⟩ = .next ⟨[.v .box, .v (flD fs), .v (qD r), .v (qD (medQ r fs)), .v (.bl q), .v (tmD t0 t1), .v (immD r fs t0 t1), .no, .no, .no, .no], b⟩ := by
  have f0 := L.isfr _ _ b ((p0_sz ht h h9 hr).mul (pw_szt h9 ht.h0)) (by omega)
  have f1 := L.isfr _ _ b ((p1_sz ht h h9 hr).mul (pw_szt h9 ht.h1)) (by omega)
  have x0 : ixD (immD r fs t0 t1) (.int 0) = some (qD (p0Q r fs t0 t1 * powQ (1 + r) t0)) := at0
  have x1 : ixD (immD r fs t0 t1) (.int 1) = some (qD (p1Q r fs t0 t1 * powQ (1 + r) t1)) := at1
  have nb : immD r fs t0 t1 ≠ .box := fun z => by cases z
  have c0 : evalE F HD.con (.call 48 (.cons (.ix (.slot 6) (.int 0)) .nil)) ⟨[.v .box, .v (flD fs), .v (qD r), .v (qD (medQ r fs)), .v (.bl q), .v (tmD t0 t1), .v (immD r fs t0 t1), .no, .no, .no, .no], b⟩ = .ok (.bl true) ⟨[.v .box, .v (flD fs), .v (qD r), .v (qD (medQ r fs)), .v (.bl q), .v (tmD t0 t1), .v (immD r fs t0 t1), .no, .no, .no, .no], b⟩ := ev_callc (ev_es1 (ev_ixs rfl x0 nb) ev_es0) f0
  have c1 : evalE F HD.con (.call 48 (.cons (.ix (.slot 6) (.int 1)) .nil)) ⟨[.v .box, .v (flD fs), .v (qD r), .v (qD (medQ r fs)), .v (.bl q), .v (tmD t0 t1), .v (immD r fs t0 t1), .no, .no, .no, .no], b⟩ = .ok (.bl true) ⟨[.v .box, .v (flD fs), .v (qD r), .v (qD (medQ r fs)), .v (.bl q), .v (tmD t0 t1), .v (immD r fs t0 t1), .no, .no, .no, .no], b⟩ := ev_callc (ev_es1 (ev_ixs rfl x1 nb) ev_es0) f1
  have t1' : evalT F HD.con (.not (.val (.isi (.slot 6) .tuple))) ⟨[.v .box, .v (flD fs), .v (qD r), .v (qD (medQ r fs)), .v (.bl q), .v (tmD t0 t1), .v (immD r fs t0 t1), .no, .no, .no, .no], b⟩ = .ok false ⟨[.v .box, .v (flD fs), .v (qD r), .v (qD (medQ r fs)), .v (.bl q), .v (tmD t0 t1), .v (immD r fs t0 t1), .no, .no, .no, .no], b⟩ := by
    unfold immD; simp [evalSs, evalS, evalE, evalEs, evalPs, evalT, evalTB, bindS, bindR, retR, optR, slotE, slotP, pk, truR, truD, callR, isiD]
  have t2 : evalT F HD.con (.val (.cmp .ne (.blt .len (.cons (.slot 6) .nil)) (.int 2))) ⟨[.v .box, .v (flD fs), .v (qD r), .v (qD (medQ r fs)), .v (.bl q), .v (tmD t0 t1), .v (immD r fs t0 t1), .no, .no, .no, .no], b⟩ = .ok false ⟨[.v .box, .v (flD fs), .v (qD r), .v (qD (medQ r fs)), .v (.bl q), .v (tmD t0 t1), .v (immD r fs t0 t1), .no, .no, .no, .no], b⟩ := by
    unfold immD; simp [evalSs, evalS, evalE, evalEs, evalPs, evalT, evalTB, bindS, bindR, retR, optR, slotE, slotP, pk, truR, truD, callR, bltD, cpD, eq_int]
  unfold sY_3 tY_3
  exact ev_iffno (ev_tgo t1' (ev_tgo t2 (ev_tgo (ev_not c0) (ev_t1 (ev_not c1)))))
theorem y_4 (L : Lib30 F) (ht : Tm t0 t1) (h : Pln fs) (h9 : Sz 9 r) (hr : 0 < 1 + r) : evalS F HD.con fw sY_4 ⟨[.v .box, .v (flD fs), .v (qD r), .v (qD (medQ r fs)), .v (.bl q), .v (tmD t0 t1), .v (immD r fs t0 t1), .no, .no, .no, .no], b⟩ = .next ⟨[.v .box, .v (flD fs), .v (qD r), .v (qD (medQ r fs)), .v (.bl q), .v (tmD t0 t1), .v (immD r fs t0 t1), .no, .no, .no, .no], b⟩ := by
  have e := L.a2 fs r t0 t1 (!q) b ht h h9 hr
  have e2 := L.same (immD r fs t0 t1) b plC_imm
  simp [sY_4, tY_4, evalSs, evalS, evalE, evalEs, evalPs, evalT, evalTB, bindS, bindR, retR, optR, slotE, slotP, pk, truR, truD, callR, e, e2]
theorem y_5 (L : Lib30 F) (ht : Tm t0 t1) (h : Pln fs) (h9 : Sz 9 r) (hr : 0 < 1 + r) : evalS F HD.con fw sY_5 ⟨[.v .box, .v (flD fs), .v (qD r), .v (qD (medQ r fs)), .v (.bl q), .v (tmD t0 t1), .v (immD r fs t0 t1), .no, .no, .no, .no], b⟩ = .next ⟨[.v .box, .v (flD fs), .v (qD r), .v (qD (medQ r fs)), .v (.bl q), .v (tmD t0 t1), .v (immD r fs t0 t1), .v (.lst [qD (p0Q r fs t0 t1), qD (p1Q r fs t0 t1)]), .no, .no, .no], b⟩ := by
  have f0 := L.back _ r _ t0 b (p0_sz ht h h9 hr) (by omega) h9 hr ht.h0
  have f1 := L.back _ r _ t1 b (p1_sz ht h h9 hr) (by omega) h9 hr ht.h1
  have hc := compR_oneA (elt := evalE F HD.con eY_0) (env := [.v .box, .v (flD fs), .v (qD r), .v (qD (medQ r fs)), .v (.bl q), .v (tmD t0 t1), .v (immD r fs t0 t1), .no, .no, .no, .no]) (b := b) (j := 10) (f := fun p : Int × Rat => D.int p.1) (g := fun p => qD p.2) (xs := [(0, p0Q r fs t0 t1), (1, p1Q r fs t0 t1)]) rfl (by show 2 ≤ big; decide) fun p hp => by
    simp only [List.mem_cons, List.not_mem_nil, or_false] at hp
    unfold immD tmD
    rcases hp with rfl | rfl
    · simp [eY_0, evalSs, evalS, evalE, evalEs, evalPs, evalT, evalTB, bindS, bindR, retR, optR, slotE, slotP, pk, truR, truD, callR, ixD, at0, f0]
    · simp [eY_0, evalSs, evalS, evalE, evalEs, evalPs, evalT, evalTB, bindS, bindR, retR, optR, slotE, slotP, pk, truR, truD, callR, ixD, at1, f1]
  have eI := ev_range1s (F := F) (con := HD.con) (e := .int 2) (env := [.v .box, .v (flD fs), .v (qD r), .v (qD (medQ r fs)), .v (.bl q), .v (tmD t0 t1), .v (immD r fs t0 t1), .no, .no, .no, .no]) (b := b) (n := 2) (by rw [evalE]; rfl) (by omega)
  unfold sY_5
  exact ev_asg (ev_comp eI hc) rfl
theorem y_6 (L : Lib30 F) (h : Pln fs) (h9 : Sz 9 r) (hr : 0 < 1 + r) : evalS F HD.con fw sY_6 ⟨[.v .box, .v (flD fs), .v (qD r), .v (qD (medQ r fs)), .v (.bl q), .v (tmD t0 t1), .v (immD r fs t0 t1), .v (.lst [qD (p0Q r fs t0 t1), qD (p1Q r fs t0 t1)]), .no, .no, .no], b⟩ = .next ⟨[.v .box, .v (flD fs), .v (qD r), .v (qD (medQ r fs)), .v (.bl q), .v (tmD t0 t1), .v (immD r fs t0 t1), .v (.lst [qD (p0Q r fs t0 t1), qD (p1Q r fs t0 t1)]), .v (qD (valQ r fs)), .no, .no], b⟩ := by
  have e : F 40 [flD fs, qD r] b = .ok (qD (valQ r fs)) b := L.pres (flD fs) fs r b (.inl rfl) h.fl.bg h9 hr
  simp [sY_6, evalSs, evalS, evalE, evalEs, evalPs, evalT, evalTB, bindS, bindR, retR, optR, slotE, slotP, pk, truR, truD, callR, e, asgT]
theorem p_sum : p0Q r fs t0 t1 + p1Q r fs t0 t1 = valQ r fs := share_sum _ _
theorem p_mid (ht : Tm t0 t1) : p0Q r fs t0 t1 * ((t0 : Int) : Rat) + p1Q r fs t0 t1 * ((t1 : Int) : Rat) = valQ r fs * medQ r fs := share_mid (by have := ht.ne; omega) _ _
theorem y_7 (L : Lib30 F) (ht : Tm t0 t1) (h : Pln fs) (h9 : Sz 9 r) (hr : 0 < 1 + r) : evalS F HD.con fw sY_7 ⟨[.v .box, .v (flD fs), .v (qD r), .v (qD (medQ r fs)), .v (.bl q), .v (tmD t0 t1), .v (immD r fs t0 t1), .v (.lst [qD (p0Q r fs t0 t1), qD (p1Q r fs t0 t1)]), .v (qD (valQ r fs)), .no, .no], b⟩ = .next ⟨[.v .box, .v (flD fs), .v (qD r), .v (qD (medQ r fs)), .v (.bl q), .v (tmD t0 t1), .v (immD r fs t0 t1), .v (.lst [qD (p0Q r fs t0 t1), qD (p1Q r fs t0 t1)]), .v (qD (valQ r fs)), .no, .no], b⟩ := by
  have e := L.add _ _ _ _ b (p0_sz ht h h9 hr) (p1_sz ht h h9 hr) (by omega)
  rw [p_sum] at e
  have eq := eq_qq (valQ r fs)
  simp [sY_7, tY_7, evalSs, evalS, evalE, evalEs, evalPs, evalT, evalTB, bindS, bindR, retR, optR, slotE, slotP, pk, truR, truD, callR, ixD, at0, at1, e, cpD, eq]
theorem y_8 (L : Lib30 F) (ht : Tm t0 t1) (h : Pln fs) (h9 : Sz 9 r) (hr : 0 < 1 + r) : evalS F HD.con fw sY_8 ⟨[.v .box, .v (flD fs), .v (qD r), .v (qD (medQ r fs)), .v (.bl q), .v (tmD t0 t1), .v (immD r fs t0 t1), .v (.lst [qD (p0Q r fs t0 t1), qD (p1Q r fs t0 t1)]), .v (qD (valQ r fs)), .no, .no], b⟩ = .next ⟨[.v .box, .v (flD fs), .v (qD r), .v (qD (medQ r fs)), .v (.bl q), .v (tmD t0 t1), .v (immD r fs t0 t1), .v (.lst [qD (p0Q r fs t0 t1), qD (p1Q r fs t0 t1)]), .v (qD (valQ r fs)), .no, .no], b⟩ := by
  have q0 := ht.h0
  have q1 := ht.h1
  have e0 : F 33 [qD (p0Q r fs t0 t1), .tup [.int (t0 : Int), .int 1]] b = .ok (qD (p0Q r fs t0 t1 * ((t0 : Int) : Rat))) b := L.mul _ ((t0 : Int) : Rat) _ _ b (p0_sz ht h h9 hr) (tm_sz (by omega)) (by omega)
  have e1 : F 33 [qD (p1Q r fs t0 t1), .tup [.int (t1 : Int), .int 1]] b = .ok (qD (p1Q r fs t0 t1 * ((t1 : Int) : Rat))) b := L.mul _ ((t1 : Int) : Rat) _ _ b (p1_sz ht h h9 hr) (tm_sz (by omega)) (by omega)
  have e2 := L.add _ _ _ _ b ((p0_sz ht h h9 hr).mul (tm_sz (t := (t0 : Int)) (by omega))) ((p1_sz ht h h9 hr).mul (tm_sz (t := (t1 : Int)) (by omega))) (by omega)
  rw [p_mid ht] at e2
  have e3 := L.mul _ _ _ _ b (val_sz h h9 hr) (med_sz h h9 hr) (by omega)
  have eq := eq_qq (valQ r fs * medQ r fs)
  unfold tmD
  simp [sY_8, tY_8, evalSs, evalS, evalE, evalEs, evalPs, evalT, evalTB, bindS, bindR, retR, optR, slotE, slotP, pk, truR, truD, callR, ixD, at0, at1, e0, e1, e2, e3, cpD, eq, big2]
theorem y_9 (L : Lib30 F) (ht : Tm t0 t1) (h : Pln fs) (h9 : Sz 9 r) (hr : 0 < 1 + r) : evalS F HD.con fw sY_9 ⟨[.v .box, .v (flD fs), .v (qD r), .v (qD (medQ r fs)), .v (.bl q), .v (tmD t0 t1), .v (immD r fs t0 t1), .v (.lst [qD (p0Q r fs t0 t1), qD (p1Q r fs t0 t1)]), .v (qD (valQ r fs)), .no, .no], b⟩ = .next ⟨[.v .box, .v (flD fs), .v (qD r), .v (qD (medQ r fs)), .v (.bl q), .v (tmD t0 t1), .v (immD r fs t0 t1), .v (.lst [qD (p0Q r fs t0 t1), qD (p1Q r fs t0 t1)]), .v (qD (valQ r fs)), .v (.bl (!decide (medQ r fs < ((minI (t0 : Int) [(t1 : Int)] : Int) : Rat)) && !decide (((maxI (t0 : Int) [(t1 : Int)] : Int) : Rat) < medQ r fs))), .no], b⟩ := by
  have q0 := ht.h0
  have q1 := ht.h1
  have m1 : bltD .min2 [tmD t0 t1] = some (.int (minI (t0 : Int) [(t1 : Int)])) := rfl
  have m2 : bltD .max2 [tmD t0 t1] = some (.int (maxI (t0 : Int) [(t1 : Int)])) := rfl
  have b1 : -40 ≤ minI (t0 : Int) [(t1 : Int)] ∧ minI (t0 : Int) [(t1 : Int)] ≤ 40 := by
    have := minI_mem (x := (t0 : Int)) (xs := [(t1 : Int)])
    simp only [List.mem_cons, List.not_mem_nil, or_false] at this
    omega
  have b2 : -40 ≤ maxI (t0 : Int) [(t1 : Int)] ∧ maxI (t0 : Int) [(t1 : Int)] ≤ 40 := by
    have := maxI_mem (x := (t0 : Int)) (xs := [(t1 : Int)])
    simp only [List.mem_cons, List.not_mem_nil, or_false] at this
    omega
  generalize hmn : minI (t0 : Int) [(t1 : Int)] = mn at *
  generalize hmx : maxI (t0 : Int) [(t1 : Int)] = mx at *
  have e1 : F 36 [qD (medQ r fs), .tup [.int mn, .int 1]] b = .ok (.bl (decide (medQ r fs < (mn : Rat)))) b := L.below (medQ r fs) (mn : Rat) _ _ b (med_sz h h9 hr) (tm_sz b1) (by omega)
  have e2 : F 36 [.tup [.int mx, .int 1], qD (medQ r fs)] b = .ok (.bl (decide ((mx : Rat) < medQ r fs))) b := L.below (mx : Rat) (medQ r fs) _ _ b (tm_sz b2) (med_sz h h9 hr) (by omega)
  generalize tmD t0 t1 = td at m1 m2
  by_cases h1 : medQ r fs < (mn : Rat)
  · rw [decide_eq_true h1] at e1
    simp [sY_9, evalSs, evalS, evalE, evalEs, evalPs, evalT, evalTB, bindS, bindR, retR, optR, slotE, slotP, pk, truR, truD, callR, evalB, m1, e1, asgT, big2, h1]
  · rw [decide_eq_false h1] at e1
    by_cases h2 : (mx : Rat) < medQ r fs
    · rw [decide_eq_true h2] at e2
      simp [sY_9, evalSs, evalS, evalE, evalEs, evalPs, evalT, evalTB, bindS, bindR, retR, optR, slotE, slotP, pk, truR, truD, callR, evalB, m1, m2, e1, e2, asgT, big2, h1, h2]
    · rw [decide_eq_false h2] at e2
      simp [sY_9, evalSs, evalS, evalE, evalEs, evalPs, evalT, evalTB, bindS, bindR, retR, optR, slotE, slotP, pk, truR, truD, callR, evalB, m1, m2, e1, e2, asgT, big2, h1, h2]
theorem y_10 (ht : Tm t0 t1) (h : Pln fs) (hr : 0 < 1 + r) : evalS F HD.con fw sY_10 ⟨[.v .box, .v (flD fs), .v (qD r), .v (qD (medQ r fs)), .v (.bl q), .v (tmD t0 t1), .v (immD r fs t0 t1), .v (.lst [qD (p0Q r fs t0 t1), qD (p1Q r fs t0 t1)]), .v (qD (valQ r fs)), .v (.bl (!decide (medQ r fs < ((minI (t0 : Int) [(t1 : Int)] : Int) : Rat)) && !decide (((maxI (t0 : Int) [(t1 : Int)] : Int) : Rat) < medQ r fs))), .no], b⟩ = .ret (.bl true) b := by
  have hs := share_in (t0 := (t0 : Int)) (t1 := (t1 : Int)) (by have := ht.ne; omega) (val_pos h hr) (pow_pos' hr t0) (pow_pos' hr t1) (medQ r fs)
  rw [← hs]
  have x0 : ixD (immD r fs t0 t1) (.int 0) = some (qD (p0Q r fs t0 t1 * powQ (1 + r) t0)) := at0
  have x1 : ixD (immD r fs t0 t1) (.int 1) = some (qD (p1Q r fs t0 t1 * powQ (1 + r) t1)) := at1
  have nb : immD r fs t0 t1 ≠ .box := fun z => by cases z
  have w0 : ∀ w : Rat, ixD (qD w) (.int 0) = some (.int w.num) := fun w => at0
  have nq : ∀ w : Rat, qD w ≠ .box := fun w z => by cases z
  show evalS F HD.con fw sY_10 ⟨[.v .box, .v (flD fs), .v (qD r), .v (qD (medQ r fs)), .v (.bl q), .v (tmD t0 t1), .v (immD r fs t0 t1), .v (.lst [qD (p0Q r fs t0 t1), qD (p1Q r fs t0 t1)]), .v (qD (valQ r fs)), .v (.bl (decide (0 ≤ (p0Q r fs t0 t1 * powQ (1 + r) t0).num) && decide (0 ≤ (p1Q r fs t0 t1 * powQ (1 + r) t1).num))), .no], b⟩ = .ret (.bl true) b
  generalize p0Q r fs t0 t1 * powQ (1 + r) t0 = w1 at x0
  generalize p1Q r fs t0 t1 * powQ (1 + r) t1 = w2 at x1
  generalize immD r fs t0 t1 = im at x0 x1 nb
  generalize hst : (⟨[.v .box, .v (flD fs), .v (qD r), .v (qD (medQ r fs)), .v (.bl q), .v (tmD t0 t1), .v im, .v (.lst [qD (p0Q r fs t0 t1), qD (p1Q r fs t0 t1)]), .v (qD (valQ r fs)), .v (.bl (decide (0 ≤ w1.num) && decide (0 ≤ w2.num))), .no], b⟩ : S) = st
  have g0 : evalE F HD.con (.ix (.ix (.slot 6) (.int 0)) (.int 0)) st = .ok (.int w1.num) st := by
    subst hst; exact ev_ixx (fun _ => rfl) (ev_ixs rfl x0 nb) (w0 _) (nq _)
  have g1 : evalE F HD.con (.ix (.ix (.slot 6) (.int 1)) (.int 0)) st = .ok (.int w2.num) st := by
    subst hst; exact ev_ixx (fun _ => rfl) (ev_ixs rfl x1 nb) (w0 _) (nq _)
  have z0 : evalE F HD.con (.int 0) st = .ok (.int 0) st := by rw [evalE]; rfl
  have c0 : evalE F HD.con (.cmp .ge (.ix (.ix (.slot 6) (.int 0)) (.int 0)) (.int 0)) st = .ok (.bl (decide (0 ≤ w1.num))) st := ev_cmpG (show pk (.ix (.ix (.slot 6) (.int 0)) (.int 0)) (evalE F HD.con (.ix (.ix (.slot 6) (.int 0)) (.int 0))) st = _ from g0) (show pk (.int 0) (evalE F HD.con (.int 0)) st = _ from z0) rfl
  have c1 : evalE F HD.con (.cmp .ge (.ix (.ix (.slot 6) (.int 1)) (.int 0)) (.int 0)) st = .ok (.bl (decide (0 ≤ w2.num))) st := ev_cmpG (show pk (.ix (.ix (.slot 6) (.int 1)) (.int 0)) (evalE F HD.con (.ix (.ix (.slot 6) (.int 1)) (.int 0))) st = _ from g1) (show pk (.int 0) (evalE F HD.con (.int 0)) st = _ from z0) rfl
  have cb : evalE F HD.con (.bop true (.cons (.cmp .ge (.ix (.ix (.slot 6) (.int 0)) (.int 0)) (.int 0)) (.cons (.cmp .ge (.ix (.ix (.slot 6) (.int 1)) (.int 0)) (.int 0)) .nil))) st = .ok (.bl (decide (0 ≤ w1.num) && decide (0 ≤ w2.num))) st := by
    rw [evalE]
    by_cases h1 : 0 ≤ w1.num
    · rw [decide_eq_true h1] at c0
      rw [ev_andT c0 (ev_and1 c1), decide_eq_true h1, Bool.true_and]
    · rw [decide_eq_false h1] at c0
      rw [decide_eq_false h1, Bool.false_and]
      rw [evalB, bindR_ok c0]
      · rfl
      · intro z; cases z
  have ce := eq_bl (decide (0 ≤ w1.num) && decide (0 ≤ w2.num))
  have cs : evalE F HD.con (.slot 9) st = .ok (.bl (decide (0 ≤ w1.num) && decide (0 ≤ w2.num))) st := by subst hst; exact ev_slot rfl
  have csp : pk (.slot 9) (evalE F HD.con (.slot 9)) st = .ok (.bl (decide (0 ≤ w1.num) && decide (0 ≤ w2.num))) st := by subst hst; exact ev_slotP rfl
  have hb : st.bx = b := by subst hst; rfl
  unfold sY_10
  rw [ev_ret (ev_cmpG (show pk (.bop true (.cons (.cmp .ge (.ix (.ix (.slot 6) (.int 0)) (.int 0)) (.int 0)) (.cons (.cmp .ge (.ix (.ix (.slot 6) (.int 1)) (.int 0)) (.int 0)) .nil))) (evalE F HD.con (.bop true (.cons (.cmp .ge (.ix (.ix (.slot 6) (.int 0)) (.int 0)) (.int 0)) (.cons (.cmp .ge (.ix (.ix (.slot 6) (.int 1)) (.int 0)) (.int 0)) .nil)))) st = _ from cb) csp (show cpD .eq _ _ = some true from ce)), hb]
theorem run_imm (L : Lib30 F) {m : Nat} (hb : BI m b) (hm : m ≤ 700000000) (h : Pln fs) (h9 : Sz 9 r) (hr : 0 < 1 + r) : ∃ b' : Bx, runF F HD.con fw ⟨5, 11, b__law_immunized_right⟩ [.box, flD fs, qD r, qD (medQ r fs), .bl q] b = .ok (.bl true) b' ∧ BI (m + 3) b' := by
  obtain ⟨t0, t1, b1, s0', h0, h1, i1⟩ := y_0 (fw := fw) (fs := fs) (r := r) (q := q) L hb (by omega)
  obtain ⟨u0, u1, ht, s1⟩ := y_1 (F := F) (fw := fw) (b := b1) (fs := fs) (r := r) (q := q) h0 h1
  refine ⟨b1, ?_, i1⟩
  refine run_of rfl ?_
  rw [eqYr]
  exact sq s0' (sq s1 (sq (y_2 L ht h h9 hr) (sq (y_3 L ht h h9 hr) (sq (y_4 L ht h h9 hr) (sq (y_5 L ht h h9 hr) (sq (y_6 L h h9 hr) (sq (y_7 L ht h h9 hr) (sq (y_8 L ht h h9 hr) (sq (y_9 L ht h h9 hr) (sr (y_10 ht h hr)))))))))))
end
end HD

namespace HD
open PySem PySem.Spec PV
theorem cut_m1 {xs : List D} : cutD xs none (some (-1)) = xs.take (xs.length - 1) := by
  unfold cutD
  rw [HT.sIx_none]
  have : HT.sIx xs.length xs.length (some (-1)) = xs.length - 1 := by
    show (if (-1 : Int) < 0 then ((-1 : Int) + (xs.length : Int)).toNat else min (-1 : Int).toNat xs.length) = _
    rw [if_pos (by omega)]
    omega
  rw [this, List.drop_zero, Nat.sub_zero]
theorem at_last {x : D} {xs : List D} : L2.atI (xs ++ [x]) (-1) = some x := by
  unfold L2.atI L2.ixN
  rw [if_neg (by omega), if_pos (by simp; omega)]
  simp only [Option.bind_some]
  have : ((-1 : Int) + ((xs ++ [x]).length : Int)).toNat = xs.length := by simp; omega
  rw [this]
  simp
theorem plC_fl {fs : List Int} (h : Fl fs) : PlC 2 (flD fs) := .upTo (n := 1) (.tup (by rw [List.length_map]; have := h.2.1; unfold big; omega) fun y hy => by
  obtain ⟨i, _, rfl⟩ := List.mem_map.mp hy
  exact .int _) (by omega)
section
variable {F : FT} {fw : Nat} {b : Bx} {x y z w v u : D} {r : Rat} {fs gs os : List Int} {q : Bool}

theorem z_0 (L : Lib30 F) (h : Fl fs) {m : Nat} (hb : BI m b) (hm : m ≤ 790000000) : ∃ (x y : D) (b' : Bx), evalS F HD.con fw sZ_0 ⟨[.v .box, .v (flD fs), .v (qD r), .v (flD os), .v (.bl q), .no, .no, .no, .no, .no, .no, .no, .no], b⟩ = .next ⟨[.v .box, .v (flD fs), .v (qD r), .v (flD os), .v (.bl q), .no, .no, .no, .no, .no, .no, .v x, .v y], b'⟩ ∧ NoFl x ∧ NoR y ∧ BI (m + 6) b' := by
  obtain ⟨x, b1, e1, h1, i1⟩ := L.nofl fs m b h hb (by omega)
  obtain ⟨y, b2, e2, h2, i2⟩ := L.nort (m + 3) b1 i1 (by omega)
  refine ⟨x, y, b2, ?_, h1, h2, i2⟩
  simp [sZ_0, evalSs, evalS, evalE, evalEs, evalPs, evalT, evalTB, bindS, bindR, retR, optR, slotE, slotP, pk, truR, truD, callR, e1, e2, asgT, setAll, storeL, big2]

def tmL : List D := [.lst [.int 0, .int 1], .tup [.int 0, .int 0], .tup [.int 0, .int 41], .tup [.int (-1), .int 3], .tup [.int 1], .tup [.int 1, .int 2, .int 3], .non, .str "01", .tup [.bl true, .int 2], .tup [.int 1, .non]]
def rtL : List D := [.lst [], .tup [], .lst [.tup [.int 0, .int 1]], .tup [.tup [.int (-1), .int 1]], .tup (List.replicate 21 (.tup [.int 0, .int 1])), .non, .str "r", .tup [.tup [.int 0, .int 1], .int 5], .tup [.tup [.int 2, .int 4]], .tup [.int 0, .int 1]]
theorem plC_is {n : Nat} {xs : List D} (hl : xs.length ≤ big) (h : ∀ d ∈ xs, (∃ i, d = .int i) ∨ d = .non ∨ ∃ k, d = .bl k) : PlC (n + 1) (.tup xs) := .tup hl fun d hd => by
  rcases h d hd with ⟨i, rfl⟩ | rfl | ⟨k, rfl⟩
  · exact .int _
  · exact .non
  · exact .bl _
theorem pc01 (i j : Int) {n : Nat} : PlC (n + 1) (.tup [.int i, .int j]) := .tup big2 fun d hd => by
  simp only [List.mem_cons, List.not_mem_nil, or_false] at hd
  rcases hd with rfl | rfl <;> exact .int _
theorem tm_all : ∀ d ∈ tmL, NoTm d := by
  intro d hd
  unfold tmL at hd
  simp only [List.mem_cons, List.not_mem_nil, or_false] at hd
  rcases hd with rfl | rfl | rfl | rfl | rfl | rfl | rfl | rfl | rfl | rfl
  · exact ⟨rfl, .inl rfl, .lst big2 fun d hd => by
      simp only [List.mem_cons, List.not_mem_nil, or_false] at hd
      rcases hd with rfl | rfl <;> exact .int _⟩
  · exact ⟨rfl, .inr ⟨0, rfl, by decide⟩, pc01 _ _⟩
  · exact ⟨rfl, .inl (by decide), pc01 _ _⟩
  · exact ⟨rfl, .inl (by decide), pc01 _ _⟩
  · exact ⟨rfl, .inl (by decide), .tup big1 fun d hd => by rw [List.mem_singleton.mp hd]; exact .int _⟩
  · exact ⟨rfl, .inl (by decide), .tup big3 fun d hd => by
      simp only [List.mem_cons, List.not_mem_nil, or_false] at hd
      rcases hd with rfl | rfl | rfl <;> exact .int _⟩
  · exact ⟨rfl, .inl rfl, .non⟩
  · exact ⟨rfl, .inl rfl, .str sb_01⟩
  · exact ⟨rfl, .inl (by decide), .tup big2 fun d hd => by
      simp only [List.mem_cons, List.not_mem_nil, or_false] at hd
      rcases hd with rfl | rfl
      · exact .bl _
      · exact .int _⟩
  · exact ⟨rfl, .inl (by decide), .tup big2 fun d hd => by
      simp only [List.mem_cons, List.not_mem_nil, or_false] at hd
      rcases hd with rfl | rfl
      · exact .int _
      · exact .non⟩
theorem rt_all : ∀ d ∈ rtL, NoRs d := by
  intro d hd
  unfold rtL at hd
  simp only [List.mem_cons, List.not_mem_nil, or_false] at hd
  rcases hd with rfl | rfl | rfl | rfl | rfl | rfl | rfl | rfl | rfl | rfl
  · exact ⟨rfl, rfl, .lst (by show 0 ≤ big; omega) fun d hd => nomatch hd⟩
  · exact ⟨rfl, rfl, .tup (by show 0 ≤ big; omega) fun d hd => nomatch hd⟩
  · exact ⟨rfl, rfl, .lst big1 fun d hd => by rw [List.mem_singleton.mp hd]; exact pc01 _ _⟩
  · exact ⟨rfl, by decide, .tup big1 fun d hd => by rw [List.mem_singleton.mp hd]; exact pc01 _ _⟩
  · exact ⟨by decide, by decide, .tup (by rw [List.length_replicate]; unfold big; omega) fun d hd => by rw [(List.mem_replicate.mp hd).2]; exact pc01 _ _⟩
  · exact ⟨rfl, rfl, .non⟩
  · exact ⟨rfl, rfl, .str sb_r⟩
  · exact ⟨rfl, by decide, .tup big2 fun d hd => by
      simp only [List.mem_cons, List.not_mem_nil, or_false] at hd
      rcases hd with rfl | rfl
      · exact pc01 _ _
      · exact .int _⟩
  · exact ⟨rfl, by decide, .tup big1 fun d hd => by rw [List.mem_singleton.mp hd]; exact pc01 _ _⟩
  · exact ⟨rfl, by decide, pc01 _ _⟩

theorem z_1 (L : Lib30 F) {m : Nat} (hb : BI m b) (hm : m ≤ 790000000) : ∃ (z : D) (b' : Bx), evalS F HD.con fw sZ_1 ⟨[.v .box, .v (flD fs), .v (qD r), .v (flD os), .v (.bl q), .no, .no, .no, .no, .no, .no, .v x, .v y], b⟩ = .next ⟨[.v .box, .v (flD fs), .v (qD r), .v (flD os), .v (.bl q), .v z, .no, .no, .no, .no, .no, .v x, .v y], b'⟩ ∧ NoTm z ∧ BI (m + 1) b' := by
  obtain ⟨t, b', e, p, p2, i⟩ := L.take 10 m b (by omega) (by omega) hb (by omega)
  obtain ⟨d, hd, ha⟩ := atI_mem (xs := tmL) p p2
  refine ⟨d, b', ?_, tm_all d hd, i⟩
  unfold sZ_1
  refine ev_asg (s1 := ⟨[.v .box, .v (flD fs), .v (qD r), .v (flD os), .v (.bl q), .no, .no, .no, .no, .no, .no, .v x, .v y], b'⟩) (ev_ixL (s1 := ⟨[.v .box, .v (flD fs), .v (qD r), .v (flD os), .v (.bl q), .no, .no, .no, .no, .no, .no, .v x, .v y], b⟩) (ds := tmL) (by rfl) ?_ ha) rfl
  exact ev_callc (F := F) (con := HD.con) (s := ⟨[.v .box, .v (flD fs), .v (qD r), .v (flD os), .v (.bl q), .no, .no, .no, .no, .no, .no, .v x, .v y], b⟩) (s1 := ⟨[.v .box, .v (flD fs), .v (qD r), .v (flD os), .v (.bl q), .no, .no, .no, .no, .no, .no, .v x, .v y], b⟩) (ev_es1 (ev_slot rfl) (ev_es1 (e := .int 10) (d := .int 10) (by rfl) ev_es0)) e
theorem z_2 (L : Lib30 F) {m : Nat} (hb : BI m b) (hm : m ≤ 790000000) : ∃ (w : D) (b' : Bx), evalS F HD.con fw sZ_2 ⟨[.v .box, .v (flD fs), .v (qD r), .v (flD os), .v (.bl q), .v z, .no, .no, .no, .no, .no, .v x, .v y], b⟩ = .next ⟨[.v .box, .v (flD fs), .v (qD r), .v (flD os), .v (.bl q), .v z, .v w, .no, .no, .no, .no, .v x, .v y], b'⟩ ∧ NoRs w ∧ BI (m + 1) b' := by
  obtain ⟨t, b', e, p, p2, i⟩ := L.take 10 m b (by omega) (by omega) hb (by omega)
  obtain ⟨d, hd, ha⟩ := atI_mem (xs := rtL) p p2
  refine ⟨d, b', ?_, rt_all d hd, i⟩
  unfold sZ_2
  refine ev_asg (s1 := ⟨[.v .box, .v (flD fs), .v (qD r), .v (flD os), .v (.bl q), .v z, .no, .no, .no, .no, .no, .v x, .v y], b'⟩) (ev_ixL (s1 := ⟨[.v .box, .v (flD fs), .v (qD r), .v (flD os), .v (.bl q), .v z, .no, .no, .no, .no, .no, .v x, .v y], b⟩) (ds := rtL) (by rfl) ?_ ha) rfl
  exact ev_callc (F := F) (con := HD.con) (s := ⟨[.v .box, .v (flD fs), .v (qD r), .v (flD os), .v (.bl q), .v z, .no, .no, .no, .no, .no, .v x, .v y], b⟩) (s1 := ⟨[.v .box, .v (flD fs), .v (qD r), .v (flD os), .v (.bl q), .v z, .no, .no, .no, .no, .no, .v x, .v y], b⟩) (ev_es1 (ev_slot rfl) (ev_es1 (e := .int 10) (d := .int 10) (by rfl) ev_es0)) e
theorem flat1 {n : Nat} {d : D} : (List.replicate n [d]).flatten = List.replicate n d := by
  induction n with
  | zero => rfl
  | succ n ih => rw [List.replicate_succ, List.flatten_cons, ih]; rfl
theorem z_3 (L : Lib30 F) (h : Fl fs) {m : Nat} (hb : BI m b) (hm : m ≤ 790000000) : ∃ (u : D) (b' : Bx), evalS F HD.con fw sZ_3 ⟨[.v .box, .v (flD fs), .v (qD r), .v (flD os), .v (.bl q), .v z, .v w, .no, .no, .no, .no, .v x, .v y], b⟩ = .next ⟨[.v .box, .v (flD fs), .v (qD r), .v (flD os), .v (.bl q), .v z, .v w, .v u, .no, .no, .no, .v x, .v y], b'⟩ ∧ NoPl u ∧ PlC 3 u ∧ Fl fs ∧ (∃ us, u = flD us ∧ Fl us) ∧ BI (m + 1) b' := by
  have l1 := h.1
  have l2 := h.2.1
  obtain ⟨t, b', e, p, p2, i⟩ := L.take 3 m b (by omega) (by omega) hb (by omega)
  have f0 : Fl (List.replicate fs.length 0) := ⟨by rw [List.length_replicate]; omega, by rw [List.length_replicate]; omega, fun x hx => by rw [(List.mem_replicate.mp hx).2]; omega⟩
  have f1 : Fl (fs.take (fs.length - 1) ++ [-1]) := ⟨by simp, by simp; omega, fun x hx => by
    rcases List.mem_append.mp hx with hx | hx
    · exact h.2.2 x (List.mem_of_mem_take hx)
    · rw [List.mem_singleton.mp hx]; omega⟩
  have f2 : Fl [-1] := ⟨by simp, by simp, fun x hx => by rw [List.mem_singleton.mp hx]; omega⟩
  have hM : ∀ d ∈ [flD (List.replicate fs.length 0), flD (fs.take (fs.length - 1) ++ [-1]), flD [-1]], ∃ us, d = flD us ∧ Fl us ∧ ((∃ y ∈ us, y < 0) ∨ ∀ y ∈ us, y = 0) := by
    intro d hd
    simp only [List.mem_cons, List.not_mem_nil, or_false] at hd
    rcases hd with rfl | rfl | rfl
    · exact ⟨_, rfl, f0, .inr fun y hy => (List.mem_replicate.mp hy).2⟩
    · exact ⟨_, rfl, f1, .inl ⟨-1, by simp, by omega⟩⟩
    · exact ⟨_, rfl, f2, .inl ⟨-1, by simp, by omega⟩⟩
  obtain ⟨d, hd, ha⟩ := atI_mem (xs := [flD (List.replicate fs.length 0), flD (fs.take (fs.length - 1) ++ [-1]), flD [-1]]) p p2
  obtain ⟨us, rfl, hu, hz⟩ := hM d hd
  refine ⟨_, b', ?_, ⟨nf1_fl _, .inr ⟨us, rfl, hu, hz⟩⟩, (plC_fl hu).upTo (by omega), h, ⟨us, rfl, hu⟩, i⟩
  unfold sZ_3
  have e0 : evalE F HD.con (.bin .mul (.tup (.cons (.int 0) .nil)) (.blt .len (.cons (.slot 1) .nil))) ⟨[.v .box, .v (flD fs), .v (qD r), .v (flD os), .v (.bl q), .v z, .v w, .no, .no, .no, .no, .v x, .v y], b⟩ = .ok (flD (List.replicate fs.length 0)) ⟨[.v .box, .v (flD fs), .v (qD r), .v (flD os), .v (.bl q), .v z, .v w, .no, .no, .no, .no, .v x, .v y], b⟩ := by
    unfold flD
    rw [List.map_replicate]
    have c1 : (1 : Int) ≤ (fs.length : Int) := by omega
    have c2 : (fs.length : Int) ≤ 1000 := by omega
    simp [evalSs, evalS, evalE, evalEs, evalPs, evalT, evalTB, bindS, bindR, retR, optR, slotE, slotP, pk, truR, truD, callR, bltD, binD, big1, c1, c2, flat1]
  have e1 : evalE F HD.con (.bin .add (.slHi (.slot 1) (.neg (.int 1))) (.tup (.cons (.neg (.int 1)) .nil))) ⟨[.v .box, .v (flD fs), .v (qD r), .v (flD os), .v (.bl q), .v z, .v w, .no, .no, .no, .no, .v x, .v y], b⟩ = .ok (flD (fs.take (fs.length - 1) ++ [-1])) ⟨[.v .box, .v (flD fs), .v (qD r), .v (flD os), .v (.bl q), .v z, .v w, .no, .no, .no, .no, .v x, .v y], b⟩ := by
    unfold flD
    have k1 := cut_m1 (xs := fs.map D.int)
    rw [List.length_map] at k1
    rw [List.map_append, List.map_take]
    have k2 : (List.take (fs.length - 1) (fs.map D.int)).length + 1 ≤ big := by rw [List.length_take, List.length_map]; unfold big; omega
    generalize fs.map D.int = ds at *
    simp only [evalE, evalEs, bindR, retR, optR, slotE, slotP, pk, slD, binD, intR, List.getElem?_cons_succ, List.getElem?_cons_zero, k1, k2, big1, List.length_cons, List.length_nil, if_true, ite_true, Nat.zero_add]
    rfl
  refine ev_asg (s1 := ⟨[.v .box, .v (flD fs), .v (qD r), .v (flD os), .v (.bl q), .v z, .v w, .no, .no, .no, .no, .v x, .v y], b'⟩) (ev_ixL (s1 := ⟨[.v .box, .v (flD fs), .v (qD r), .v (flD os), .v (.bl q), .v z, .v w, .no, .no, .no, .no, .v x, .v y], b⟩) (ev_lst (ev_es1 e0 (ev_es1 e1 (ev_es1 (F := F) (con := HD.con) (d := flD [-1]) (by rfl) ev_es0))) big3) ?_ ha) rfl
  exact ev_callc (F := F) (con := HD.con) (s := ⟨[.v .box, .v (flD fs), .v (qD r), .v (flD os), .v (.bl q), .v z, .v w, .no, .no, .no, .no, .v x, .v y], b⟩) (s1 := ⟨[.v .box, .v (flD fs), .v (qD r), .v (flD os), .v (.bl q), .v z, .v w, .no, .no, .no, .no, .v x, .v y], b⟩) (ev_es1 (ev_slot rfl) (ev_es1 (e := .int 3) (d := .int 3) (by rfl) ev_es0)) e
theorem z_4 (L : Lib30 F) (h : Fl os) {m : Nat} (hb : BI m b) (hm : m ≤ 790000000) : ∃ (v : D) (b' : Bx), evalS F HD.con fw sZ_4 ⟨[.v .box, .v (flD fs), .v (qD r), .v (flD os), .v (.bl q), .v z, .v w, .v u, .no, .no, .no, .v x, .v y], b⟩ = .next ⟨[.v .box, .v (flD fs), .v (qD r), .v (flD os), .v (.bl q), .v z, .v w, .v u, .v v, .no, .no, .v x, .v y], b'⟩ ∧ NoFl v ∧ BI (m + 3) b' := by
  obtain ⟨x, b1, e1, h1, i1⟩ := L.nofl os m b h hb (by omega)
  refine ⟨x, b1, ?_, h1, i1⟩
  simp [sZ_4, evalSs, evalS, evalE, evalEs, evalPs, evalT, evalTB, bindS, bindR, retR, optR, slotE, slotP, pk, truR, truD, callR, e1, asgT]

theorem z_5 : evalS F HD.con fw sZ_5 ⟨[.v .box, .v (flD fs), .v (qD r), .v (flD os), .v (.bl q), .v z, .v w, .v u, .v v, .no, .no, .v x, .v y], b⟩ = .next ⟨[.v .box, .v (flD fs), .v (qD r), .v (flD os), .v (.bl q), .v z, .v w, .v u, .v v, .v (.lst []), .no, .v x, .v y], b⟩ := by
  have : (0 : Nat) ≤ big := by omega
  simp [sZ_5, evalSs, evalS, evalE, evalEs, evalPs, evalT, evalTB, bindS, bindR, retR, optR, slotE, slotP, pk, truR, truD, callR, asgT, this]
theorem nf_nopl (h : NoFl x) : NoPl x := ⟨h.nf, .inl h.fl⟩
theorem z_turn (L : Lib30 F) {t : Int} {ds : List D} (ht : t = 0 ∨ t = 1 ∨ t = 2) (hl : ds.length ≤ 6) (hp : Pln fs) (hx : NoFl x) (hu : NoPl u) (hy : NoR y) : evalSs F HD.con fw lZ_6 ⟨[.v .box, .v (flD fs), .v (qD r), .v (flD os), .v (.bl q), .v z, .v w, .v u, .v v, .v (.lst ds), .v (.int t), .v x, .v y], b⟩ = .next ⟨[.v .box, .v (flD fs), .v (qD r), .v (flD os), .v (.bl q), .v z, .v w, .v u, .v v, .v (.lst (ds ++ [.lst [.str "flow", x], .lst [.str "flow", u], .lst [.str "rate", y]])), .v (.int t), .v x, .v y], b⟩ := by
  have e1 := L.f t x y z q b ht (nf_nopl hx)
  have e2 := L.f t u y z (!q) b ht hu
  have e3 := L.r t fs y z q b ht hp hy
  have k1 : ds.length + 3 ≤ big := by unfold big; omega
  simp [lZ_6, evalSs, evalS, evalE, evalEs, evalPs, evalT, evalTB, bindS, bindR, retR, optR, slotE, slotP, pk, truR, truD, callR, e1, e2, e3, binD, big3, k1, asgT]
theorem z_6 (L : Lib30 F) (hp : Pln fs) (hx : NoFl x) (hu : NoPl u) (hy : NoR y) : evalS F HD.con fw sZ_6 ⟨[.v .box, .v (flD fs), .v (qD r), .v (flD os), .v (.bl q), .v z, .v w, .v u, .v v, .v (.lst []), .no, .v x, .v y], b⟩ = .next ⟨[.v .box, .v (flD fs), .v (qD r), .v (flD os), .v (.bl q), .v z, .v w, .v u, .v v, .v (.lst [.lst [.str "flow", x], .lst [.str "flow", u], .lst [.str "rate", y], .lst [.str "flow", x], .lst [.str "flow", u], .lst [.str "rate", y], .lst [.str "flow", x], .lst [.str "flow", u], .lst [.str "rate", y]]), .v (.int 2), .v x, .v y], b⟩ := by
  have t0 := z_turn (fw := fw) (b := b) (q := q) (r := r) (os := os) (z := z) (w := w) (v := v) L (t := 0) (ds := []) (.inl rfl) (by simp) hp hx hu hy
  have t1 := z_turn (fw := fw) (b := b) (q := q) (r := r) (os := os) (z := z) (w := w) (v := v) L (t := 1) (ds := [.lst [.str "flow", x], .lst [.str "flow", u], .lst [.str "rate", y]]) (.inr (.inl rfl)) (by simp) hp hx hu hy
  have t2 := z_turn (fw := fw) (b := b) (q := q) (r := r) (os := os) (z := z) (w := w) (v := v) L (t := 2) (ds := [.lst [.str "flow", x], .lst [.str "flow", u], .lst [.str "rate", y]] ++ [.lst [.str "flow", x], .lst [.str "flow", u], .lst [.str "rate", y]]) (.inr (.inr rfl)) (by simp) hp hx hu hy
  simp only [List.cons_append, List.nil_append] at t0 t1 t2
  unfold sZ_6
  rw [ev_for (ev_range1s (n := 3) (by rw [evalE]; rfl) (by omega))]
  rw [show rangeD 0 ((3 : Nat) : Int) = [.int 0, .int 1, .int 2] from rfl]
  unfold loopF
  simp only [asgT, List.length_cons, List.length_nil, List.set_cons_succ, List.set_cons_zero, Nat.zero_add, Nat.reduceAdd, Nat.reduceLT, if_true]
  rw [t0]
  dsimp only
  unfold loopF
  simp only [asgT, List.length_cons, List.length_nil, List.set_cons_succ, List.set_cons_zero, Nat.zero_add, Nat.reduceAdd, Nat.reduceLT, if_true]
  rw [t1]
  dsimp only
  unfold loopF
  simp only [asgT, List.length_cons, List.length_nil, List.set_cons_succ, List.set_cons_zero, Nat.zero_add, Nat.reduceAdd, Nat.reduceLT, if_true]
  rw [t2]
  rfl
theorem z_7 (L : Lib30 F) (hx : NoFl x) (hu : PlC 3 u) (hy : NoR y) : evalS F HD.con fw sZ_7 ⟨[.v .box, .v (flD fs), .v (qD r), .v (flD os), .v (.bl q), .v z, .v w, .v u, .v v, .v (.lst [.lst [.str "flow", x], .lst [.str "flow", u], .lst [.str "rate", y], .lst [.str "flow", x], .lst [.str "flow", u], .lst [.str "rate", y], .lst [.str "flow", x], .lst [.str "flow", u], .lst [.str "rate", y]]), .v (.int 2), .v x, .v y], b⟩ = .next ⟨[.v .box, .v (flD fs), .v (qD r), .v (flD os), .v (.bl q), .v z, .v w, .v u, .v v, .v (.lst [.lst [.str "flow", x], .lst [.str "flow", u], .lst [.str "rate", y], .lst [.str "flow", x], .lst [.str "flow", u], .lst [.str "rate", y], .lst [.str "flow", x], .lst [.str "flow", u], .lst [.str "rate", y]]), .v (.int 2), .v x, .v y], b⟩ := by
  have px : PlC 4 (.lst [.str "flow", x]) := plC_pair (.str sb_flow) hx.pl
  have pu : PlC 4 (.lst [.str "flow", u]) := plC_pair (.str sb_flow) hu
  have py : PlC 4 (.lst [.str "rate", y]) := plC_pair (.str sb_rate) ((hy.pl.upTo (m := 3) (by omega)).c)
  have hs := L.same (.lst [.lst [.str "flow", x], .lst [.str "flow", u], .lst [.str "rate", y], .lst [.str "flow", x], .lst [.str "flow", u], .lst [.str "rate", y], .lst [.str "flow", x], .lst [.str "flow", u], .lst [.str "rate", y]]) b (PlC.upTo (n := 5) (.lst (by show 9 ≤ big; decide) fun d hd => by
    simp only [List.mem_cons, List.not_mem_nil, or_false] at hd
    rcases hd with rfl | rfl | rfl | rfl | rfl | rfl | rfl | rfl | rfl <;> assumption) (by omega))
  have k9 : 9 ≤ big := by decide
  simp [sZ_7, tZ_7, evalSs, evalS, evalE, evalEs, evalPs, evalT, evalTB, bindS, bindR, retR, optR, slotE, slotP, pk, truR, truD, callR, binD, big2, big3, k9, List.replicate, hs]

theorem z_8 (L : Lib30 F) (hp : Pln fs) (h9 : Sz 9 r) (hr : 0 < 1 + r) (ho : Fl os) (hz : NoTm z) (hw : NoRs w) (hx : NoFl x) (hv : NoFl v) (hu : ∃ us, u = flD us ∧ Fl us) : evalS F HD.con fw sZ_8 ⟨[.v .box, .v (flD fs), .v (qD r), .v (flD os), .v (.bl q), .v z, .v w, .v u, .v v, .v (.lst [.lst [.str "flow", x], .lst [.str "flow", u], .lst [.str "rate", y], .lst [.str "flow", x], .lst [.str "flow", u], .lst [.str "rate", y], .lst [.str "flow", x], .lst [.str "flow", u], .lst [.str "rate", y]]), .v (.int 2), .v x, .v y], b⟩ = .next ⟨[.v .box, .v (flD fs), .v (qD r), .v (flD os), .v (.bl q), .v z, .v w, .v u, .v v, .v (.lst [.lst [.str "times", z], .lst [.str "flow", x], .lst [.str "flow", v], .lst [.str "rates", w]]), .v (.int 2), .v x, .v y], b⟩ := by
  obtain ⟨us, rfl, hus⟩ := hu
  have e1 := L.t2 fs r z q b hp h9 hr hz
  have e2 := L.c1 x v w q b hx
  have e3 := L.c2 fs v w (!q) b hp.fl hv
  have e4 := L.c3 us os w q b hus ho hw
  simp [sZ_8, evalSs, evalS, evalE, evalEs, evalPs, evalT, evalTB, bindS, bindR, retR, optR, slotE, slotP, pk, truR, truD, callR, e1, e2, e3, e4, big4, asgT]
theorem z_9 (L : Lib30 F) (hz : NoTm z) (hw : NoRs w) (hx : NoFl x) (hv : NoFl v) : evalS F HD.con fw sZ_9 ⟨[.v .box, .v (flD fs), .v (qD r), .v (flD os), .v (.bl q), .v z, .v w, .v u, .v v, .v (.lst [.lst [.str "times", z], .lst [.str "flow", x], .lst [.str "flow", v], .lst [.str "rates", w]]), .v (.int 2), .v x, .v y], b⟩ = .ret (.bl true) b := by
  have p1 : PlC 4 (.lst [.str "times", z]) := plC_pair (.str sb_times) hz.pl
  have p2 : PlC 4 (.lst [.str "flow", x]) := plC_pair (.str sb_flow) hx.pl
  have p3 : PlC 4 (.lst [.str "flow", v]) := plC_pair (.str sb_flow) hv.pl
  have p4 : PlC 4 (.lst [.str "rates", w]) := plC_pair (.str sb_rates) hw.pl
  have hs := L.same (.lst [.lst [.str "times", z], .lst [.str "flow", x], .lst [.str "flow", v], .lst [.str "rates", w]]) b (PlC.upTo (n := 5) (.lst (by show 4 ≤ big; decide) fun d hd => by
    simp only [List.mem_cons, List.not_mem_nil, or_false] at hd
    rcases hd with rfl | rfl | rfl | rfl <;> assumption) (by omega))
  simp [sZ_9, evalSs, evalS, evalE, evalEs, evalPs, evalT, evalTB, bindS, bindR, retR, optR, slotE, slotP, pk, truR, truD, callR, big2, big4, hs]
theorem run_refused (L : Lib30 F) {m : Nat} (hb : BI m b) (hm : m ≤ 700000000) (h : Pln fs) (h9 : Sz 9 r) (hr : 0 < 1 + r) (ho : Fl os) : ∃ b' : Bx, runF F HD.con fw ⟨5, 13, b__law_refusals_right⟩ [.box, flD fs, qD r, flD os, .bl q] b = .ok (.bl true) b' ∧ BI (m + 12) b' := by
  obtain ⟨x, y, b1, s0', hx, hy, i1⟩ := z_0 (fw := fw) (r := r) (os := os) (q := q) L h.fl hb (by omega)
  obtain ⟨z, b2, s1, hz, i2⟩ := z_1 (fw := fw) (fs := fs) (r := r) (os := os) (q := q) (x := x) (y := y) L i1 (by omega)
  obtain ⟨w, b3, s2, hw, i3⟩ := z_2 (fw := fw) (fs := fs) (r := r) (os := os) (q := q) (x := x) (y := y) (z := z) L i2 (by omega)
  obtain ⟨u, b4, s3, hu, pu, _, fu, i4⟩ := z_3 (fw := fw) (r := r) (os := os) (q := q) (x := x) (y := y) (z := z) (w := w) L h.fl i3 (by omega)
  obtain ⟨v, b5, s4, hv, i5⟩ := z_4 (fw := fw) (fs := fs) (r := r) (q := q) (x := x) (y := y) (z := z) (w := w) (u := u) L ho i4 (by omega)
  refine ⟨b5, ?_, bi_mono i5 (by omega)⟩
  refine run_of rfl ?_
  rw [eqZr]
  exact sq s0' (sq s1 (sq s2 (sq s3 (sq s4 (sq z_5 (sq (z_6 L h hx hu hy) (sq (z_7 L hx pu hy) (sq (z_8 L h h9 hr ho hz hw hx hv fu) (sr (z_9 L hz hw hx hv))))))))))
end
end HD

namespace HD
open PySem PySem.Spec PV
def ImmAt (F : FT) : Prop := ∀ (fs : List Int) (r : Rat) (q : Bool) (m : Nat) (b : Bx), BI m b → m ≤ 700000000 → Pln fs → Sz 9 r → 0 < 1 + r → ∃ b' : Bx, F 49 [.box, flD fs, qD r, qD (medQ r fs), .bl q] b = .ok (.bl true) b' ∧ BI (m + 3) b'
def RefAt (F : FT) : Prop := ∀ (fs os : List Int) (r : Rat) (q : Bool) (m : Nat) (b : Bx), BI m b → m ≤ 700000000 → Pln fs → Sz 9 r → 0 < 1 + r → Fl os → ∃ b' : Bx, F 51 [.box, flD fs, qD r, flD os, .bl q] b = .ok (.bl true) b' ∧ BI (m + 12) b'
def IsR (d : D) : Prop := ∃ q : Rat, d = qD q ∧ Sz 9 q ∧ 0 < 1 + q
theorem isR_list : ∀ {ds : List D}, (∀ d ∈ ds, IsR d) → ∃ rs : List Rat, ds = rs.map qD ∧ ∀ q ∈ rs, Sz 9 q ∧ 0 < 1 + q
  | [], _ => ⟨[], rfl, by simp⟩
  | d :: ds, h => by
    obtain ⟨x, rfl, hx⟩ := h d List.mem_cons_self
    obtain ⟨xs, rfl, hxs⟩ := isR_list fun e he => h e (List.mem_cons_of_mem _ he)
    exact ⟨x :: xs, rfl, fun y hy => by
      rcases List.mem_cons.mp hy with rfl | hy
      · exact hx
      · exact hxs y hy⟩
theorem eq_nil : ∀ {l : List Rat}, l.length ≤ 4 → eqD (.lst (l.map qD)) (.lst []) = some l.isEmpty
  | [], _ => rfl
  | [_], _ => rfl
  | [_, _], _ => rfl
  | [_, _, _], _ => rfl
  | [_, _, _, _], _ => rfl
  | _ :: _ :: _ :: _ :: _ :: _, h => by simp at h
theorem fil_any (p : Rat → Bool) : ∀ l : List Rat, (l.filter p).isEmpty = !l.any p
  | [] => rfl
  | x :: xs => by
    rw [List.filter_cons, List.any_cons]
    cases h : p x
    · simp [fil_any p xs]
    · simp
section
variable {F : FT} {fw : Nat} {b : Bx} {x y z w v u : D} {r : Rat} {fs gs os : List Int} {q c : Bool} {rs : List Rat}

theorem r_0 (L : Lib30 F) {m : Nat} (hb : BI m b) (hm : m ≤ 600000000) : ∃ (fs : List Int) (r : Rat) (q : Bool) (b' : Bx), evalS F HD.con fw sR_0 ⟨[.v .box, .no, .no, .no, .no, .no, .no, .no, .no, .no, .no, .no, .no, .no, .no], b⟩ = .next ⟨[.v .box, .no, .no, .no, .no, .no, .no, .v (flD fs), .v (qD r), .v (.bl q), .no, .no, .no, .no, .no], b'⟩ ∧ Pln fs ∧ Sz 9 r ∧ 0 < 1 + r ∧ BI (m + 46) b' := by
  obtain ⟨fs, b1, e1, h, i1⟩ := L.pln m b hb (by omega)
  obtain ⟨r, b2, e2, sr, rp, i2⟩ := L.rate (m + 40) b1 i1 (by omega)
  obtain ⟨t3, b3, e3, p3, q3, i3⟩ := L.take 2 (m + 45) b2 (by omega) (by omega) i2 (by omega)
  refine ⟨fs, r, decide (t3 = 0), b3, ?_, h, sr, rp, i3⟩
  simp [sR_0, evalSs, evalS, evalE, evalEs, evalPs, evalT, evalTB, bindS, bindR, retR, optR, slotE, slotP, pk, truR, truD, callR, e1, e2, e3, cpD, eq_int, asgT, setAll, storeL, big3]
theorem r_1 (L : Lib30 F) (h9 : Sz 9 r) : evalS F HD.con fw sR_1 ⟨[.v .box, .no, .no, .no, .no, .no, .no, .v (flD fs), .v (qD r), .v (.bl q), .no, .no, .no, .no, .no], b⟩ = .next ⟨[.v .box, .no, .no, .no, .no, .no, .no, .v (flD fs), .v (qD r), .v (.bl q), .v (.int (fs.length : Int)), .v (qD (1 + r)), .no, .no, .no], b⟩ := by
  have e : F 31 [.tup [.int 1, .int 1], qD r] b = .ok (qD (1 + r)) b := L.add 1 r 1 9 b sz1 h9 (by omega)
  have el : bltD .len [flD fs] = some (.int (fs.length : Int)) := by
    show some (D.int ((fs.map D.int).length : Int)) = _
    rw [List.length_map]
  simp [sR_1, evalSs, evalS, evalE, evalEs, evalPs, evalT, evalTB, bindS, bindR, retR, optR, slotE, slotP, pk, truR, truD, callR, el, e, asgT, setAll, storeL, big2]
theorem r_2 (L : Lib30 F) (h : Pln fs) (h9 : Sz 9 r) (hr : 0 < 1 + r) : evalS F HD.con fw sR_2 ⟨[.v .box, .no, .no, .no, .no, .no, .no, .v (flD fs), .v (qD r), .v (.bl q), .v (.int (fs.length : Int)), .v (qD (1 + r)), .no, .no, .no], b⟩ = .next ⟨[.v .box, .v (qD (medQ r fs)), .no, .no, .no, .no, .no, .v (flD fs), .v (qD r), .v (.bl q), .v (.int (fs.length : Int)), .v (qD (1 + r)), .no, .no, .no], b⟩ := by
  have h12 := h.fl.2.1
  have e := L.wtd fs (rgI fs.length) r b h (rgI_bd h12) h9 hr
  have eL := ev_rngL (F := F) (con := HD.con) (e := .slot 10) (n := fs.length) (s := ⟨[.v .box, .no, .no, .no, .no, .no, .no, .v (flD fs), .v (qD r), .v (.bl q), .v (.int (fs.length : Int)), .v (qD (1 + r)), .no, .no, .no], b⟩) (ev_slot rfl) (by omega)
  unfold sR_2
  exact ev_asg (ev_callc (ev_es1 (ev_slot rfl) (ev_es1 (ev_slot rfl) (ev_es1 eL ev_es0))) e) rfl
theorem r_3 (L : Lib30 F) (h : Pln fs) (h9 : Sz 9 r) (hr : 0 < 1 + r) : evalS F HD.con fw sR_3 ⟨[.v .box, .v (qD (medQ r fs)), .no, .no, .no, .no, .no, .v (flD fs), .v (qD r), .v (.bl q), .v (.int (fs.length : Int)), .v (qD (1 + r)), .no, .no, .no], b⟩ = .next ⟨[.v .box, .v (qD (medQ r fs)), .v (qD (bendQ r fs)), .no, .no, .no, .no, .v (flD fs), .v (qD r), .v (.bl q), .v (.int (fs.length : Int)), .v (qD (1 + r)), .no, .no, .no], b⟩ := by
  have h12 := h.fl.2.1
  have e3 := L.wtd fs (rg2 fs.length) r b h (rg2_bd h12) h9 hr
  have e5 := L.mul (1 + r) (1 + r) 11 11 b (sz11 h9) (sz11 h9) (by omega)
  have zs : Sz 12 (1 / (1 + r)) := sz1.div (sz11 h9) (num_ne hr)
  have e6 := L.div _ ((1 + r) * (1 + r)) _ _ b (mid_sz zs (inv_pos' hr) h (rg2_bd h12)) ((sz11 h9).mul (sz11 h9)) (by omega) (num_ne (Rat.mul_pos hr hr))
  have hc := compR_oneA (elt := evalE F HD.con eR_0) (env := [.v .box, .v (qD (medQ r fs)), .no, .no, .no, .no, .no, .v (flD fs), .v (qD r), .v (.bl q), .v (.int (fs.length : Int)), .v (qD (1 + r)), .no, .no, .no]) (b := b) (j := 14) (f := D.int) (g := fun t => D.int (t * (t + 1))) (xs := rgI fs.length) rfl (by unfold rgI; rw [List.length_map, List.length_range]; unfold big; omega) fun t ht => by
    have hb := rgI_bd h12 t ht
    have mo : mulOk t (t + 1) = true := mulOk_sz (n := 9) (m := 9) (by omega) (by omega) (by omega)
    simp [eR_0, evalSs, evalS, evalE, evalEs, evalPs, evalT, evalTB, bindS, bindR, retR, optR, slotE, slotP, pk, truR, truD, callR, binD, mo]
  have hp : ((rgI fs.length).map fun t => D.int (t * (t + 1))) = (rg2 fs.length).map D.int := by unfold rg2; rw [List.map_map]; rfl
  rw [hp] at hc
  have eI := ev_range1s (F := F) (con := HD.con) (e := .slot 10) (env := [.v .box, .v (qD (medQ r fs)), .no, .no, .no, .no, .no, .v (flD fs), .v (qD r), .v (.bl q), .v (.int (fs.length : Int)), .v (qD (1 + r)), .no, .no, .no]) (b := b) (n := fs.length) (ev_slot rfl) (by omega)
  rw [range_i] at eI
  have ec := ev_comp eI hc
  unfold sR_3
  refine ev_asg (s1 := ⟨[.v .box, .v (qD (medQ r fs)), .no, .no, .no, .no, .no, .v (flD fs), .v (qD r), .v (.bl q), .v (.int (fs.length : Int)), .v (qD (1 + r)), .no, .no, .no], b⟩) (ev_callc (s1 := ⟨[.v .box, .v (qD (medQ r fs)), .no, .no, .no, .no, .no, .v (flD fs), .v (qD r), .v (.bl q), .v (.int (fs.length : Int)), .v (qD (1 + r)), .no, .no, .no], b⟩) (ev_es1 (s1 := ⟨[.v .box, .v (qD (medQ r fs)), .no, .no, .no, .no, .no, .v (flD fs), .v (qD r), .v (.bl q), .v (.int (fs.length : Int)), .v (qD (1 + r)), .no, .no, .no], b⟩) (ev_callc (ev_es1 (ev_slot rfl) (ev_es1 (ev_slot rfl) (ev_es1 ec ev_es0))) e3) (ev_es1 (s1 := ⟨[.v .box, .v (qD (medQ r fs)), .no, .no, .no, .no, .no, .v (flD fs), .v (qD r), .v (.bl q), .v (.int (fs.length : Int)), .v (qD (1 + r)), .no, .no, .no], b⟩) (ev_callc (ev_es1 (ev_slot rfl) (ev_es1 (ev_slot rfl) ev_es0)) e5) ev_es0)) e6) rfl
theorem r_4 (L : Lib30 F) (h : Pln fs) (h9 : Sz 9 r) (hr : 0 < 1 + r) : evalS F HD.con fw sR_4 ⟨[.v .box, .v (qD (medQ r fs)), .v (qD (bendQ r fs)), .no, .no, .no, .no, .v (flD fs), .v (qD r), .v (.bl q), .v (.int (fs.length : Int)), .v (qD (1 + r)), .no, .no, .no], b⟩ = .next ⟨[.v .box, .v (qD (medQ r fs)), .v (qD (bendQ r fs)), .v (.lst [qD (medQ r fs), qD (medQ r fs), qD (bendQ r fs), qD (bendQ r fs)]), .no, .no, .no, .v (flD fs), .v (qD r), .v (.bl q), .v (.int (fs.length : Int)), .v (qD (1 + r)), .no, .no, .no], b⟩ := by
  have e1 := L.a0 fs r .non q b h h9 hr
  have e2 := L.a0 fs r .non (!q) b h h9 hr
  have e3 := L.a1 fs r .non q b h h9 hr
  have e4 := L.a1 fs r .non (!q) b h h9 hr
  simp [sR_4, evalSs, evalS, evalE, evalEs, evalPs, evalT, evalTB, bindS, bindR, retR, optR, slotE, slotP, pk, truR, truD, callR, e1, e2, e3, e4, big4, asgT]
theorem r_5 (L : Lib30 F) : evalS F HD.con fw sR_5 ⟨[.v .box, .v (qD (medQ r fs)), .v (qD (bendQ r fs)), .v (.lst [qD (medQ r fs), qD (medQ r fs), qD (bendQ r fs), qD (bendQ r fs)]), .no, .no, .no, .v (flD fs), .v (qD r), .v (.bl q), .v (.int (fs.length : Int)), .v (qD (1 + r)), .no, .no, .no], b⟩ = .next ⟨[.v .box, .v (qD (medQ r fs)), .v (qD (bendQ r fs)), .v (.lst [qD (medQ r fs), qD (medQ r fs), qD (bendQ r fs), qD (bendQ r fs)]), .no, .no, .no, .v (flD fs), .v (qD r), .v (.bl q), .v (.int (fs.length : Int)), .v (qD (1 + r)), .no, .no, .no], b⟩ := by
  have hs := L.same (.lst [qD (medQ r fs), qD (medQ r fs), qD (bendQ r fs), qD (bendQ r fs)]) b (.lst big4 fun d hd => by
    simp only [List.mem_cons, List.not_mem_nil, or_false] at hd
    rcases hd with rfl | rfl | rfl | rfl <;> exact plC_q _)
  simp [sR_5, tR_5, evalSs, evalS, evalE, evalEs, evalPs, evalT, evalTB, bindS, bindR, retR, optR, slotE, slotP, pk, truR, truD, callR, big4, hs]
theorem r_6 (hI : ImmAt F) (h : Pln fs) (h9 : Sz 9 r) (hr : 0 < 1 + r) {m : Nat} (hb : BI m b) (hm : m ≤ 600000000) : ∃ b' : Bx, evalS F HD.con fw sR_6 ⟨[.v .box, .v (qD (medQ r fs)), .v (qD (bendQ r fs)), .v (.lst [qD (medQ r fs), qD (medQ r fs), qD (bendQ r fs), qD (bendQ r fs)]), .no, .no, .no, .v (flD fs), .v (qD r), .v (.bl q), .v (.int (fs.length : Int)), .v (qD (1 + r)), .no, .no, .no], b⟩ = .next ⟨[.v .box, .v (qD (medQ r fs)), .v (qD (bendQ r fs)), .v (.lst [qD (medQ r fs), qD (medQ r fs), qD (bendQ r fs), qD (bendQ r fs)]), .no, .no, .no, .v (flD fs), .v (qD r), .v (.bl q), .v (.int (fs.length : Int)), .v (qD (1 + r)), .no, .no, .no], b'⟩ ∧ BI (m + 6) b' := by
  obtain ⟨b1, e1, i1⟩ := hI fs r q m b hb (by omega) h h9 hr
  obtain ⟨b2, e2, i2⟩ := hI fs r (!q) (m + 3) b1 i1 (by omega) h h9 hr
  refine ⟨b2, ?_, i2⟩
  unfold sR_6 tR_6
  refine ev_iffno (ev_or (s1 := ⟨[.v .box, .v (qD (medQ r fs)), .v (qD (bendQ r fs)), .v (.lst [qD (medQ r fs), qD (medQ r fs), qD (bendQ r fs), qD (bendQ r fs)]), .no, .no, .no, .v (flD fs), .v (qD r), .v (.bl q), .v (.int (fs.length : Int)), .v (qD (1 + r)), .no, .no, .no], b1⟩) (ev_not (ev_callc (s1 := ⟨[.v .box, .v (qD (medQ r fs)), .v (qD (bendQ r fs)), .v (.lst [qD (medQ r fs), qD (medQ r fs), qD (bendQ r fs), qD (bendQ r fs)]), .no, .no, .no, .v (flD fs), .v (qD r), .v (.bl q), .v (.int (fs.length : Int)), .v (qD (1 + r)), .no, .no, .no], b⟩) (by simp [evalSs, evalS, evalE, evalEs, evalPs, evalT, evalTB, bindS, bindR, retR, optR, slotE, slotP, pk, truR, truD, callR]) e1)) (ev_not (ev_callc (s1 := ⟨[.v .box, .v (qD (medQ r fs)), .v (qD (bendQ r fs)), .v (.lst [qD (medQ r fs), qD (medQ r fs), qD (bendQ r fs), qD (bendQ r fs)]), .no, .no, .no, .v (flD fs), .v (qD r), .v (.bl q), .v (.int (fs.length : Int)), .v (qD (1 + r)), .no, .no, .no], b1⟩) (by simp [evalSs, evalS, evalE, evalEs, evalPs, evalT, evalTB, bindS, bindR, retR, optR, slotE, slotP, pk, truR, truD, callR]) e2)))
theorem r_7 (L : Lib30 F) (hp : Pln fs) {m : Nat} (hb : BI m b) (hm : m ≤ 600000000) : ∃ (os : List Int) (b' : Bx), evalS F HD.con fw sR_7 ⟨[.v .box, .v (qD (medQ r fs)), .v (qD (bendQ r fs)), .v (.lst [qD (medQ r fs), qD (medQ r fs), qD (bendQ r fs), qD (bendQ r fs)]), .no, .no, .no, .v (flD fs), .v (qD r), .v (.bl q), .v (.int (fs.length : Int)), .v (qD (1 + r)), .no, .no, .no], b⟩ = .next ⟨[.v .box, .v (qD (medQ r fs)), .v (qD (bendQ r fs)), .v (.lst [qD (medQ r fs), qD (medQ r fs), qD (bendQ r fs), qD (bendQ r fs)]), .v (flD os), .no, .no, .v (flD fs), .v (qD r), .v (.bl q), .v (.int (fs.length : Int)), .v (qD (1 + r)), .no, .no, .no], b'⟩ ∧ Fl os ∧ BI (m + 29) b' := by
  obtain ⟨t, b1, e1, p1, q1, i1⟩ := L.take 3 m b (by omega) (by omega) hb (by omega)
  by_cases ht : 0 < t
  · obtain ⟨t2, b2, e2, p2, q2, i2⟩ := L.take 2 (m + 1) b1 (by omega) (by omega) i1 (by omega)
    obtain ⟨x, hx, ha⟩ := atI_mem (xs := [.int 4, .int 90]) p2 q2
    have hM : ∀ x ∈ ([.int 4, .int 90] : List D), ∃ w : Int, x = .int w ∧ 1 ≤ w ∧ w ≤ 900000 := by
      intro x hx
      simp only [List.mem_cons, List.not_mem_nil, or_false] at hx
      rcases hx with rfl | rfl <;> exact ⟨_, rfl, by omega, by omega⟩
    obtain ⟨w, rfl, hw⟩ := hM x hx
    obtain ⟨os, b3, e3, ho, i3⟩ := L.flow 8 w (m + 2) b2 (by omega) hw i2 (by omega)
    refine ⟨os, b3, ?_, ho, i3⟩
    simp [sR_7, evalSs, evalS, evalE, evalEs, evalPs, evalT, evalTB, bindS, bindR, retR, optR, slotE, slotP, pk, truR, truD, callR, e1, ht, cpD, e2, ixD, ha, e3, asgT, big2]
  · refine ⟨fs, b1, ?_, hp.fl, bi_mono i1 (by omega)⟩
    simp [sR_7, evalSs, evalS, evalE, evalEs, evalPs, evalT, evalTB, bindS, bindR, retR, optR, slotE, slotP, pk, truR, truD, callR, e1, ht, cpD, asgT]
theorem last_of : ∀ {fs : List Int}, 1 ≤ fs.length → ∃ ys x, fs = ys ++ [x]
  | fs, h => by
    rcases List.eq_nil_or_concat fs with rfl | ⟨ys, x, rfl⟩
    · simp at h
    · exact ⟨ys, x, by simp⟩
theorem r_8 (L : Lib30 F) (hp : Pln fs) (ho : Fl os) {m : Nat} (hb : BI m b) (hm : m ≤ 600000000) : ∃ (os' : List Int) (b' : Bx), evalS F HD.con fw sR_8 ⟨[.v .box, .v (qD (medQ r fs)), .v (qD (bendQ r fs)), .v (.lst [qD (medQ r fs), qD (medQ r fs), qD (bendQ r fs), qD (bendQ r fs)]), .v (flD os), .no, .no, .v (flD fs), .v (qD r), .v (.bl q), .v (.int (fs.length : Int)), .v (qD (1 + r)), .no, .no, .no], b⟩ = .next ⟨[.v .box, .v (qD (medQ r fs)), .v (qD (bendQ r fs)), .v (.lst [qD (medQ r fs), qD (medQ r fs), qD (bendQ r fs), qD (bendQ r fs)]), .v (flD os'), .no, .no, .v (flD fs), .v (qD r), .v (.bl q), .v (.int (fs.length : Int)), .v (qD (1 + r)), .no, .no, .no], b'⟩ ∧ Fl os' ∧ BI (m + 1) b' := by
  obtain ⟨t, b1, e1, p1, q1, i1⟩ := L.take 3 m b (by omega) (by omega) hb (by omega)
  by_cases ht : t = 0
  · obtain ⟨ys, x, hfs⟩ := last_of hp.fl.1
    have l2 := hp.fl.2.1
    rw [hfs] at l2
    have hx0 := hp.nn x (by rw [hfs]; simp)
    have hx := hp.fl.2.2 x (by rw [hfs]; simp)
    have hys : ∀ y ∈ ys, -1000000 ≤ y ∧ y ≤ 1000000 := fun y hy => hp.fl.2.2 y (by rw [hfs]; simp [hy])
    refine ⟨ys ++ [x - 1], b1, ?_, ⟨by simp, by simpa using l2, fun z hz => ?_⟩, i1⟩
    · have k1 := cut_m1 (xs := ys.map D.int ++ [D.int x])
      have k2 : (ys.map D.int ++ [D.int x]).take ((ys.map D.int ++ [D.int x]).length - 1) = ys.map D.int := by simp
      rw [k2] at k1
      have k3 := at_last (x := D.int x) (xs := ys.map D.int)
      have k4 : (ys.map D.int).length + 1 ≤ big := by rw [List.length_map]; simp at l2; unfold big; omega
      have g : flD fs = .tup (ys.map D.int ++ [D.int x]) := by rw [hfs]; unfold flD; simp
      have g2 : flD (ys ++ [x - 1]) = .tup (ys.map D.int ++ [D.int (x - 1)]) := by unfold flD; simp
      unfold sR_8 tR_8
      refine ev_iffT (s1 := ⟨[.v .box, .v (qD (medQ r fs)), .v (qD (bendQ r fs)), .v (.lst [qD (medQ r fs), qD (medQ r fs), qD (bendQ r fs), qD (bendQ r fs)]), .v (flD os), .no, .no, .v (flD fs), .v (qD r), .v (.bl q), .v (.int (fs.length : Int)), .v (qD (1 + r)), .no, .no, .no], b1⟩) (by simp [evalSs, evalS, evalE, evalEs, evalPs, evalT, evalTB, bindS, bindR, retR, optR, slotE, slotP, pk, truR, truD, callR, e1, ht, cpD, eq_int]) ?_
      refine sq (s' := ⟨[.v .box, .v (qD (medQ r fs)), .v (qD (bendQ r fs)), .v (.lst [qD (medQ r fs), qD (medQ r fs), qD (bendQ r fs), qD (bendQ r fs)]), .v (flD (ys ++ [x - 1])), .no, .no, .v (flD fs), .v (qD r), .v (.bl q), .v (.int (fs.length : Int)), .v (qD (1 + r)), .no, .no, .no], b1⟩) (ev_asg (s1 := ⟨[.v .box, .v (qD (medQ r fs)), .v (qD (bendQ r fs)), .v (.lst [qD (medQ r fs), qD (medQ r fs), qD (bendQ r fs), qD (bendQ r fs)]), .v (flD os), .no, .no, .v (flD fs), .v (qD r), .v (.bl q), .v (.int (fs.length : Int)), .v (qD (1 + r)), .no, .no, .no], b1⟩) (d := flD (ys ++ [x - 1])) ?_ rfl) s0
      rw [g2]
      refine ev_bin (x := .tup (ys.map D.int)) (y := .tup [.int (x - 1)]) (s1 := ⟨[.v .box, .v (qD (medQ r fs)), .v (qD (bendQ r fs)), .v (.lst [qD (medQ r fs), qD (medQ r fs), qD (bendQ r fs), qD (bendQ r fs)]), .v (flD os), .no, .no, .v (flD fs), .v (qD r), .v (.bl q), .v (.int (fs.length : Int)), .v (qD (1 + r)), .no, .no, .no], b1⟩) ?_ ?_ ?_
      · show evalE F HD.con (.slHi (.slot 7) (.neg (.int 1))) _ = _
        rw [g]
        simp [evalE, bindR, retR, optR, slotE, slotP, pk, slD, intR, k1]
      · show evalE F HD.con (.tup (.cons (.bin .sub (.ix (.slot 7) (.neg (.int 1))) (.int 1)) .nil)) _ = _
        rw [g]
        simp [evalE, evalEs, bindR, retR, optR, slotE, slotP, pk, ixD, intR, k3, binD, big1]
      · exact if_pos k4
    · rcases List.mem_append.mp hz with hz | hz
      · exact hys z hz
      · rw [List.mem_singleton.mp hz]; omega
  · refine ⟨os, b1, ?_, ho, i1⟩
    unfold sR_8 tR_8
    exact ev_iffno (s1 := ⟨[.v .box, .v (qD (medQ r fs)), .v (qD (bendQ r fs)), .v (.lst [qD (medQ r fs), qD (medQ r fs), qD (bendQ r fs), qD (bendQ r fs)]), .v (flD os), .no, .no, .v (flD fs), .v (qD r), .v (.bl q), .v (.int (fs.length : Int)), .v (qD (1 + r)), .no, .no, .no], b1⟩) (by simp [evalSs, evalS, evalE, evalEs, evalPs, evalT, evalTB, bindS, bindR, retR, optR, slotE, slotP, pk, truR, truD, callR, e1, ht, cpD, eq_int])
theorem r_9 (L : Lib30 F) {m : Nat} (hb : BI m b) (hm : m ≤ 600000000) : ∃ (rs : List Rat) (b' : Bx), evalS F HD.con fw sR_9 ⟨[.v .box, .v (qD (medQ r fs)), .v (qD (bendQ r fs)), .v (.lst [qD (medQ r fs), qD (medQ r fs), qD (bendQ r fs), qD (bendQ r fs)]), .v (flD os), .no, .no, .v (flD fs), .v (qD r), .v (.bl q), .v (.int (fs.length : Int)), .v (qD (1 + r)), .no, .no, .no], b⟩ = .next ⟨[.v .box, .v (qD (medQ r fs)), .v (qD (bendQ r fs)), .v (.lst [qD (medQ r fs), qD (medQ r fs), qD (bendQ r fs), qD (bendQ r fs)]), .v (flD os), .v (.tup (rs.map qD)), .no, .v (flD fs), .v (qD r), .v (.bl q), .v (.int (fs.length : Int)), .v (qD (1 + r)), .no, .no, .no], b'⟩ ∧ Rs rs ∧ rs.length ≤ 4 ∧ BI (m + 21) b' := by
  obtain ⟨t, b1, e1, p1, q1, i1⟩ := L.take 4 m b (by omega) (by omega) hb (by omega)
  obtain ⟨n, hn⟩ : ∃ n : Nat, (n : Int) = 1 + t := ⟨(1 + t).toNat, by omega⟩
  have n1 : 1 ≤ n := by omega
  have n4 : n ≤ 4 := by omega
  obtain ⟨ds, b2, e, l, hq, i2⟩ := compR_boxN (elt := evalE F HD.con eR_1) (env := [.v .box, .v (qD (medQ r fs)), .v (qD (bendQ r fs)), .v (.lst [qD (medQ r fs), qD (medQ r fs), qD (bendQ r fs), qD (bendQ r fs)]), .v (flD os), .no, .no, .v (flD fs), .v (qD r), .v (.bl q), .v (.int (fs.length : Int)), .v (qD (1 + r)), .no, .no, .no]) (j := 12) (c := 5) rfl (Q := IsR) (M := 900000000) (xs := rangeD 0 (n : Int)) (b := b1) (m := m + 1) (by rw [rng_len]; unfold big; omega) i1 (by rw [rng_len]; omega) fun x hx b m hb hm => by
    obtain ⟨r', b', er, sr, rp, i⟩ := L.rate m b hb (by omega)
    refine ⟨qD r', b', ?_, ⟨r', rfl, sr, rp⟩, i⟩
    simp [eR_1, evalSs, evalS, evalE, evalEs, evalPs, evalT, evalTB, bindS, bindR, retR, optR, slotE, slotP, pk, truR, truD, callR, er]
  rw [rng_len] at l i2
  obtain ⟨rs, rfl, hrs⟩ := isR_list hq
  rw [List.length_map] at l
  have en : evalE F HD.con (.bin .add (.int 1) (.call 27 (.cons (.slot 0) (.cons (.int 4) .nil)))) ⟨[.v .box, .v (qD (medQ r fs)), .v (qD (bendQ r fs)), .v (.lst [qD (medQ r fs), qD (medQ r fs), qD (bendQ r fs), qD (bendQ r fs)]), .v (flD os), .no, .no, .v (flD fs), .v (qD r), .v (.bl q), .v (.int (fs.length : Int)), .v (qD (1 + r)), .no, .no, .no], b⟩ = .ok (.int (n : Int)) ⟨[.v .box, .v (qD (medQ r fs)), .v (qD (bendQ r fs)), .v (.lst [qD (medQ r fs), qD (medQ r fs), qD (bendQ r fs), qD (bendQ r fs)]), .v (flD os), .no, .no, .v (flD fs), .v (qD r), .v (.bl q), .v (.int (fs.length : Int)), .v (qD (1 + r)), .no, .no, .no], b1⟩ := by
    rw [hn]
    simp [evalSs, evalS, evalE, evalEs, evalPs, evalT, evalTB, bindS, bindR, retR, optR, slotE, slotP, pk, truR, truD, callR, e1, binD]
  have eI := ev_rangeS en (by omega)
  refine ⟨rs, b2, ?_, ⟨by omega, by omega, hrs⟩, by omega, bi_mono i2 (by omega)⟩
  unfold sR_9
  exact ev_asg (s1 := ⟨[.v .box, .v (qD (medQ r fs)), .v (qD (bendQ r fs)), .v (.lst [qD (medQ r fs), qD (medQ r fs), qD (bendQ r fs), qD (bendQ r fs)]), .v (flD os), .no, .no, .v (flD fs), .v (qD r), .v (.bl q), .v (.int (fs.length : Int)), .v (qD (1 + r)), .no, .no, .no], b2⟩) (ev_blt1 (x := .lst (rs.map qD)) (show pk (.comp eR_1 (.name 12) (.range1 (.bin .add (.int 1) (.call 27 (.cons (.slot 0) (.cons (.int 4) .nil)))))) (evalE F HD.con (.comp eR_1 (.name 12) (.range1 (.bin .add (.int 1) (.call 27 (.cons (.slot 0) (.cons (.int 4) .nil))))))) _ = _ from ev_comp eI e) rfl) rfl
theorem r_10 (L : Lib30 F) (hp : Pln fs) (ho : Fl os) (hz : Rs rs) (h4 : rs.length ≤ 4) : evalS F HD.con fw sR_10 ⟨[.v .box, .v (qD (medQ r fs)), .v (qD (bendQ r fs)), .v (.lst [qD (medQ r fs), qD (medQ r fs), qD (bendQ r fs), qD (bendQ r fs)]), .v (flD os), .v (.tup (rs.map qD)), .no, .v (flD fs), .v (qD r), .v (.bl q), .v (.int (fs.length : Int)), .v (qD (1 + r)), .no, .no, .no], b⟩ = .next ⟨[.v .box, .v (qD (medQ r fs)), .v (qD (bendQ r fs)), .v (.lst [qD (medQ r fs), qD (medQ r fs), qD (bendQ r fs), qD (bendQ r fs)]), .v (flD os), .v (.tup (rs.map qD)), .v (.bl (!rs.any (lessQ fs os))), .v (flD fs), .v (qD r), .v (.bl q), .v (.int (fs.length : Int)), .v (qD (1 + r)), .no, .no, .no], b⟩ := by
  have f12 := hp.fl.2.1
  have o12 := ho.2.1
  have hc := compR_fil1 (cond := evalT F HD.con ceR_2) (elt := evalE F HD.con eR_2) (env := [.v .box, .v (qD (medQ r fs)), .v (qD (bendQ r fs)), .v (.lst [qD (medQ r fs), qD (medQ r fs), qD (bendQ r fs), qD (bendQ r fs)]), .v (flD os), .v (.tup (rs.map qD)), .no, .v (flD fs), .v (qD r), .v (.bl q), .v (.int (fs.length : Int)), .v (qD (1 + r)), .no, .no, .no]) (b := b) (j := 13) (f := qD) (g := qD) (p := lessQ fs os) (xs := rs) rfl (by unfold big; omega) fun q' hq' => by
    obtain ⟨z9, hq0⟩ := hz.sz q' hq'
    have zs : Sz 12 (1 / (1 + q')) := sz1.div (sz11 z9) (num_ne hq0)
    have n1 := L.pres (flD fs) fs q' b (.inl rfl) hp.fl.bg z9 hq0
    have n2 := L.pres (flD os) os q' b (.inl rfl) ho.bg z9 hq0
    have n3 := L.below _ _ _ _ b (wQ_szB zs hp.fl.bg.2) (wQ_szB zs ho.bg.2) (by omega)
    exact ⟨by simp [ceR_2, evalSs, evalS, evalE, evalEs, evalPs, evalT, evalTB, bindS, bindR, retR, optR, slotE, slotP, pk, truR, truD, callR, n1, n2, n3, lessQ], by simp [eR_2, evalSs, evalS, evalE, evalEs, evalPs, evalT, evalTB, bindS, bindR, retR, optR, slotE, slotP, pk, truR, truD, callR]⟩
  have hsl : evalE F HD.con (.slot 5) ⟨[.v .box, .v (qD (medQ r fs)), .v (qD (bendQ r fs)), .v (.lst [qD (medQ r fs), qD (medQ r fs), qD (bendQ r fs), qD (bendQ r fs)]), .v (flD os), .v (.tup (rs.map qD)), .no, .v (flD fs), .v (qD r), .v (.bl q), .v (.int (fs.length : Int)), .v (qD (1 + r)), .no, .no, .no], b⟩ = .ok (.tup (rs.map qD)) ⟨[.v .box, .v (qD (medQ r fs)), .v (qD (bendQ r fs)), .v (.lst [qD (medQ r fs), qD (medQ r fs), qD (bendQ r fs), qD (bendQ r fs)]), .v (flD os), .v (.tup (rs.map qD)), .no, .v (flD fs), .v (qD r), .v (.bl q), .v (.int (fs.length : Int)), .v (qD (1 + r)), .no, .no, .no], b⟩ := ev_slot rfl
  have ec := ev_compI (ev_seqT hsl) hc
  have hq : eqD (.lst ((rs.filter (lessQ fs os)).map qD)) (.lst []) = some (!rs.any (lessQ fs os)) := by
    rw [eq_nil (Nat.le_trans (List.length_filter_le _ _) h4), fil_any]
  unfold sR_10
  refine ev_asg (s1 := ⟨[.v .box, .v (qD (medQ r fs)), .v (qD (bendQ r fs)), .v (.lst [qD (medQ r fs), qD (medQ r fs), qD (bendQ r fs), qD (bendQ r fs)]), .v (flD os), .v (.tup (rs.map qD)), .no, .v (flD fs), .v (qD r), .v (.bl q), .v (.int (fs.length : Int)), .v (qD (1 + r)), .no, .no, .no], b⟩) (ev_cmpG (show pk (.compIf eR_2 (.name 13) (.seq (.slot 5)) ceR_2) (evalE F HD.con (.compIf eR_2 (.name 13) (.seq (.slot 5)) ceR_2)) _ = _ from ec) (y := .lst []) (s2 := ⟨[.v .box, .v (qD (medQ r fs)), .v (qD (bendQ r fs)), .v (.lst [qD (medQ r fs), qD (medQ r fs), qD (bendQ r fs), qD (bendQ r fs)]), .v (flD os), .v (.tup (rs.map qD)), .no, .v (flD fs), .v (qD r), .v (.bl q), .v (.int (fs.length : Int)), .v (qD (1 + r)), .no, .no, .no], b⟩) ?_ (show cpD .eq _ _ = _ from hq)) rfl
  show evalE F HD.con (.lst .nil) _ = _
  exact ev_lst ev_es0 (by show 0 ≤ big; omega)
theorem r_11 (L : Lib30 F) (hp : Pln fs) (ho : Fl os) (hz : Rs rs) : evalS F HD.con fw sR_11 ⟨[.v .box, .v (qD (medQ r fs)), .v (qD (bendQ r fs)), .v (.lst [qD (medQ r fs), qD (medQ r fs), qD (bendQ r fs), qD (bendQ r fs)]), .v (flD os), .v (.tup (rs.map qD)), .v (.bl (!rs.any (lessQ fs os))), .v (flD fs), .v (qD r), .v (.bl q), .v (.int (fs.length : Int)), .v (qD (1 + r)), .no, .no, .no], b⟩ = .next ⟨[.v .box, .v (qD (medQ r fs)), .v (qD (bendQ r fs)), .v (.lst [qD (medQ r fs), qD (medQ r fs), qD (bendQ r fs), qD (bendQ r fs)]), .v (flD os), .v (.tup (rs.map qD)), .v (.bl (!rs.any (lessQ fs os))), .v (flD fs), .v (qD r), .v (.bl q), .v (.int (fs.length : Int)), .v (qD (1 + r)), .no, .no, .no], b⟩ := by
  have e1 := L.a3 fs os rs q b hp.fl ho hz
  have e2 := L.a3 fs os rs (!q) b hp.fl ho hz
  have hs := L.same (.lst [.bl (!rs.any (lessQ fs os)), .bl (!rs.any (lessQ fs os))]) b (.lst big2 fun d hd => by
    simp only [List.mem_cons, List.not_mem_nil, or_false] at hd
    rcases hd with rfl | rfl <;> exact .bl _)
  simp [sR_11, tR_11, evalSs, evalS, evalE, evalEs, evalPs, evalT, evalTB, bindS, bindR, retR, optR, slotE, slotP, pk, truR, truD, callR, e1, e2, big2, hs]
theorem r_12 (L : Lib30 F) (h : Pln fs) (h9 : Sz 9 r) (hr : 0 < 1 + r) : evalS F HD.con fw sR_12 ⟨[.v .box, .v (qD (medQ r fs)), .v (qD (bendQ r fs)), .v (.lst [qD (medQ r fs), qD (medQ r fs), qD (bendQ r fs), qD (bendQ r fs)]), .v (flD os), .v (.tup (rs.map qD)), .v (.bl (!rs.any (lessQ fs os))), .v (flD fs), .v (qD r), .v (.bl q), .v (.int (fs.length : Int)), .v (qD (1 + r)), .no, .no, .no], b⟩ = .next ⟨[.v .box, .v (qD (medQ r fs)), .v (qD (bendQ r fs)), .v (.lst [qD (medQ r fs), qD (medQ r fs), qD (bendQ r fs), qD (bendQ r fs)]), .v (flD os), .v (.tup (rs.map qD)), .v (.bl (!rs.any (lessQ fs os))), .v (flD fs), .v (qD r), .v (.bl q), .v (.int (fs.length : Int)), .v (qD (1 + r)), .no, .no, .no], b⟩ := by
  have e1 := L.prs fs r b h.fl h9 hr
  have e2 := L.pres (flD fs) fs r b (.inl rfl) h.fl.bg h9 hr
  have hs := L.same (qD (wQ (1 / (1 + r)) fs)) b (plC_q _)
  simp [sR_12, tR_12, evalSs, evalS, evalE, evalEs, evalPs, evalT, evalTB, bindS, bindR, retR, optR, slotE, slotP, pk, truR, truD, callR, e1, e2, hs]
theorem r_13 (hR : RefAt F) (h : Pln fs) (h9 : Sz 9 r) (hr : 0 < 1 + r) (ho : Fl os) {m : Nat} (hb : BI m b) (hm : m ≤ 600000000) : ∃ b' : Bx, evalS F HD.con fw sR_13 ⟨[.v .box, .v (qD (medQ r fs)), .v (qD (bendQ r fs)), .v (.lst [qD (medQ r fs), qD (medQ r fs), qD (bendQ r fs), qD (bendQ r fs)]), .v (flD os), .v (.tup (rs.map qD)), .v (.bl (!rs.any (lessQ fs os))), .v (flD fs), .v (qD r), .v (.bl q), .v (.int (fs.length : Int)), .v (qD (1 + r)), .no, .no, .no], b⟩ = .ret (.bl true) b' ∧ BI (m + 12) b' := by
  obtain ⟨b1, e1, i1⟩ := hR fs os r q m b hb (by omega) h h9 hr ho
  exact ⟨b1, by simp [sR_13, evalSs, evalS, evalE, evalEs, evalPs, evalT, evalTB, bindS, bindR, retR, optR, slotE, slotP, pk, truR, truD, callR, e1], i1⟩
theorem run_right (L : Lib30 F) (hI : ImmAt F) (hR : RefAt F) {m : Nat} (hb : BI m b) (hm : m ≤ 500000000) : ∃ b' : Bx, runF F HD.con fw ⟨1, 15, b__law_right⟩ [.box] b = .ok (.bl true) b' ∧ BI (m + 120) b' := by
  obtain ⟨fs, r, q, b1, s0', h, h9, hr, i1⟩ := r_0 (fw := fw) L hb (by omega)
  have s1 := r_1 (fw := fw) (b := b1) (fs := fs) (q := q) L h9
  have s2 := r_2 (fw := fw) (b := b1) (q := q) L h h9 hr
  have s3 := r_3 (fw := fw) (b := b1) (q := q) L h h9 hr
  have s4 := r_4 (fw := fw) (b := b1) (q := q) L h h9 hr
  have s5 := r_5 (fw := fw) (b := b1) (fs := fs) (r := r) (q := q) L
  obtain ⟨b2, s6, i2⟩ := r_6 (fw := fw) (q := q) hI h h9 hr i1 (by omega)
  obtain ⟨os, b3, s7, ho, i3⟩ := r_7 (fw := fw) (r := r) (q := q) L h i2 (by omega)
  obtain ⟨os2, b4, s8, ho2, i4⟩ := r_8 (fw := fw) (r := r) (q := q) L h ho i3 (by omega)
  obtain ⟨rs, b5, s9, hz, h4, i5⟩ := r_9 (fw := fw) (fs := fs) (r := r) (q := q) (os := os2) L i4 (by omega)
  have s10 := r_10 (fw := fw) (b := b5) (r := r) (q := q) L h ho2 hz h4
  have s11 := r_11 (fw := fw) (b := b5) (r := r) (q := q) L h ho2 hz
  have s12 := r_12 (fw := fw) (b := b5) (q := q) (os := os2) (rs := rs) L h h9 hr
  obtain ⟨b6, s13, i6⟩ := r_13 (fw := fw) (q := q) (rs := rs) hR h h9 hr ho2 i5 (by omega)
  refine ⟨b6, ?_, bi_mono i6 (by omega)⟩
  refine run_of rfl ?_
  rw [eqRr]
  exact sq s0' (sq s1 (sq s2 (sq s3 (sq s4 (sq s5 (sq s6 (sq s7 (sq s8 (sq s9 (sq s10 (sq s11 (sq s12 (sr s13)))))))))))))
end
theorem immAt {fw : Nat} (hfw : ∀ n : Nat, n.log2 < 9000 → n < fw) (k : Nat) : ImmAt (E fw (k + 12)) := fun fs r q m b hb hm h h9 hr => by
  obtain ⟨b', e, i⟩ := run_imm (fw := fw) (q := q) (lib30 hfw k) hb hm h h9 hr
  exact ⟨b', (ev_def (k := k + 9) rfl).trans e, i⟩
theorem refAt {fw : Nat} (hfw : ∀ n : Nat, n.log2 < 9000 → n < fw) (k : Nat) : RefAt (E fw (k + 12)) := fun fs os r q m b hb hm h h9 hr ho => by
  obtain ⟨b', e, i⟩ := run_refused (fw := fw) (q := q) (lib30 hfw k) hb hm h h9 hr ho
  exact ⟨b', (ev_def (k := k + 9) rfl).trans e, i⟩
theorem law30 {fw : Nat} (hfw : ∀ n : Nat, n.log2 < 9000 → n < fw) (kk : Int) (b : Bx) (hb : BxOk MM b) : ∃ s', evalSs (evF defs con fw 40) con fw b_law ⟨env0 Nl.length 1 2 52 kk, b⟩ = .next s' ∧ s'.env[0]? = some (.v (.fn 52)) ∧ s'.env.length = Nl.length := by
  have i0 := hb.bi (by decide)
  have L := lib30 hfw 28
  obtain ⟨b2, e2, i2⟩ := run_right (fw := fw) L (immAt hfw 27) (refAt hfw 27) i0 (by omega)
  obtain ⟨b3, e3, i3⟩ := run_right (fw := fw) L (immAt hfw 27) (refAt hfw 27) i2 (by omega)
  have f2 : evF defs con fw 40 50 [.box] b = .ok (.bl true) b2 := (ev_def (k := 37) rfl).trans e2
  have f3 : evF defs con fw 40 50 [.box] b2 = .ok (.bl true) b3 := (ev_def (k := 37) rfl).trans e3
  refine ⟨⟨[.v (.fn 52), .v (.int kk), .v .box], b3⟩, ?_, rfl, rfl⟩
  unfold b_law
  refine sq (ev_iffno (ev_or (ev_not (ev_callc (s := ⟨[.v (.fn 52), .v (.int kk), .v .box], b⟩) (ev_es1 (ev_slot rfl) ev_es0) f2)) (ev_not (ev_callc (ev_es1 (ev_slot rfl) ev_es0) f3)))) s0
end HD
theorem PySem.Challenge.cw_marketbench_k30_whole_durations_and_immu_holds : PySem.Challenge.rw_marketbench_k30_whole_durations_and_immu.Holds := by
  obtain ⟨fw, hfw⟩ := PV.fw_big 9000
  exact HD.holds_of (fw := fw) fun kk b _ _ hb => HD.law30 hfw kk b hb

