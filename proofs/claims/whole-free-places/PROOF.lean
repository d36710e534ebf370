import PyProof.Rows.All
import Wide.All
import OpenK.AllK
import Wide.FinOn
import HandS.Words
import PySem.Challenge.RW_onesheetmore_k28_whole_free_places
import KE.KStateDown
import Lean
import HandS.ForExc
import HandS.ExcInit
import HandS.ExcIs
import HandS.Defaults
import HandS.Head0
import HandS.Head1
import HandS.Head2
import HandS.Head3
import HandS.HeadEnd
import HandS.HeadHook1
import HandS.HeadHook2
import HandS.HeadHook3
import HandS.HeadHook4
import HandS.Comp
import HandS.TupAny
import HandS.WideBits
import HandS.Gcd
import HandS.IsInst
import HandS.Deep
import HandS.More
import HandS.SortRule
import HandS.SortInts
import HandS.Strs
import HandS.SetFor
import HandS.Iter
import KE.GoesEnum
import KE.GoesMore
import KE.KMathGC
import HandS.ExcField
import KE.KExcIs
set_option Elab.async false
section
set_option Elab.async false
set_option linter.all false
set_option maxRecDepth 100000
namespace K28
open PySem PySem.Spec PyProof.Rows L2
def top (i : Nat) : Stmt := PySem.Challenge.pw_onesheetmore_k28_whole_free_places.main.body.getD i (.Pass ⟨0, 0, 0, 0⟩)
abbrev s_ends_of : Stmt := top 2
abbrev s_is_below : Stmt := top 3
abbrev s_greater_of : Stmt := top 4
abbrev s_have_common : Stmt := top 5
abbrev s_same_sheet : Stmt := top 6
abbrev s_do_overlap : Stmt := top 7
abbrev s_by_value : Stmt := top 8
abbrev s_in_sheet : Stmt := top 9
abbrev s_is_integer : Stmt := top 15
abbrev s_is_number : Stmt := top 16
abbrev s_is_quotient : Stmt := top 17
abbrev s_is_kind : Stmt := top 18
abbrev s_is_tuple_of : Stmt := top 19
abbrev s_is_piece : Stmt := top 21
abbrev s_is_inside : Stmt := top 23
abbrev s_first_pair : Stmt := top 24
abbrev s_first_fault : Stmt := top 25
abbrev s_need_spread : Stmt := top 26
abbrev s_need_index : Stmt := top 27
abbrev s_need_sheet : Stmt := top 28
abbrev s_lowest : Stmt := top 30
abbrev s_place_in : Stmt := top 31
abbrev s_unused : Stmt := top 32
abbrev s_spot_in_sort : Stmt := top 33
abbrev s_free_place : Stmt := top 34
abbrev s_clear : Stmt := top 35
abbrev s_clear_side : Stmt := top 36
abbrev s_clear_across : Stmt := top 37
abbrev s_clear_up : Stmt := top 38
abbrev s_Lfeed : Stmt := top 40
abbrev s_Ltake : Stmt := top 41
abbrev s_Lsame : Stmt := top 42
abbrev s_Llow : Stmt := top 43
abbrev s_Lsizes : Stmt := top 44
abbrev s_Lside : Stmt := top 45
abbrev s_Lstock : Stmt := top 46
abbrev s_Lfilled : Stmt := top 47
abbrev s_Lmoved : Stmt := top 48
abbrev s_Lscene : Stmt := top 49
abbrev s_Lspread : Stmt := top 50
abbrev s_Lblock : Stmt := top 51
abbrev s_Lopen : Stmt := top 52
abbrev s_Lany : Stmt := top 53
abbrev s_Lquotient : Stmt := top 54
abbrev s_Lfits : Stmt := top 55
abbrev s_Lclear : Stmt := top 56
abbrev s_Lasked : Stmt := top 57
abbrev s_Lbent : Stmt := top 58
abbrev s_law : Stmt := top 59
abbrev s_init : Stmt := inClass (top 13) 0
end K28
end
section
set_option Elab.async false
set_option linter.all false
set_option maxRecDepth 100000
set_option maxHeartbeats 0
namespace K28
open PySem PySem.Spec PyProof.Rows L2
def d_ends_of : He.DefD := ⟨("ends_of", none), "ends_of", "ends_of", defArgs s_ends_of, defBody s_ends_of, defScope s_ends_of, [], []⟩
def d_is_below : He.DefD := ⟨("is_below", none), "is_below", "is_below", defArgs s_is_below, defBody s_is_below, defScope s_is_below, [], []⟩
def d_greater_of : He.DefD := ⟨("greater_of", none), "greater_of", "greater_of", defArgs s_greater_of, defBody s_greater_of, defScope s_greater_of, [], []⟩
def d_have_common : He.DefD := ⟨("have_common", none), "have_common", "have_common", defArgs s_have_common, defBody s_have_common, defScope s_have_common, [], []⟩
def d_same_sheet : He.DefD := ⟨("same_sheet", none), "same_sheet", "same_sheet", defArgs s_same_sheet, defBody s_same_sheet, defScope s_same_sheet, [], []⟩
def d_do_overlap : He.DefD := ⟨("do_overlap", none), "do_overlap", "do_overlap", defArgs s_do_overlap, defBody s_do_overlap, defScope s_do_overlap, [], []⟩
def d_by_value : He.DefD := ⟨("by_value", none), "by_value", "by_value", defArgs s_by_value, defBody s_by_value, defScope s_by_value, [], []⟩
def d_in_sheet : He.DefD := ⟨("in_sheet", none), "in_sheet", "in_sheet", defArgs s_in_sheet, defBody s_in_sheet, defScope s_in_sheet, [], []⟩
def d_is_integer : He.DefD := ⟨("is_integer", none), "is_integer", "is_integer", defArgs s_is_integer, defBody s_is_integer, defScope s_is_integer, [], []⟩
def d_is_number : He.DefD := ⟨("is_number", none), "is_number", "is_number", defArgs s_is_number, defBody s_is_number, defScope s_is_number, [], []⟩
def d_is_quotient : He.DefD := ⟨("is_quotient", none), "is_quotient", "is_quotient", defArgs s_is_quotient, defBody s_is_quotient, defScope s_is_quotient, [], []⟩
def d_is_kind : He.DefD := ⟨("is_kind", none), "is_kind", "is_kind", defArgs s_is_kind, defBody s_is_kind, defScope s_is_kind, [], []⟩
def d_is_tuple_of : He.DefD := ⟨("_is_tuple_of", none), "_is_tuple_of", "_is_tuple_of", defArgs s_is_tuple_of, defBody s_is_tuple_of, defScope s_is_tuple_of, [], []⟩
def d_is_piece : He.DefD := ⟨("is_piece", none), "is_piece", "is_piece", defArgs s_is_piece, defBody s_is_piece, defScope s_is_piece, [], []⟩
def d_is_inside : He.DefD := ⟨("is_inside", none), "is_inside", "is_inside", defArgs s_is_inside, defBody s_is_inside, defScope s_is_inside, [], []⟩
def d_first_pair : He.DefD := ⟨("first_pair", none), "first_pair", "first_pair", defArgs s_first_pair, defBody s_first_pair, defScope s_first_pair, [], []⟩
def d_first_fault : He.DefD := ⟨("first_fault", none), "first_fault", "first_fault", defArgs s_first_fault, defBody s_first_fault, defScope s_first_fault, [], []⟩
def d_need_spread : He.DefD := ⟨("need_spread", none), "need_spread", "need_spread", defArgs s_need_spread, defBody s_need_spread, defScope s_need_spread, [], []⟩
def d_need_index : He.DefD := ⟨("need_index", none), "need_index", "need_index", defArgs s_need_index, defBody s_need_index, defScope s_need_index, [], []⟩
def d_need_sheet : He.DefD := ⟨("need_sheet", none), "need_sheet", "need_sheet", defArgs s_need_sheet, defBody s_need_sheet, defScope s_need_sheet, [], []⟩
def d_lowest : He.DefD := ⟨("_lowest", none), "_lowest", "_lowest", defArgs s_lowest, defBody s_lowest, defScope s_lowest, [], []⟩
def d_place_in : He.DefD := ⟨("_place_in", none), "_place_in", "_place_in", defArgs s_place_in, defBody s_place_in, defScope s_place_in, [], []⟩
def d_unused : He.DefD := ⟨("_unused", none), "_unused", "_unused", defArgs s_unused, defBody s_unused, defScope s_unused, [], []⟩
def d_spot_in_sort : He.DefD := ⟨("_spot_in_sort", none), "_spot_in_sort", "_spot_in_sort", defArgs s_spot_in_sort, defBody s_spot_in_sort, defScope s_spot_in_sort, [], []⟩
def d_free_place : He.DefD := ⟨("free_place", none), "free_place", "free_place", defArgs s_free_place, defBody s_free_place, defScope s_free_place, [], []⟩
def d_clear : He.DefD := ⟨("_clear", none), "_clear", "_clear", defArgs s_clear, defBody s_clear, defScope s_clear, [], []⟩
def d_clear_side : He.DefD := ⟨("_clear_side", none), "_clear_side", "_clear_side", defArgs s_clear_side, defBody s_clear_side, defScope s_clear_side, [], []⟩
def d_clear_across : He.DefD := ⟨("clear_across", none), "clear_across", "clear_across", defArgs s_clear_across, defBody s_clear_across, defScope s_clear_across, [], []⟩
def d_clear_up : He.DefD := ⟨("clear_up", none), "clear_up", "clear_up", defArgs s_clear_up, defBody s_clear_up, defScope s_clear_up, [], []⟩
def d_Lfeed : He.DefD := ⟨("_law_feed", none), "_law_feed", "_law_feed", defArgs s_Lfeed, defBody s_Lfeed, defScope s_Lfeed, [], []⟩
def d_Ltake : He.DefD := ⟨("_law_take", none), "_law_take", "_law_take", defArgs s_Ltake, defBody s_Ltake, defScope s_Ltake, [], []⟩
def d_Lsame : He.DefD := ⟨("_law_same", none), "_law_same", "_law_same", defArgs s_Lsame, defBody s_Lsame, defScope s_Lsame, [], []⟩
def d_Llow : He.DefD := ⟨("_law_low", none), "_law_low", "_law_low", defArgs s_Llow, defBody s_Llow, defScope s_Llow, [], []⟩
def d_Lsizes : He.DefD := ⟨("_law_sizes", none), "_law_sizes", "_law_sizes", defArgs s_Lsizes, defBody s_Lsizes, defScope s_Lsizes, [], []⟩
def d_Lside : He.DefD := ⟨("_law_side", none), "_law_side", "_law_side", defArgs s_Lside, defBody s_Lside, defScope s_Lside, [], []⟩
def d_Lstock : He.DefD := ⟨("_law_stock", none), "_law_stock", "_law_stock", defArgs s_Lstock, defBody s_Lstock, defScope s_Lstock, [], []⟩
def d_Lfilled : He.DefD := ⟨("_law_filled", none), "_law_filled", "_law_filled", defArgs s_Lfilled, defBody s_Lfilled, defScope s_Lfilled, [], []⟩
def d_Lmoved : He.DefD := ⟨("_law_moved", none), "_law_moved", "_law_moved", defArgs s_Lmoved, defBody s_Lmoved, defScope s_Lmoved, [], []⟩
def d_Lscene : He.DefD := ⟨("_law_scene", none), "_law_scene", "_law_scene", defArgs s_Lscene, defBody s_Lscene, defScope s_Lscene, [], []⟩
def d_Lspread : He.DefD := ⟨("_law_spread", none), "_law_spread", "_law_spread", defArgs s_Lspread, defBody s_Lspread, defScope s_Lspread, [], []⟩
def d_Lblock : He.DefD := ⟨("_law_block", none), "_law_block", "_law_block", defArgs s_Lblock, defBody s_Lblock, defScope s_Lblock, [], []⟩
def d_Lopen : He.DefD := ⟨("_law_open", none), "_law_open", "_law_open", defArgs s_Lopen, defBody s_Lopen, defScope s_Lopen, [], []⟩
def d_Lany : He.DefD := ⟨("_law_any", none), "_law_any", "_law_any", defArgs s_Lany, defBody s_Lany, defScope s_Lany, [], []⟩
def d_Lquotient : He.DefD := ⟨("_law_quotient", none), "_law_quotient", "_law_quotient", defArgs s_Lquotient, defBody s_Lquotient, defScope s_Lquotient, [], []⟩
def d_Lfits : He.DefD := ⟨("_law_fits", none), "_law_fits", "_law_fits", defArgs s_Lfits, defBody s_Lfits, defScope s_Lfits, [], []⟩
def d_Lclear : He.DefD := ⟨("_law_clear", none), "_law_clear", "_law_clear", defArgs s_Lclear, defBody s_Lclear, defScope s_Lclear, [], []⟩
def d_Lasked : He.DefD := ⟨("_law_asked", none), "_law_asked", "_law_asked", defArgs s_Lasked, defBody s_Lasked, defScope s_Lasked, [], []⟩
def d_Lbent : He.DefD := ⟨("_law_bent", none), "_law_bent", "_law_bent", defArgs s_Lbent, defBody s_Lbent, defScope s_Lbent, [], []⟩
def d_law : He.DefD := ⟨("law", none), "law", "law", defArgs s_law, defBody s_law, defScope s_law, [], []⟩
def d_init : He.DefD := ⟨("NotUsable", some "__init__"), "__init__", "NotUsable.__init__", defArgs s_init, defBody s_init, defScope s_init, [], []⟩
def fnA : List He.DefD := [d_ends_of, d_is_below, d_greater_of, d_have_common, d_same_sheet, d_do_overlap, d_by_value, d_in_sheet, d_is_integer, d_is_number, d_is_quotient, d_is_kind, d_is_tuple_of, d_is_piece, d_is_inside, d_first_pair, d_first_fault, d_need_spread, d_need_index, d_need_sheet, d_lowest, d_place_in, d_unused, d_spot_in_sort, d_free_place]
def fnB : List He.DefD := [d_clear, d_clear_side, d_clear_across, d_clear_up, d_Lfeed, d_Ltake, d_Lsame, d_Llow, d_Lsizes, d_Lside, d_Lstock, d_Lfilled, d_Lmoved, d_Lscene, d_Lspread, d_Lblock, d_Lopen, d_Lany, d_Lquotient, d_Lfits, d_Lclear, d_Lasked, d_Lbent, d_law, d_init]
def fn : List He.DefD := fnA ++ fnB
def faA : List He.Fa := [.glo "ends_of", .glo "is_below", .glo "greater_of", .glo "have_common", .glo "same_sheet", .glo "do_overlap", .glo "by_value", .glo "in_sheet", .glo "is_integer", .glo "is_number", .glo "is_quotient", .glo "is_kind", .glo "_is_tuple_of", .glo "is_piece", .glo "is_inside", .glo "first_pair", .glo "first_fault", .glo "need_spread", .glo "need_index", .glo "need_sheet", .glo "_lowest", .glo "_place_in", .glo "_unused", .glo "_spot_in_sort", .glo "free_place"]
def faB : List He.Fa := [.glo "_clear", .glo "_clear_side", .glo "clear_across", .glo "clear_up", .glo "_law_feed", .glo "_law_take", .glo "_law_same", .glo "_law_low", .glo "_law_sizes", .glo "_law_side", .glo "_law_stock", .glo "_law_filled", .glo "_law_moved", .glo "_law_scene", .glo "_law_spread", .glo "_law_block", .glo "_law_open", .glo "_law_any", .glo "_law_quotient", .glo "_law_fits", .glo "_law_clear", .glo "_law_asked", .glo "_law_bent", .glo "law", .glo "NotUsable", .glo "LayError"]
def faC : List He.Fa := [.free "bool", .free "enumerate", .free "int", .free "isinstance", .free "len", .free "list", .free "max", .free "min", .free "range", .free "set", .free "sorted", .free "str", .free "tuple"]
def fa : List He.Fa := faA ++ (faB ++ faC)
/-- the written part's class facts -/
def oexB (K : PySem.W.Frag) (C : Addr) : Bool := match K.lookup C with
  | some ⟨.type "type", _, .cls cd, sl⟩ => (match cd.mro, sl.toList with
    | .ref C' :: bm, [_, _, _, _, some (.builtin n), _] => decide (C' = C) && (decide (n = "ValueError.__new__") && (!cd.hasDel && (cd.hasDict && PySem.HandSPX.refsVE bm)))
    | _, _ => false)
  | _ => false
def ini (K : PySem.W.Frag) : Addr := He.ma K (He.ga K "NotUsable") "__init__"
def ex (K : PySem.W.Frag) : Bool :=
  let C := He.ga K "NotUsable"
  let L := He.ga K "LayError"
  oexB K C && (He.eqO (PySem.W.findIn K (.ref C) "__setattr__") (some (some (.builtin "object.__setattr__"))) && (decide (PySem.W.subIn K (.ref C) (.type "BaseException") = some true) &&
  (decide (PySem.W.typeIn K (.ref C) = some (.type "type")) && (PySem.W.keepIn K (.ref C) && (He.eqO (PySem.W.findIn K (.ref C) "word") (some none) && (He.eqO (PySem.W.findIn K (.ref C) "at") (some none) &&
  (He.eqO (PySem.W.findIn K (.ref C) "__init__") (some (some (.ref (ini K)))) && (decide (PySem.W.typeIn K (.ref (ini K)) = some (.type "function")) &&
  (He.eqO (PySem.W.nsIn K mainGlobals "gcd") (some (some (.builtin "math.gcd"))) && (He.eqO (PySem.W.nsIn K mainGlobals "lcm") (some (some (.builtin "math.lcm"))) &&
  (decide (PySem.W.exmOne K (.ref C) (.ref C) = some true) && (He.eqO (PySem.W.findIn K (.ref C) "__getattribute__") (some (some (.builtin "BaseException.__getattribute__"))) && (He.eqO (PySem.W.findIn K (.ref C) "__getattr__") (some none) &&
  (PySem.W.hasDictIn K C && (He.eqO (PySem.W.findIn K (.ref C) "__class__") (some (some (.builtin "object.__class__"))) && (He.eqO (PySem.W.specialIn K (.builtin "object.__class__") "__get__") (some (some (.builtin "getset_descriptor.__get__"))) &&
  (decide (PySem.W.takesIn K (.builtin "object.__class__") = some true) && (decide (PySem.W.mroIn K C (.type "object") = some true) && decide (PySem.W.kitOne K (.ref C) (.ref L) = some true)))))))))))))))))))
abbrev RowR : PySem.W.OpenRow := PySem.W.OpenLaw.row PySem.Challenge.rw_onesheetmore_k28_whole_free_places
abbrev hk : PySem.W.Hook := He.hookX 5 fa fn [] [] ex
def ob (s : PySem.W.SharedT) : He.AlX := He.obsX 5 fa fn [] [] ex (HandSHeadRun.getT s)
theorem ob_eq (s : PySem.W.SharedT) : ob s = hk.obs s.abs := He.obsX_eq (HandSHeadRun.getT_eq s)
def nmA : List PySem.Str := ["ends_of", "is_below", "greater_of", "have_common", "same_sheet", "do_overlap", "by_value", "in_sheet", "SheetError", "LayError", "NotUsable", "is_integer", "is_number", "is_quotient", "is_kind", "_is_tuple_of", "is_piece", "is_inside", "first_pair", "first_fault", "need_spread", "need_index", "need_sheet", "_lowest", "_place_in", "_unused", "_spot_in_sort", "free_place"]
def nmB : List PySem.Str := ["_clear", "_clear_side", "clear_across", "clear_up", "_law_feed", "_law_take", "_law_same", "_law_low", "_law_sizes", "_law_side", "_law_stock", "_law_filled", "_law_moved", "_law_scene", "_law_spread", "_law_block", "_law_open", "_law_any", "_law_quotient", "_law_fits", "_law_clear", "_law_asked", "_law_bent"]
def nm : List PySem.Str := nmA ++ nmB
abbrev qv : PySem.Program := PySem.W.view RowR.prog [0, 59]
theorem run (w : World) : HandSHeadRun.RunEqI RowR qv hk ob 4000 nm w := by
  unfold HandSHeadRun.RunEqI
  kernel_rfl
end K28
open PySem PySem.W PySem.Calls PyProof.Rows
theorem K28.head (hc : PySem.W.WalkO K28.qv K28.nm (PySem.W.XL K28.qv []) K28.hk.says (OpenLaw.row PySem.Challenge.rw_onesheetmore_k28_whole_free_places).toRowW (HandSHeadRun.topDef (OpenLaw.row PySem.Challenge.rw_onesheetmore_k28_whole_free_places).prog 59) [] fun f vs => PySem.call f vs) : PySem.Challenge.rw_onesheetmore_k28_whole_free_places.Holds := by
  w_on; o_law
  refine HandSHeadRun.head_imp (r := OpenLaw.row PySem.Challenge.rw_onesheetmore_k28_whole_free_places) (q := K28.qv) (H := K28.hk) (ob := K28.ob) (M := 4000) (loose := K28.nm) (d := HandSHeadRun.topDef (OpenLaw.row PySem.Challenge.rw_onesheetmore_k28_whole_free_places).prog 59) (kwd := []) K28.ob_eq
    K28.run (by kernel_rfl) (by kernel_rfl) (by kernel_rfl) (by rfl) (by first | assumption | decide +kernel) (by decide +kernel) ⟨rfl, rfl, rfl, rfl, rfl, by decide +kernel⟩ ?hw hc
  case hw => w_witness2
end
section
set_option Elab.async false
set_option linter.all false
set_option maxRecDepth 100000
set_option maxHeartbeats 2000000
/-! plain data over the hand layer: values as data, locals as cells -/
namespace DL
open PySem PySem.Spec PyProof.Rows L2

/-- plain data -/
inductive D where
  | non | bl (b : Bool) | int (i : Int) | str (x : Str) | tup (ds : List D) | lst (ds : List D)

mutual
/-- the value is this data, as S has it -/
inductive Rep (S : Hp) : V → D → Prop
  | non : Rep S .non .non
  | bl (b : Bool) : Rep S (.bl b) (.bl b)
  | int (i : Int) : Rep S (.int i) (.int i)
  | str (x : Str) : Rep S (.str x) (.str x)
  | tup {a : Addr} {xs : List V} {ds : List D} : S a = some (.tup xs) → Reps S xs ds → Rep S (.ref a) (.tup ds)
  | lst {a : Addr} {xs : List V} {ds : List D} : S a = some (.lst xs) → Reps S xs ds → Rep S (.ref a) (.lst ds)
inductive Reps (S : Hp) : List V → List D → Prop
  | nil : Reps S [] []
  | cons {v : V} {vs : List V} {d : D} {ds : List D} : Rep S v d → Reps S vs ds → Reps S (v :: vs) (d :: ds)
end

mutual
theorem Rep.mono {S S' : Hp} (e : Same S S') : ∀ (d : D) (v : V), Rep S v d → Rep S' v d
  | .non, _, h => by cases h; exact .non
  | .bl b, _, h => by cases h; exact .bl b
  | .int i, _, h => by cases h; exact .int i
  | .str x, _, h => by cases h; exact .str x
  | .tup ds, _, h => by
    cases h with
    | tup h1 h2 => exact .tup (e _ _ h1) (Reps.mono e ds _ h2)
  | .lst ds, _, h => by
    cases h with
    | lst h1 h2 => exact .lst (e _ _ h1) (Reps.mono e ds _ h2)
theorem Reps.mono {S S' : Hp} (e : Same S S') : ∀ (ds : List D) (vs : List V), Reps S vs ds → Reps S' vs ds
  | [], _, h => by cases h; exact .nil
  | d :: ds, _, h => by
    cases h with
    | cons h1 h2 => exact .cons (Rep.mono e d _ h1) (Reps.mono e ds _ h2)
end
theorem Rep.up {S S' : Hp} {v : V} {d : D} (h : Rep S v d) (e : Same S S') : Rep S' v d := Rep.mono e d v h
theorem Reps.up {S S' : Hp} {vs : List V} {ds : List D} (h : Reps S vs ds) (e : Same S S') : Reps S' vs ds := Reps.mono e ds vs h
section
variable {S S' : Hp}
theorem Reps.len : ∀ {vs : List V} {ds : List D}, Reps S vs ds → vs.length = ds.length
  | _, _, .nil => rfl
  | _, _, .cons _ t => congrArg (· + 1) (Reps.len t)
theorem Reps.get : ∀ {vs : List V} {ds : List D} {i : Nat} {d : D}, Reps S vs ds → ds[i]? = some d → ∃ v, vs[i]? = some v ∧ Rep S v d
  | _, _, _, _, .nil, e => by simp at e
  | _, _, 0, _, .cons r _, e => by simp at e; subst e; exact ⟨_, rfl, r⟩
  | _, _, i + 1, d, .cons _ t, e => by
    obtain ⟨v, h1, h2⟩ := Reps.get (i := i) (d := d) t (by simpa using e)
    exact ⟨v, by simpa using h1, h2⟩
theorem Reps.getV : ∀ {vs : List V} {ds : List D} {i : Nat} {v : V}, Reps S vs ds → vs[i]? = some v → ∃ d, ds[i]? = some d ∧ Rep S v d
  | _, _, _, _, .nil, e => by simp at e
  | _, _, 0, _, .cons r _, e => by simp at e; subst e; exact ⟨_, rfl, r⟩
  | _, _, i + 1, v, .cons _ t, e => by
    obtain ⟨d, h1, h2⟩ := Reps.getV (i := i) (v := v) t (by simpa using e)
    exact ⟨d, by simpa using h1, h2⟩
theorem Reps.of_get : ∀ {vs : List V} {ds : List D}, vs.length = ds.length → (∀ (i : Nat) v d, vs[i]? = some v → ds[i]? = some d → Rep S v d) → Reps S vs ds
  | [], [], _, _ => .nil
  | [], _ :: _, h, _ => by simp at h
  | _ :: _, [], h, _ => by simp at h
  | v :: vs, d :: ds, h, f => .cons (f 0 v d rfl rfl) (Reps.of_get (by simpa using h) fun i v' d' a b => f (i + 1) v' d' (by simpa using a) (by simpa using b))
theorem Reps.app : ∀ {vs ws : List V} {ds es : List D}, Reps S vs ds → Reps S ws es → Reps S (vs ++ ws) (ds ++ es)
  | _, _, _, _, .nil, s => s
  | _, _, _, _, .cons r t, s => .cons r (Reps.app t s)
theorem Reps.take : ∀ {vs : List V} {ds : List D} (n : Nat), Reps S vs ds → Reps S (vs.take n) (ds.take n)
  | _, _, 0, _ => by simp; exact .nil
  | _, _, _ + 1, .nil => by simp; exact .nil
  | _, _, n + 1, .cons r t => .cons r (Reps.take n t)
theorem Reps.drop : ∀ {vs : List V} {ds : List D} (n : Nat), Reps S vs ds → Reps S (vs.drop n) (ds.drop n)
  | _, _, 0, r => r
  | _, _, _ + 1, .nil => by simp; exact .nil
  | _, _, n + 1, .cons _ t => Reps.drop n t
theorem Reps.set : ∀ {vs : List V} {ds : List D} {v : V} {d : D} (i : Nat), Rep S v d → Reps S vs ds → Reps S (vs.set i v) (ds.set i d)
  | _, _, _, _, _, _, .nil => .nil
  | _, _, _, _, 0, q, .cons _ t => .cons q t
  | _, _, _, _, i + 1, q, .cons r t => .cons r (Reps.set i q t)
theorem Reps.ints : ∀ {vs : List V} {ns : List Int}, Reps S vs (ns.map D.int) → vs = ns.map V.int
  | _, [], h => by cases h; rfl
  | _, n :: ns, h => by
    cases h with
    | cons h1 h2 => cases h1; rw [Reps.ints h2]; rfl
theorem Reps.of_ints : ∀ {ns : List Int}, Reps S (ns.map V.int) (ns.map D.int)
  | [] => .nil
  | n :: ns => .cons (.int n) Reps.of_ints
theorem Reps.one {v : V} {ds : List D} (h : Reps S [v] ds) : ∃ d, ds = [d] ∧ Rep S v d := by
  cases h with
  | cons a b => cases b; exact ⟨_, rfl, a⟩
end

theorem same_upd {H : Hp} {p : Addr} {o : HO} (h : H p = none) : Same H (upd H p o) := fun a u e => by
  rw [upd_ne (ne_of_none e h)]
  exact e
theorem same_back {H H' : Hp} {p : Addr} (e : Same H H') (h : H' p = none) : H p = none := by
  cases q : H p with
  | none => rfl
  | some o => rw [e p o q] at h; cases h
theorem same_upd2 {S H : Hp} {p : Addr} {o : HO} (e : Same S H) : Same (upd S p o) (upd H p o) := fun a u q => by
  unfold upd at q ⊢
  split at q
  · rename_i h; rw [if_pos h]; exact q
  · rename_i h; rw [if_neg h]; exact e a u q
/-- a changed place that S does not know -/
theorem same_mut {S H : Hp} {p : Addr} {o : HO} (e : Same S H) (h : S p = none) : Same S (upd H p o) := fun a u q => by
  rw [upd_ne (ne_of_none q h)]
  exact e a u q

/-! ### cells, the state -/
inductive Cell where
  | dat (d : D) | own (ds : List D) | feed | pin (a : Addr)
abbrev En := List (Option Cell)
/-- the entry: what was known, the heap, the feed's place -/
structure Ent where
  S0 : Hp
  H0 : Hp
  f : Option Addr
/-- the law's feed at a -/
def FeedAt (S H : Hp) (a : Addr) : Prop := ∃ (m p : Int) (g : Addr) (ns : List Int), H a = some (.lst [.int m, .int p, .ref g]) ∧ S g = some (.lst (ns.map V.int)) ∧ 0 ≤ p
def RepC (B : Ent) (S H : Hp) (v : V) : Cell → Prop
  | .dat d => Rep S v d
  | .own ds => ∃ (a : Addr) (xs : List V), v = .ref a ∧ S a = none ∧ H a = some (.lst xs) ∧ Reps S xs ds ∧ B.H0 a = none
  | .feed => ∃ a : Addr, v = .ref a ∧ B.f = some a ∧ FeedAt S H a
  | .pin a => v = .ref a
structure Rst (B : Ent) (S H : Hp) (σ : L2.St) (δ : En) : Prop where
  ex : Same S H
  gr : Same B.S0 S
  new : ∀ a o, S a = some o → B.S0 a = some o ∨ B.H0 a = none
  keep : ∀ a o, B.H0 a = some o → B.f ≠ some a → H a = some o
  fed : ∀ a, B.f = some a → B.H0 a ≠ none ∧ S a = none ∧ H a ≠ none
  len : σ.length = δ.length
  at_ : ∀ (i : Nat) c, δ[i]? = some (some c) → ∃ v, σ[i]? = some (some v) ∧ RepC B S H v c
  sep : ∀ (i j : Nat) (a : Addr) ds es, i ≠ j → δ[i]? = some (some (.own ds)) → δ[j]? = some (some (.own es)) → σ[i]? = some (some (.ref a)) → σ[j]? = some (some (.ref a)) → False

section
variable {B : Ent} {S H S' H' : Hp} {σ : L2.St} {δ : En} {p : Addr} {v : V}
/-- what a place that is free in H says -/
theorem Rst.free (R : Rst B S H σ δ) (hp : H p = none) : S p = none ∧ B.H0 p = none ∧ B.f ≠ some p := by
  have h3 : B.f ≠ some p := fun z => (R.fed p z).2.2 hp
  refine ⟨same_back R.ex hp, ?_, h3⟩
  cases q : B.H0 p with
  | none => rfl
  | some o => rw [R.keep p o q h3] at hp; cases hp
/-- the heap has grown, more of it is known -/
theorem Rst.grow (R : Rst B S H σ δ) (s1 : Same S S') (s2 : Same S' H') (k : Same H H') (n : ∀ a o, S' a = some o → S a = some o ∨ H a = none) : Rst B S' H' σ δ where
  ex := s2
  gr := R.gr.trans s1
  new := fun a o q => by
    rcases n a o q with z | z
    · exact R.new a o z
    · exact .inr (R.free z).2.1
  keep := fun a o q h => k a o (R.keep a o q h)
  fed := fun a q => by
    obtain ⟨h1, h2, h3⟩ := R.fed a q
    refine ⟨h1, ?_, ?_⟩
    · cases z : S' a with
      | none => rfl
      | some o =>
        rcases n a o z with y | y
        · rw [h2] at y; cases y
        · exact absurd y h3
    · cases z : H a with
      | none => exact absurd z h3
      | some o => rw [k a o z]; exact fun y => by cases y
  len := R.len
  at_ := fun i c q => by
    obtain ⟨v, e, r⟩ := R.at_ i c q
    refine ⟨v, e, ?_⟩
    cases c with
    | dat d => exact Rep.up r s1
    | pin b => exact r
    | own ds =>
      obtain ⟨a, xs, e1, e2, e3, e4, e5⟩ := r
      refine ⟨a, xs, e1, ?_, k _ _ e3, Reps.up e4 s1, e5⟩
      cases z : S' a with
      | none => rfl
      | some o =>
        rcases n a o z with y | y
        · rw [e2] at y; cases y
        · rw [e3] at y; cases y
    | feed =>
      obtain ⟨a, e1, e2, m, p, g, ns, e3, e4, e5⟩ := r
      exact ⟨a, e1, e2, m, p, g, ns, k _ _ e3, s1 _ _ e4, e5⟩
  sep := R.sep
/-- a new object, known from now on -/
theorem Rst.lay {o : HO} (R : Rst B S H σ δ) (hp : H p = none) : Rst B (upd S p o) (upd H p o) σ δ ∧ Same S (upd S p o) ∧ upd S p o p = some o :=
  ⟨R.grow (same_upd (R.free hp).1) (same_upd2 R.ex) (same_upd hp) fun a u q => by
    unfold upd at q
    split at q
    · rename_i h; rw [h]; exact .inr hp
    · exact .inl q, same_upd (R.free hp).1, upd_same⟩
/-- a new object that nobody will look at, or a list of one's own -/
theorem Rst.junk {o : HO} (R : Rst B S H σ δ) (hp : H p = none) : Rst B S (upd H p o) σ δ :=
  R.grow (Same.refl S) (same_mut R.ex (R.free hp).1) (same_upd hp) fun a u q => .inl q
theorem get_set {α : Type} {l : List α} {i j : Nat} {x y : α} (h : (l.set i x)[j]? = some y) : (i = j ∧ y = x) ∨ (i ≠ j ∧ l[j]? = some y) := by
  by_cases e : i = j
  · subst e
    by_cases hl : i < l.length
    · rw [List.getElem?_set_self hl] at h; cases h; exact .inl ⟨rfl, rfl⟩
    · rw [List.getElem?_eq_none (by simpa using hl)] at h; cases h
  · rw [List.getElem?_set_ne e] at h; exact .inr ⟨e, h⟩
theorem lt_get {α : Type} {l : List α} {i : Nat} {x : α} (h : l[i]? = some x) : i < l.length := (List.getElem?_eq_some_iff.mp h).1
/-- a slot is given data -/
theorem Rst.put {d : D} (R : Rst B S H σ δ) (i : Nat) (r : Rep S v d) : Rst B S H (σ.set i (some v)) (δ.set i (some (.dat d))) where
  ex := R.ex
  gr := R.gr
  new := R.new
  keep := R.keep
  fed := R.fed
  len := by simp [R.len]
  at_ := fun j c q => by
    rcases get_set q with ⟨e, z⟩ | ⟨e, z⟩
    · cases z
      subst e
      have hl := lt_get q
      rw [List.length_set, ← R.len] at hl
      exact ⟨v, List.getElem?_set_self hl, r⟩
    · obtain ⟨u, e1, e2⟩ := R.at_ j c z
      exact ⟨u, by rw [List.getElem?_set_ne e]; exact e1, e2⟩
  sep := fun j k a ds es hjk h1 h2 h3 h4 => by
    rcases get_set h1 with ⟨_, z⟩ | ⟨e1, z1⟩
    · cases z
    rcases get_set h2 with ⟨_, z⟩ | ⟨e2, z2⟩
    · cases z
    rw [List.getElem?_set_ne e1] at h3
    rw [List.getElem?_set_ne e2] at h4
    exact R.sep j k a ds es hjk z1 z2 h3 h4
/-- a slot is forgotten, whatever it holds now -/
theorem Rst.drop (R : Rst B S H σ δ) (i : Nat) (x : Option V) : Rst B S H (σ.set i x) (δ.set i none) where
  ex := R.ex
  gr := R.gr
  new := R.new
  keep := R.keep
  fed := R.fed
  len := by simp [R.len]
  at_ := fun j c q => by
    rcases get_set q with ⟨e, z⟩ | ⟨e, z⟩
    · cases z
    · obtain ⟨u, e1, e2⟩ := R.at_ j c z
      exact ⟨u, by rw [List.getElem?_set_ne e]; exact e1, e2⟩
  sep := fun j k a ds es hjk h1 h2 h3 h4 => by
    rcases get_set h1 with ⟨_, z⟩ | ⟨e1, z1⟩
    · cases z
    rcases get_set h2 with ⟨_, z⟩ | ⟨e2, z2⟩
    · cases z
    rw [List.getElem?_set_ne e1] at h3
    rw [List.getElem?_set_ne e2] at h4
    exact R.sep j k a ds es hjk z1 z2 h3 h4
/-- a slot is given a list of its own, that no other slot holds -/
theorem Rst.putOwn {ds : List D} {xs : List V} (R : Rst B S H σ δ) (i : Nat) (h1 : S p = none) (h2 : H p = some (.lst xs)) (h3 : Reps S xs ds) (h4 : B.H0 p = none)
    (h5 : ∀ (j : Nat) es, j ≠ i → δ[j]? = some (some (.own es)) → σ[j]? ≠ some (some (.ref p))) : Rst B S H (σ.set i (some (.ref p))) (δ.set i (some (.own ds))) where
  ex := R.ex
  gr := R.gr
  new := R.new
  keep := R.keep
  fed := R.fed
  len := by simp [R.len]
  at_ := fun j c q => by
    rcases get_set q with ⟨e, z⟩ | ⟨e, z⟩
    · cases z
      subst e
      have hl := lt_get q
      rw [List.length_set, ← R.len] at hl
      exact ⟨.ref p, List.getElem?_set_self hl, p, xs, rfl, h1, h2, h3, h4⟩
    · obtain ⟨u, e1, e2⟩ := R.at_ j c z
      exact ⟨u, by rw [List.getElem?_set_ne e]; exact e1, e2⟩
  sep := fun j k a fs es hjk q1 q2 q3 q4 => by
    rcases get_set q1 with ⟨e1, z1⟩ | ⟨e1, z1⟩
    · rcases get_set q2 with ⟨e2, z2⟩ | ⟨e2, z2⟩
      · exact hjk (e1.symm.trans e2)
      · subst e1
        have hl := lt_get q3
        rw [List.getElem?_set_self (by simpa using hl)] at q3
        cases q3
        rw [List.getElem?_set_ne e2] at q4
        exact h5 k es (Ne.symm e2) z2 q4
    · rw [List.getElem?_set_ne e1] at q3
      rcases get_set q2 with ⟨e2, z2⟩ | ⟨e2, z2⟩
      · subst e2
        have hl := lt_get q4
        rw [List.getElem?_set_self (by simpa using hl)] at q4
        cases q4
        exact h5 j fs (Ne.symm e1) z1 q3
      · rw [List.getElem?_set_ne e2] at q4
        exact R.sep j k a fs es hjk z1 z2 q3 q4
/-- a list of one's own is written -/
theorem Rst.write {ds es : List D} {ys : List V} {i : Nat} (R : Rst B S H σ δ) (hi : δ[i]? = some (some (.own ds))) (hs : σ[i]? = some (some (.ref p))) (hy : Reps S ys es) :
    Rst B S (upd H p (.lst ys)) σ (δ.set i (some (.own es))) := by
  obtain ⟨v, e1, a, xs, e2, e3, e4, e5, e6⟩ := R.at_ i _ hi
  rw [hs] at e1
  cases e1
  cases e2
  have nf : B.f ≠ some p := fun z => (R.fed p z).1 e6
  refine ⟨same_mut R.ex e3, R.gr, R.new, fun a o q h => ?_, fun a q => ?_, by simp [R.len], fun j c q => ?_, fun j k a fs gs hjk q1 q2 q3 q4 => ?_⟩
  · rw [upd_ne (fun z => by subst z; rw [e6] at q; cases q)]
    exact R.keep a o q h
  · obtain ⟨h1, h2, h3⟩ := R.fed a q
    refine ⟨h1, h2, ?_⟩
    rw [upd_ne (fun z => nf (by rw [← z]; exact q))]
    exact h3
  · rcases get_set q with ⟨e, z⟩ | ⟨e, z⟩
    · cases z
      subst e
      exact ⟨.ref p, hs, p, ys, rfl, e3, upd_same, hy, e6⟩
    · obtain ⟨u, z1, z2⟩ := R.at_ j c z
      refine ⟨u, z1, ?_⟩
      cases c with
      | dat d => exact z2
      | pin b => exact z2
      | own fs =>
        obtain ⟨b, ws, y1, y2, y3, y4, y5⟩ := z2
        subst y1
        refine ⟨b, ws, rfl, y2, ?_, y4, y5⟩
        rw [upd_ne (fun y => by subst y; exact R.sep i j b _ _ e hi z hs z1)]
        exact y3
      | feed =>
        obtain ⟨b, y1, y2, m, q', g, ns, y3, y4, y5⟩ := z2
        refine ⟨b, y1, y2, m, q', g, ns, ?_, y4, y5⟩
        rw [upd_ne (fun y => nf (by rw [← y]; exact y2))]
        exact y3
  · have own_of : ∀ (k : Nat) (hs : List D), (δ.set i (some (Cell.own es)))[k]? = some (some (Cell.own hs)) → ∃ us, δ[k]? = some (some (Cell.own us)) := fun k hs q => by
      rcases get_set q with ⟨e, z⟩ | ⟨e, z⟩
      · subst e; exact ⟨_, hi⟩
      · exact ⟨_, z⟩
    obtain ⟨u1, w1⟩ := own_of j fs q1
    obtain ⟨u2, w2⟩ := own_of k gs q2
    exact R.sep j k a u1 u2 hjk w1 w2 q3 q4
/-- a list of one's own becomes data -/
theorem Rst.freeze {ds : List D} {i : Nat} (R : Rst B S H σ δ) (hi : δ[i]? = some (some (.own ds))) :
    ∃ (a : Addr) (xs : List V), σ[i]? = some (some (.ref a)) ∧ Same S (upd S a (.lst xs)) ∧ Rep (upd S a (.lst xs)) (.ref a) (.lst ds) ∧ Rst B (upd S a (.lst xs)) H σ (δ.set i (some (.dat (.lst ds)))) := by
  obtain ⟨v, e1, a, xs, e2, e3, e4, e5, e6⟩ := R.at_ i _ hi
  subst e2
  have s1 : Same S (upd S a (.lst xs)) := same_upd e3
  have r1 : Rep (upd S a (.lst xs)) (.ref a) (.lst ds) := .lst upd_same (Reps.up e5 s1)
  refine ⟨a, xs, e1, s1, r1, fun b o q => ?_, R.gr.trans s1, fun b o q => ?_, R.keep, fun b q => ?_, by simp [R.len], fun j c q => ?_, fun j k b fs gs hjk q1 q2 q3 q4 => ?_⟩
  · unfold upd at q
    split at q
    · rename_i h; subst h; cases q; exact e4
    · exact R.ex b o q
  · unfold upd at q
    split at q
    · rename_i h; subst h; exact .inr e6
    · exact R.new b o q
  · obtain ⟨h1, h2, h3⟩ := R.fed b q
    refine ⟨h1, ?_, h3⟩
    rw [upd_ne (fun z => by subst z; exact h1 e6)]
    exact h2
  · rcases get_set q with ⟨e, z⟩ | ⟨e, z⟩
    · cases z
      subst e
      exact ⟨_, e1, r1⟩
    · obtain ⟨u, z1, z2⟩ := R.at_ j c z
      refine ⟨u, z1, ?_⟩
      cases c with
      | dat d => exact Rep.up z2 s1
      | pin b => exact z2
      | own fs =>
        obtain ⟨b, ws, y1, y2, y3, y4, y5⟩ := z2
        subst y1
        refine ⟨b, ws, rfl, ?_, y3, Reps.up y4 s1, y5⟩
        rw [upd_ne (fun y => by subst y; exact R.sep i j b _ _ e hi z e1 z1)]
        exact y2
      | feed =>
        obtain ⟨b, y1, y2, m, q', g, ns, y3, y4, y5⟩ := z2
        exact ⟨b, y1, y2, m, q', g, ns, y3, s1 _ _ y4, y5⟩
  · rcases get_set q1 with ⟨e, z⟩ | ⟨e', z1⟩
    · cases z
    rcases get_set q2 with ⟨e, z⟩ | ⟨e'', z2⟩
    · cases z
    exact R.sep j k b fs gs hjk z1 z2 q3 q4
/-- a feed's turn: all but the feed stands -/
theorem Rst.turned {i : Nat} {f : Addr} (R : Rst B S H σ δ) (hi : δ[i]? = some (some .feed)) (hs : σ[i]? = some (some (.ref f))) (s1 : Same S S') (s2 : Same S' H') (hf : FeedAt S' H' f)
    (k : ∀ a o, a ≠ f → H a = some o → H' a = some o) (n : ∀ a o, S' a = some o → S a = some o ∨ H a = none) : Rst B S' H' σ δ := by
  obtain ⟨v, e1, f', e2, e3, _⟩ := R.at_ i _ hi
  rw [hs] at e1
  cases e1
  cases e2
  have hfn : S' f = none := by
    cases z : S' f with
    | none => rfl
    | some o =>
      rcases n f o z with y | y
      · rw [(R.fed f e3).2.1] at y; cases y
      · exact absurd y (R.fed f e3).2.2
  refine ⟨s2, R.gr.trans s1, fun a o q => ?_, fun a o q h => ?_, fun a q => ?_, R.len, fun j c q => ?_, R.sep⟩
  · rcases n a o q with z | z
    · exact R.new a o z
    · exact .inr (R.free z).2.1
  · exact k a o (fun z => h (by rw [z]; exact e3)) (R.keep a o q h)
  · have ea : a = f := by rw [e3] at q; exact (Option.some.inj q).symm
    subst ea
    refine ⟨(R.fed a e3).1, hfn, ?_⟩
    obtain ⟨m, p, g, ns, h1, _⟩ := hf
    rw [h1]
    exact fun y => by cases y
  · obtain ⟨u, z1, z2⟩ := R.at_ j c q
    refine ⟨u, z1, ?_⟩
    cases c with
    | dat d => exact Rep.up z2 s1
    | pin b => exact z2
    | own fs =>
      obtain ⟨b, ws, y1, y2, y3, y4, y5⟩ := z2
      subst y1
      have hb : b ≠ f := fun z => by subst z; exact (R.fed b e3).1 y5
      refine ⟨b, ws, rfl, ?_, k b _ hb y3, Reps.up y4 s1, y5⟩
      cases z : S' b with
      | none => rfl
      | some o =>
        rcases n b o z with w | w
        · rw [y2] at w; cases w
        · rw [y3] at w; cases w
    | feed =>
      obtain ⟨b, y1, y2, _⟩ := z2
      have eb : b = f := by rw [e3] at y2; exact (Option.some.inj y2).symm
      subst eb
      exact ⟨b, y1, y2, hf⟩
end
end DL
end
section
set_option Elab.async false
set_option linter.all false
set_option maxRecDepth 100000
set_option maxHeartbeats 2000000
/-! expressions over plain data -/
namespace DL
open PySem PySem.Spec PyProof.Rows L2

/-- what an expression is worth: data, or the list that slot i owns -/
inductive R where
  | dat (d : D) | box (i : Nat)
def RepR (S : Hp) (σ : L2.St) (v : V) : R → Prop
  | .dat d => Rep S v d
  | .box i => σ[i]? = some (some v)
theorem RepR.up {S S' : Hp} {σ : L2.St} {v : V} {r : R} (h : RepR S σ v r) (e : Same S S') : RepR S' σ v r := by
  cases r with
  | dat d => exact Rep.up h e
  | box i => exact h

abbrev DTE := En → (R → En → Prop) → Prop
abbrev DTA := En → (List D → En → Prop) → Prop
abbrev DTT := En → (Bool → En → Prop) → Prop
def lift (B : Ent) (t : DTE) : TE := fun σ H Q => ∃ S δ P, Rst B S H σ δ ∧ t δ P ∧ ∀ r δ' S' H' v, P r δ' → Same S S' → Rst B S' H' σ δ' → RepR S' σ v r → Q v H'
def liftA (B : Ent) (t : DTA) : TA := fun σ H Q => ∃ S δ P, Rst B S H σ δ ∧ t δ P ∧ ∀ ds δ' S' H' vs, P ds δ' → Same S S' → Rst B S' H' σ δ' → Reps S' vs ds → Q vs H'
def liftT (B : Ent) (t : DTT) : TT := fun σ H Q => ∃ S δ P, Rst B S H σ δ ∧ t δ P ∧ ∀ b δ' S' H', P b δ' → Same S S' → Rst B S' H' σ δ' → Q b H'
/-- a list that was just made, and that nobody holds -/
structure Fresh (B : Ent) (S H : Hp) (σ : L2.St) (δ : En) (a : Addr) (xs : List V) : Prop where
  s : S a = none
  h : H a = some (.lst xs)
  e : B.H0 a = none
  o : ∀ (i : Nat) c, δ[i]? = some (some (.own c)) → σ[i]? ≠ some (some (.ref a))
def liftL (B : Ent) (t : DTA) : TE := fun σ H Q => ∃ S δ P, Rst B S H σ δ ∧ t δ P ∧ ∀ ds δ' S' H' a xs, P ds δ' → Same S S' → Rst B S' H' σ δ' → Fresh B S' H' σ δ' a xs → Reps S' xs ds → Q (.ref a) H'

theorem PE.imp {X : Cx} {e : Expr} {t t' : TE} (h : PE X e t) (f : ∀ σ H Q, t' σ H Q → t σ H Q) : PE X e t' := ⟨fun pins s σ H Q I q => h.run pins s σ H Q I (f σ H Q q)⟩
theorem PT.imp {X : Cx} {e : Expr} {t t' : TT} (h : PT X e t) (f : ∀ σ H Q, t' σ H Q → t σ H Q) : PT X e t' := ⟨fun pins s σ H Q I q => h.run pins s σ H Q I (f σ H Q q)⟩
theorem PW.imp {X : Cx} {e : Expr} {t t' : TT} (h : PW X e t) (f : ∀ σ H Q, t' σ H Q → t σ H Q) : PW X e t' := ⟨fun wh pins s σ H Q I q => h.run wh pins s σ H Q I (f σ H Q q)⟩
theorem PA.imp {X : Cx} {e : List Expr} {t t' : TA} (h : PA X e t) (f : ∀ σ H Q, t' σ H Q → t σ H Q) : PA X e t' := ⟨fun po pins s σ H Q I q => h.run po pins s σ H Q I (f σ H Q q)⟩
theorem PS.imp {X : Cx} {e : Stmt} {t t' : TS} (h : PS X e t) (f : ∀ D σ H, t' D σ H → t D σ H) : PS X e t' := ⟨fun pins s σ H D I q => h.run pins s σ H D I (f D σ H q)⟩
theorem PSs.imp {X : Cx} {e : List Stmt} {t t' : TS} (h : PSs X e t) (f : ∀ D σ H, t' D σ H → t D σ H) : PSs X e t' := ⟨fun pins s σ H D I q => h.run pins s σ H D I (f D σ H q)⟩

/-- a value's data; a list of one's own is let go -/
def val (r : R) (δ : En) (Q : D → En → Prop) : Prop := match r with
  | .dat d => Q d δ
  | .box i => match δ[i]? with
    | some (some (.own ds)) => Q (.lst ds) (δ.set i (some (.dat (.lst ds))))
    | some (some (.dat d)) => Q d δ
    | _ => False
theorem val_ok {B : Ent} {S H : Hp} {σ : L2.St} {δ : En} {v : V} {r : R} {P : D → En → Prop} (R0 : Rst B S H σ δ) (h : RepR S σ v r) (q : val r δ P) :
    ∃ d δ' S', P d δ' ∧ Same S S' ∧ Rst B S' H σ δ' ∧ Rep S' v d := by
  cases r with
  | dat d => exact ⟨d, δ, S, q, Same.refl S, R0, h⟩
  | box i =>
    have q2 : (match δ[i]? with
      | some (some (.own ds)) => P (.lst ds) (δ.set i (some (.dat (.lst ds))))
      | some (some (.dat d)) => P d δ
      | _ => False) := q
    have e2 : σ[i]? = some (some v) := h
    split at q2
    · rename_i ds hi
      obtain ⟨a, xs, e1, s1, r1, R1⟩ := R0.freeze hi
      rw [e1] at e2
      cases e2
      exact ⟨_, _, _, q2, s1, R1, r1⟩
    · rename_i d hi
      obtain ⟨u, e1, r1⟩ := R0.at_ i _ hi
      rw [e1] at e2
      cases e2
      exact ⟨d, δ, S, q2, Same.refl S, R0, r1⟩
    · exact q2.elim

/-! ### the parts -/
def dVar (i : Nat) : DTE := fun δ Q => match δ[i]? with
  | some (some (.dat d)) => Q (.dat d) δ
  | some (some (.own _)) => Q (.box i) δ
  | _ => False
def dC (d : D) : DTE := fun δ Q => Q (.dat d) δ
def dNil : DTA := fun δ Q => Q [] δ
def dCons (te : DTE) (tr : DTA) : DTA := fun δ Q => te δ fun r δ1 => val r δ1 fun d δ2 => tr δ2 fun ds δ3 => Q (d :: ds) δ3
def dTup (ta : DTA) : DTE := fun δ Q => ta δ fun ds δ1 => ds.length ≤ 1000 ∧ Q (.dat (.tup ds)) δ1
def dLst (ta : DTA) : DTA := fun δ Q => ta δ fun ds δ1 => ds.length ≤ 1000 ∧ Q ds δ1
def dFrz (tl : DTA) : DTE := fun δ Q => tl δ fun ds δ1 => Q (.dat (.lst ds)) δ1
abbrev F2 := R → R → En → (R → En → Prop) → Prop
def dBin (f : F2) (ta tb : DTE) : DTE := fun δ Q => ta δ fun r δ1 => tb δ1 fun r2 δ2 => f r r2 δ2 Q
abbrev F1 := R → En → (R → En → Prop) → Prop
def dUn (f : F1) (ta : DTE) : DTE := fun δ Q => ta δ fun r δ1 => f r δ1 Q
/-- a two-place operation's reading over data is sound -/
def OpS (K : PySem.W.Frag) (r : R2) (f : F2) : Prop := ∀ (B : Ent) (S H : Hp) (σ : L2.St) (δ : En) (x y : V) (rx ry : R) (P : R → En → Prop) (Q : VK), Rst B S H σ δ → RepR S σ x rx → RepR S σ y ry → f rx ry δ P →
  (∀ r δ' S' H' v, P r δ' → Same S S' → Rst B S' H' σ δ' → RepR S' σ v r → Q v H') → r x y H Q
def f0 (g : Int → Int → D) : F2 := fun a b δ Q => match a, b with
  | .dat (.int i), .dat (.int j) => Q (.dat (g i j)) δ
  | _, _ => False
def fI (C : Int → Int → Prop) (g : Int → Int → D) : F2 := fun a b δ Q => match a, b with
  | .dat (.int i), .dat (.int j) => C i j ∧ Q (.dat (g i j)) δ
  | _, _ => False
def CM (i j : Int) : Prop := (-1000000000 ≤ i ∧ i ≤ 1000000000) ∨ (-1000000000 ≤ j ∧ j ≤ 1000000000)
def CD (_ j : Int) : Prop := 0 < j ∧ j ≤ 1000000000
def CS (i j : Int) : Prop := 0 ≤ j ∧ j ≤ 1000000 ∧ i.natAbs < 2 ^ 1000000
abbrev fAdd : F2 := f0 fun i j => .int (i + j)
abbrev fSub : F2 := f0 fun i j => .int (i - j)
abbrev fMul : F2 := fI CM fun i j => .int (i * j)
abbrev fDiv : F2 := fI CD fun i j => .int (i / j)
abbrev fMod : F2 := fI (fun _ j => 0 < j) fun i j => .int (i % j)
abbrev fShl : F2 := fI CS fun i j => .int (i * 2 ^ j.toNat)
abbrev fAnd : F2 := f0 fun i j => .int (Builtin.bitAnd i j)
abbrev fOr : F2 := f0 fun i j => .int (Builtin.bitOr i j)
abbrev fLt : F2 := f0 fun i j => .bl (decide (i < j))
abbrev fLe : F2 := f0 fun i j => .bl (decide (i ≤ j))
abbrev fGt : F2 := f0 fun i j => .bl (decide (j < i))
abbrev fGe : F2 := f0 fun i j => .bl (decide (j ≤ i))
def fEq : F2 := fun a b δ Q => match a, b with
  | .dat (.int i), .dat (.int j) => Q (.dat (.bl (decide (i = j)))) δ
  | .dat (.bl i), .dat (.bl j) => Q (.dat (.bl (decide (i = j)))) δ
  | .dat (.str i), .dat (.str j) => Q (.dat (.bl (decide (i = j)))) δ
  | _, _ => False
def fNe : F2 := fun a b δ Q => match a, b with
  | .dat (.int i), .dat (.int j) => Q (.dat (.bl (!decide (i = j)))) δ
  | .dat (.bl i), .dat (.bl j) => Q (.dat (.bl (!decide (i = j)))) δ
  | .dat (.str i), .dat (.str j) => Q (.dat (.bl (!decide (i = j)))) δ
  | _, _ => False
/-- pairs of ints -/
def prD (p : Int × Int) : D := .tup [.int p.1, .int p.2]
def fEqP : F2 := fun a b δ Q => match a, b with
  | .dat (.tup [.int i, .int j]), .dat (.tup [.int k, .int l]) => Q (.dat (.bl (decide (i = k) && decide (j = l)))) δ
  | _, _ => False
def seqOf : R → En → Option (List D)
  | .dat (.lst ds), _ => some ds
  | .dat (.tup ds), _ => some ds
  | .box i, δ => match δ[i]? with
    | some (some (.own ds)) => some ds
    | some (some (.dat (.lst ds))) => some ds
    | _ => none
  | _, _ => none
/-- x not in a list of ints; of pairs of ints -/
def fNotInI : F2 := fun a b δ Q => match a, seqOf b δ with
  | .dat (.int i), some ds => ∃ ns : List Int, ds = ns.map D.int ∧ Q (.dat (.bl (!decide (i ∈ ns)))) δ
  | _, _ => False
def lstOf (r : R) (δ : En) : Option (List D) := match r with
  | .dat (.tup _) => none
  | _ => seqOf r δ
def fNotInP : F2 := fun a b δ Q => match a, lstOf b δ with
  | .dat (.tup [.int i, .int j]), some ds => ∃ ps : List (Int × Int), ds = ps.map prD ∧ Q (.dat (.bl (!decide ((i, j) ∈ ps)))) δ
  | _, _ => False
def fCatT : F2 := fun a b δ Q => match a, b with
  | .dat (.tup ds), .dat (.tup es) => ds.length + es.length ≤ 1000 ∧ Q (.dat (.tup (ds ++ es))) δ
  | _, _ => False
def fIx : F2 := fun a b δ Q => match b, seqOf a δ with
  | .dat (.int i), some ds => (match atI ds i with
    | some d => Q (.dat d) δ
    | none => False)
  | _, _ => False
def R.isN : R → Bool
  | .dat .non => true
  | _ => false
def fIsN : F1 := fun r δ Q => Q (.dat (.bl r.isN)) δ
def fNotN : F1 := fun r δ Q => Q (.dat (.bl (!r.isN))) δ
def fNeg : F1 := fun r δ Q => match r with
  | .dat (.int i) => Q (.dat (.int (-i))) δ
  | _ => False
def dAndV (ta tb : DTE) : DTE := fun δ Q => ta δ fun r δ1 => match r with
  | .dat (.bl c) => if c = true then tb δ1 Q else Q (.dat (.bl false)) δ1
  | _ => False
def dOrV (ta tb : DTE) : DTE := fun δ Q => ta δ fun r δ1 => match r with
  | .dat (.bl c) => if c = true then Q (.dat (.bl true)) δ1 else tb δ1 Q
  | _ => False
def fNotV : F1 := fun r δ Q => match r with
  | .dat (.bl c) => Q (.dat (.bl (!c))) δ
  | _ => False
def dTst (te : DTE) : DTT := fun δ Q => te δ fun r δ1 => match r with
  | .dat (.bl c) => Q c δ1
  | _ => False
def dAnd (t u : DTT) : DTT := fun δ Q => t δ fun c δ1 => if c = true then u δ1 Q else Q false δ1
def dOr (t u : DTT) : DTT := fun δ Q => t δ fun c δ1 => if c = true then Q true δ1 else u δ1 Q
def dNot (t : DTT) : DTT := fun δ Q => t δ fun c δ1 => Q (!c) δ1
/-- slices -/
abbrev DTO := En → (Option Int → En → Prop) → Prop
def dNoPart : DTO := fun δ Q => Q none δ
def dPart (te : DTE) : DTO := fun δ Q => te δ fun r δ1 => match r with
  | .dat (.int i) => Q (some i) δ1
  | _ => False
def cut (ds : List D) (lo hi : Option Int) : List D := (ds.drop (HT.sIx ds.length 0 lo)).take (HT.sIx ds.length ds.length hi - HT.sIx ds.length 0 lo)
def dSlT (te : DTE) (lo hi : DTO) : DTE := fun δ Q => te δ fun r δ1 => lo δ1 fun l δ2 => hi δ2 fun u δ3 => match r with
  | .dat (.tup ds) => Q (.dat (.tup (cut ds l u))) δ3
  | _ => False
def dSlL (te : DTE) (lo hi : DTO) : DTA := fun δ Q => te δ fun r δ1 => lo δ1 fun l δ2 => hi δ2 fun u δ3 => match lstOf r δ3 with
  | some ds => Q (cut ds l u) δ3
  | none => False
/-- xs + ys of lists: a new one -/
def dCatL (ta tb : DTE) : DTA := fun δ Q => ta δ fun r δ1 => tb δ1 fun r2 δ2 => match lstOf r δ2, lstOf r2 δ2 with
  | some ds, some es => ds.length + es.length ≤ 100000 ∧ Q (ds ++ es) δ2
  | _, _ => False

section
variable {X : Cx} {B : Ent} {S H : Hp} {σ : L2.St} {δ : En} {v : V} {r : R}
theorem seq_ok {ds : List D} (R0 : Rst B S H σ δ) (h : RepR S σ v r) (q : seqOf r δ = some ds) : ∃ a xs, v = .ref a ∧ Reps S xs ds ∧ (H a = some (.lst xs) ∨ (H a = some (.tup xs) ∧ r = .dat (.tup ds))) := by
  cases r with
  | dat d =>
    cases d with
    | lst es =>
      cases q
      cases h with
      | lst h1 h2 => exact ⟨_, _, rfl, h2, .inl (R0.ex _ _ h1)⟩
    | tup es =>
      cases q
      cases h with
      | tup h1 h2 => exact ⟨_, _, rfl, h2, .inr ⟨R0.ex _ _ h1, rfl⟩⟩
    | non => cases q
    | bl b => cases q
    | int i => cases q
    | str x => cases q
  | box i =>
    have e2 : σ[i]? = some (some v) := h
    have q2 : (match δ[i]? with
      | some (some (.own ds)) => some ds
      | some (some (.dat (.lst ds))) => some ds
      | _ => none) = some ds := q
    split at q2
    · rename_i es hi
      cases q2
      obtain ⟨u, e1, a, xs, z1, z2, z3, z4, z5⟩ := R0.at_ i _ hi
      rw [e1] at e2
      cases e2
      exact ⟨a, xs, z1, z4, .inl z3⟩
    · rename_i es hi
      cases q2
      obtain ⟨u, e1, r1⟩ := R0.at_ i _ hi
      rw [e1] at e2
      cases e2
      cases r1 with
      | lst h1 h2 => exact ⟨_, _, rfl, h2, .inl (R0.ex _ _ h1)⟩
    · cases q2
theorem lst_ok {ds : List D} (R0 : Rst B S H σ δ) (h : RepR S σ v r) (q : lstOf r δ = some ds) : ∃ a xs, v = .ref a ∧ Reps S xs ds ∧ H a = some (.lst xs) := by
  unfold lstOf at q
  split at q
  · cases q
  · rename_i hn
    obtain ⟨a, xs, e1, e2, e3⟩ := seq_ok R0 h q
    rcases e3 with e3 | ⟨_, e3⟩
    · exact ⟨a, xs, e1, e2, e3⟩
    · exact (hn _ e3).elim
theorem tst_inv {r : R} {P : Bool → Prop} (q : match r with
    | .dat (.bl c) => P c
    | _ => False) : ∃ c, r = .dat (.bl c) ∧ P c := by
  cases r with
  | dat d =>
    cases d with
    | bl c => exact ⟨c, rfl, q⟩
    | non => exact q.elim
    | int i => exact q.elim
    | str i => exact q.elim
    | tup i => exact q.elim
    | lst i => exact q.elim
  | box i => exact q.elim
theorem sq_any {K : PySem.W.Frag} {a : Addr} {xs : List V} {p : Prop} (h : H a = some (.lst xs) ∨ (H a = some (.tup xs) ∧ p)) : SqL K H a xs ∨ SqT K H a xs := by
  rcases h with h | h
  · exact .inl (SqL.of h)
  · exact .inr (SqT.of h.1)

/-! ### names, constants -/
theorem de_var (i : Nat) {x : Str} {pos : Pos} (hN : X.N[i]? = some x := by rfl) (hv : Vis X.env.scope x := by first | exact Or.inl rfl | exact Or.inr (Or.inl rfl) | exact Or.inr (Or.inr rfl)) (hd : (x == ("__debug__" : Str)) = false := by decide)
    (hcd : (x == ("__classdict__" : Str)) = false := by decide) : PE X (.Name x pos) (lift B (dVar i)) :=
  PE.imp (pv i hN hv hd hcd) fun σ H Q ⟨S, δ, P, R0, h, k⟩ => by
    unfold dVar at h
    split at h
    · rename_i d hi
      obtain ⟨v, e1, r1⟩ := R0.at_ i _ hi
      exact ⟨v, e1, k _ δ S H v h (Same.refl S) R0 r1⟩
    · rename_i ds hi
      obtain ⟨v, e1, r1⟩ := R0.at_ i _ hi
      exact ⟨v, e1, k _ δ S H v h (Same.refl S) R0 e1⟩
    · exact h.elim
theorem de_int {i : Int} {j : Nat} {pos : Pos} : PE X (.Constant (.int i) j pos) (lift B (dC (.int i))) := PE.imp pe_int fun σ H Q ⟨S, δ, P, R0, h, k⟩ => k _ δ S H _ h (Same.refl S) R0 (.int i)
theorem de_bl {i : Bool} {j : Nat} {pos : Pos} : PE X (.Constant (.bool i) j pos) (lift B (dC (.bl i))) := PE.imp pe_bl fun σ H Q ⟨S, δ, P, R0, h, k⟩ => k _ δ S H _ h (Same.refl S) R0 (.bl i)
theorem de_non {j : Nat} {pos : Pos} : PE X (.Constant .none j pos) (lift B (dC .non)) := PE.imp pe_non fun σ H Q ⟨S, δ, P, R0, h, k⟩ => k _ δ S H _ h (Same.refl S) R0 .non
theorem de_str {i : Str} {j : Nat} {pos : Pos} : PE X (.Constant (.str i) j pos) (lift B (dC (.str i))) := PE.imp pe_str fun σ H Q ⟨S, δ, P, R0, h, k⟩ => k _ δ S H _ h (Same.refl S) R0 (.str i)

/-! ### arguments, displays -/
theorem da_nil : PA X [] (liftA B dNil) := PA.imp pa_nil fun σ H Q ⟨S, δ, P, R0, h, k⟩ => k _ δ S H _ h (Same.refl S) R0 .nil
variable {e : Expr} {es : List Expr} {te ta tb : DTE} {tr : DTA} {pos : Pos}
theorem da_cons (ha : PE X e (lift B te)) (hr : PA X es (liftA B tr)) (hs : starEach (e :: es) X.env = (false, eval e X.env) :: starEach es X.env := by rfl) : PA X (e :: es) (liftA B (dCons te tr)) :=
  PA.imp (pa_cons ha hr hs) fun σ H Q ⟨S, δ, P, R0, h, k⟩ => ⟨S, δ, _, R0, h, fun r δ1 S1 H1 v q s1 R1 r1 => by
    obtain ⟨d, δ2, S2, q2, s2, R2, rd⟩ := val_ok R1 r1 q
    exact ⟨S2, δ2, _, R2, q2, fun ds δ3 S3 H3 vs q3 s3 R3 r3 => k _ δ3 S3 H3 _ q3 ((s1.trans s2).trans s3) R3 (.cons (Rep.up rd s3) r3)⟩⟩
theorem size1000 {n : Nat} (h : n ≤ 1000) : n ≤ sizeLine := Nat.le_trans h (by decide)
theorem size5 {n : Nat} (h : n ≤ 100000) : n ≤ sizeLine := Nat.le_trans h (by decide)
theorem size5l {n : Nat} (h : n < 100000) : n < sizeLine := Nat.lt_of_lt_of_le h (by decide)
theorem de_tup {x1 : Nat} (h : PA X es (liftA B tr)) : PE X (.Tuple es x1 pos) (lift B (dTup tr)) :=
  PE.imp (pe_tup h) fun σ H Q ⟨S, δ, P, R0, h, k⟩ => ⟨S, δ, _, R0, h, fun ds δ1 S1 H1 vs q s1 R1 r1 => ⟨by rw [r1.len]; exact size1000 q.1, fun p hp => by
    obtain ⟨R2, s2, e2⟩ := R1.lay (o := .tup vs) hp
    exact k _ δ1 _ _ _ q.2 (s1.trans s2) R2 (.tup e2 (Reps.up r1 s2))⟩⟩
theorem fresh_new {xs : List V} {p : Addr} (R0 : Rst B S H σ δ) (hp : H p = none) : Rst B S (upd H p (.lst xs)) σ δ ∧ Fresh B S (upd H p (.lst xs)) σ δ p xs :=
  ⟨R0.junk hp, (R0.free hp).1, upd_same, (R0.free hp).2.1, fun i c hi hs => by
    obtain ⟨v, e1, a, ys, e2, e3, e4, _⟩ := R0.at_ i _ hi
    rw [hs] at e1
    cases e1
    cases e2
    rw [hp] at e4
    cases e4⟩
theorem dl_lst (h : PA X es (liftA B tr)) : PE X (.List es pos) (liftL B (dLst tr)) :=
  PE.imp (pe_lst h) fun σ H Q ⟨S, δ, P, R0, h, k⟩ => ⟨S, δ, _, R0, h, fun ds δ1 S1 H1 vs q s1 R1 r1 => ⟨by rw [r1.len]; exact size1000 q.1, fun p hp => by
    obtain ⟨R2, F2⟩ := fresh_new (xs := vs) R1 hp
    exact k _ δ1 _ _ _ _ q.2 s1 R2 F2 r1⟩⟩
theorem Fresh.frz {a : Addr} {xs : List V} {ds : List D} (F : Fresh B S H σ δ a xs) (R0 : Rst B S H σ δ) (r1 : Reps S xs ds) : Same S (upd S a (.lst xs)) ∧ Rst B (upd S a (.lst xs)) H σ δ ∧ Rep (upd S a (.lst xs)) (.ref a) (.lst ds) := by
  have s1 : Same S (upd S a (.lst xs)) := same_upd F.s
  refine ⟨s1, ⟨fun b o q => ?_, R0.gr.trans s1, fun b o q => ?_, R0.keep, fun b q => ?_, R0.len, fun j c q => ?_, R0.sep⟩, .lst upd_same (Reps.up r1 s1)⟩
  · unfold upd at q
    split at q
    · rename_i h; subst h; cases q; exact F.h
    · exact R0.ex b o q
  · unfold upd at q
    split at q
    · rename_i h; subst h; exact .inr F.e
    · exact R0.new b o q
  · obtain ⟨h1, h2, h3⟩ := R0.fed b q
    refine ⟨h1, ?_, h3⟩
    rw [upd_ne (fun z => by subst z; exact h1 F.e)]
    exact h2
  · obtain ⟨u, z1, z2⟩ := R0.at_ j c q
    refine ⟨u, z1, ?_⟩
    cases c with
    | dat d => exact Rep.up z2 s1
    | pin b => exact z2
    | own fs =>
      obtain ⟨b, ws, y1, y2, y3, y4, y5⟩ := z2
      subst y1
      refine ⟨b, ws, rfl, ?_, y3, Reps.up y4 s1, y5⟩
      rw [upd_ne (fun y => by subst y; exact F.o j _ q z1)]
      exact y2
    | feed =>
      obtain ⟨b, y1, y2, m, q', g, ns, y3, y4, y5⟩ := z2
      exact ⟨b, y1, y2, m, q', g, ns, y3, s1 _ _ y4, y5⟩
/-- a new list is data from now on -/
theorem de_frz (h : PE X e (liftL B tr)) : PE X e (lift B (dFrz tr)) :=
  PE.imp h fun σ H Q ⟨S, δ, P, R0, h, k⟩ => ⟨S, δ, _, R0, h, fun ds δ1 S1 H1 a xs q s1 R1 F1 r1 => by
    obtain ⟨s2, R2, r2⟩ := F1.frz R1 r1
    exact k _ δ1 _ H1 _ q (s1.trans s2) R2 r2⟩

/-! ### operators -/
variable {a b : Expr} {op : Operator} {cop : CmpOp} {r2 : R2} {f : F2}
theorem de_bin (ho : OpR X (binaryOp op) r2) (hs : OpS X.K r2 f) (ha : PE X a (lift B ta)) (hb : PE X b (lift B tb)) : PE X (.BinOp a op b pos) (lift B (dBin f ta tb)) :=
  PE.imp (pe_op ho ha hb) fun σ H Q ⟨S, δ, P, R0, h, k⟩ => ⟨S, δ, _, R0, h, fun r δ1 S1 H1 v q s1 R1 r1 => ⟨S1, δ1, _, R1, q, fun r' δ2 S2 H2 v' q' s2 R2 r2' =>
    hs B S2 H2 σ δ2 v v' r r' P Q R2 (r1.up s2) r2' q' fun r'' δ3 S3 H3 v'' q'' s3 R3 r3 => k r'' δ3 S3 H3 v'' q'' ((s1.trans s2).trans s3) R3 r3⟩⟩
theorem de_cmp (ho : OpR X (compareOp cop) r2) (hs : OpS X.K r2 f) (ha : PE X a (lift B ta)) (hb : PE X b (lift B tb)) (hm : behindInMarks cop b = false := by first | exact nomark _ | rfl) : PE X (.Compare a [cop] [b] pos) (lift B (dBin f ta tb)) :=
  PE.imp (pe_cmpR ho ha hb hm) fun σ H Q ⟨S, δ, P, R0, h, k⟩ => ⟨S, δ, _, R0, h, fun r δ1 S1 H1 v q s1 R1 r1 => ⟨S1, δ1, _, R1, q, fun r' δ2 S2 H2 v' q' s2 R2 r2' =>
    hs B S2 H2 σ δ2 v v' r r' P Q R2 (r1.up s2) r2' q' fun r'' δ3 S3 H3 v'' q'' s3 R3 r3 => k r'' δ3 S3 H3 v'' q'' ((s1.trans s2).trans s3) R3 r3⟩⟩
theorem lift_tst {σ : L2.St} {H : Hp} {Q : Bool → Hp → Prop} (h : liftT B (dTst te) σ H Q) : lift B te σ H fun x H' => ∃ k, x = .bl k ∧ Q k H' := by
  obtain ⟨S, δ, P, R0, h, k⟩ := h
  refine ⟨S, δ, _, R0, h, fun r δ1 S1 H1 v q s1 R1 r1 => ?_⟩
  obtain ⟨c, rfl, q1⟩ := tst_inv (P := fun c => P c δ1) q
  cases r1
  exact ⟨_, rfl, k _ δ1 S1 H1 q1 s1 R1⟩
theorem dt_cmp (ho : OpR X (compareOp cop) r2) (hs : OpS X.K r2 f) (ha : PE X a (lift B ta)) (hb : PE X b (lift B tb)) (hm : behindInMarks cop b = false := by first | exact nomark _ | rfl) : PT X (.Compare a [cop] [b] pos) (liftT B (dTst (dBin f ta tb))) :=
  PT.imp (pt_cmpR ho ha hb hm) fun σ H Q h => by
    have h1 := lift_tst h
    obtain ⟨S, δ, P, R0, h, k⟩ := h1
    exact ⟨S, δ, _, R0, h, fun r δ1 S1 H1 v q s1 R1 r1 => ⟨S1, δ1, _, R1, q, fun r' δ2 S2 H2 v' q' s2 R2 r2' =>
      hs B S2 H2 σ δ2 v v' r r' P _ R2 (r1.up s2) r2' q' fun r'' δ3 S3 H3 v'' q'' s3 R3 r3 => k r'' δ3 S3 H3 v'' q'' ((s1.trans s2).trans s3) R3 r3⟩⟩
theorem dt_val (h : PE X e (lift B te)) (he : ∀ whole, isTrue e X.env whole = (do let v ← whole; standAt e.pos; holding [v] (truthy v)) := by intro _; rfl) : PT X e (liftT B (dTst te)) :=
  PT.imp (pt_val h he) fun σ H Q h => lift_tst h
variable {k j : Int}
theorem opS_0 {g : Int → Int → V} {gd : Int → Int → D} {K : PySem.W.Frag} (hg : ∀ S i j, Rep S (g i j) (gd i j)) : OpS K (rI0 g) (f0 gd) := fun B S H σ δ x y rx ry P Q R0 rx' ry' h k => by
  unfold f0 at h
  split at h
  · cases rx'
    cases ry'
    exact ⟨_, _, rfl, rfl, k _ δ S H _ h (Same.refl S) R0 (hg S _ _)⟩
  · exact h.elim
theorem opS_I {C C' : Int → Int → Prop} {g : Int → Int → V} {gd : Int → Int → D} {K : PySem.W.Frag} (hC : ∀ i j, C' i j → C i j) (hg : ∀ S i j, Rep S (g i j) (gd i j)) : OpS K (rI C g) (fI C' gd) := fun B S H σ δ x y rx ry P Q R0 rx' ry' h k => by
  unfold fI at h
  split at h
  · cases rx'
    cases ry'
    exact ⟨_, _, rfl, rfl, hC _ _ h.1, k _ δ S H _ h.2 (Same.refl S) R0 (hg S _ _)⟩
  · exact h.elim
theorem sn_add {K : PySem.W.Frag} : OpS K (rI0 fun i j => .int (i + j)) fAdd := opS_0 fun _ _ _ => .int _
theorem sn_sub {K : PySem.W.Frag} : OpS K (rI0 fun i j => .int (i - j)) fSub := opS_0 fun _ _ _ => .int _
theorem sn_mul {K : PySem.W.Frag} : OpS K (rI CMul fun i j => .int (i * j)) fMul := opS_I (fun i j h => by
  rcases h with ⟨h1, h2⟩ | ⟨h1, h2⟩
  · exact .inl ⟨by omega, by omega⟩
  · exact .inr ⟨by omega, by omega⟩) fun _ _ _ => .int _
theorem sn_div {K : PySem.W.Frag} : OpS K (rI CDiv fun i j => .int (i / j)) fDiv := opS_I (fun i j h => ⟨h.1, by have := h.2; omega⟩) fun _ _ _ => .int _
theorem sn_mod {K : PySem.W.Frag} : OpS K (rI (fun _ j => 0 < j) fun i j => .int (i % j)) fMod := opS_I (fun i j h => h) fun _ _ _ => .int _
theorem sn_shl {K : PySem.W.Frag} : OpS K (rI CShl fun i j => .int (i * 2 ^ j.toNat)) fShl := opS_I (fun i j h => by
  obtain ⟨h1, h2, h3⟩ := h
  have e : j = ((j.toNat : Nat) : Int) := by omega
  rw [e]
  exact shl_ok h3 (by omega)) fun _ _ _ => .int _
theorem sn_and {K : PySem.W.Frag} : OpS K (rI0 fun i j => .int (Builtin.bitAnd i j)) fAnd := opS_0 fun _ _ _ => .int _
theorem sn_or {K : PySem.W.Frag} : OpS K (rI0 fun i j => .int (Builtin.bitOr i j)) fOr := opS_0 fun _ _ _ => .int _
theorem sn_lt {K : PySem.W.Frag} : OpS K (rI0 fun i j => .bl (decide (i < j))) fLt := opS_0 fun _ _ _ => .bl _
theorem sn_le {K : PySem.W.Frag} : OpS K (rI0 fun i j => .bl (decide (i ≤ j))) fLe := opS_0 fun _ _ _ => .bl _
theorem sn_gt {K : PySem.W.Frag} : OpS K (rI0 fun i j => .bl (decide (j < i))) fGt := opS_0 fun _ _ _ => .bl _
theorem sn_ge {K : PySem.W.Frag} : OpS K (rI0 fun i j => .bl (decide (j ≤ i))) fGe := opS_0 fun _ _ _ => .bl _
theorem sn_eq {K : PySem.W.Frag} : OpS K rEq fEq := fun B S H σ δ x y rx ry P Q R0 rx' ry' h k => by
  unfold fEq at h
  split at h
  · rename_i i j
    cases rx'
    cases ry'
    refine ⟨rfl, ?_⟩
    have e : decide (V.int i = V.int j) = decide (i = j) := by rw [dec_int]; rfl
    rw [e]
    exact k _ δ S H _ h (Same.refl S) R0 (.bl _)
  · rename_i i j
    cases rx'
    cases ry'
    refine ⟨rfl, ?_⟩
    have e : decide (V.bl i = V.bl j) = decide (i = j) := by simp
    rw [e]
    exact k _ δ S H _ h (Same.refl S) R0 (.bl _)
  · rename_i i j
    cases rx'
    cases ry'
    refine ⟨rfl, ?_⟩
    have e : decide (V.str i = V.str j) = decide (i = j) := by simp
    rw [e]
    exact k _ δ S H _ h (Same.refl S) R0 (.bl _)
  · exact h.elim
theorem sn_ne {K : PySem.W.Frag} : OpS K rNe fNe := fun B S H σ δ x y rx ry P Q R0 rx' ry' h k => by
  unfold fNe at h
  split at h
  · rename_i i j
    cases rx'
    cases ry'
    refine ⟨rfl, ?_⟩
    have e : decide (V.int i = V.int j) = decide (i = j) := by simp
    rw [e]
    exact k _ δ S H _ h (Same.refl S) R0 (.bl _)
  · rename_i i j
    cases rx'
    cases ry'
    refine ⟨rfl, ?_⟩
    have e : decide (V.bl i = V.bl j) = decide (i = j) := by simp
    rw [e]
    exact k _ δ S H _ h (Same.refl S) R0 (.bl _)
  · rename_i i j
    cases rx'
    cases ry'
    refine ⟨rfl, ?_⟩
    have e : decide (V.str i = V.str j) = decide (i = j) := by simp
    rw [e]
    exact k _ δ S H _ h (Same.refl S) R0 (.bl _)
  · exact h.elim
theorem rep_pair {i j : Int} (h : Rep S v (.tup [.int i, .int j])) : ∃ a, v = .ref a ∧ S a = some (.tup [.int i, .int j]) := by
  cases h with
  | tup h1 h2 =>
    cases h2 with
    | cons a b =>
      cases a
      cases b with
      | cons a b =>
        cases a
        cases b
        exact ⟨_, rfl, h1⟩
theorem dp_pair {K : PySem.W.Frag} {i j : Int} {a : Addr} (h : H a = some (.tup [.int i, .int j])) : Dp K H (.ref a) (.tuple [.int i, .int j]) := .tup (SqT.of h) (.cons (.int i) (.cons (.int j) .nil))
theorem shaped_pair (i j : Int) : SeqAt.shaped (.tuple [.int i, .int j]) = true := by
  simp [SeqAt.shaped, PyData.canLay0, PyData.canLayAll0, PyData.depth, PyData.depthAll]
theorem eqv_pair (i j k l : Int) : PyData.eqv (.tuple [.int i, .int j]) (.tuple [.int k, .int l]) = (decide (i = k) && decide (j = l)) := by
  simp only [PyData.eqv, PyData.eqvAll, Bool.and_true]
  rfl
theorem sn_eqP {K : PySem.W.Frag} : OpS K (rEqD K) fEqP := fun B S H σ δ x y rx ry P Q R0 rx' ry' h k => by
  unfold fEqP at h
  split at h
  · rename_i i j k' l
    obtain ⟨a1, rfl, e1⟩ := rep_pair rx'
    obtain ⟨a2, rfl, e2⟩ := rep_pair ry'
    refine ⟨_, _, dp_pair (R0.ex _ _ e1), dp_pair (R0.ex _ _ e2), shaped_pair _ _, shaped_pair _ _, ?_⟩
    rw [eqv_pair]
    exact k _ δ S H _ h (Same.refl S) R0 (.bl _)
  · exact h.elim
theorem inV_ints (i : Int) : ∀ ns : List Int, inV (.int i) (ns.map V.int) = decide (i ∈ ns)
  | [] => by simp [inV]
  | n :: ns => by
    have ih := inV_ints i ns
    unfold inV at ih ⊢
    rw [List.map_cons, List.any_cons, ih]
    show ((n == i) || decide (i ∈ ns)) = decide (i ∈ n :: ns)
    by_cases c : n = i
    · subst c; simp
    · have c' : ¬ i = n := fun z => c z.symm
      simp [c, c']
theorem flat_ints : ∀ ns : List Int, (ns.map V.int).all flatV = true
  | [] => rfl
  | n :: ns => by rw [List.map_cons, List.all_cons, flat_ints ns]; rfl
theorem sn_notInI {K : PySem.W.Frag} : OpS K (rIn K true) fNotInI := fun B S H σ δ x y rx ry P Q R0 rx' ry' h k => by
  unfold fNotInI at h
  split at h
  · rename_i i ds hs
    obtain ⟨ns, rfl, h⟩ := h
    cases rx'
    obtain ⟨a, xs, rfl, r1, e1⟩ := seq_ok R0 ry' hs
    have e2 := Reps.ints r1
    subst e2
    refine ⟨a, _, rfl, sq_any e1, rfl, flat_ints ns, ?_⟩
    rw [if_pos rfl, inV_ints]
    exact k _ δ S H _ h (Same.refl S) R0 (.bl _)
  · exact h.elim
theorem dps_pairs {K : PySem.W.Frag} (R0 : Rst B S H σ δ) : ∀ {ps : List (Int × Int)} {xs : List V}, Reps S xs (ps.map prD) → DpAll K H xs (ps.map fun p => PyData.tuple [.int p.1, .int p.2])
  | [], _, h => by cases h; exact .nil
  | p :: ps, _, h => by
    cases h with
    | cons h1 h2 =>
      obtain ⟨a1, rfl, e1⟩ := rep_pair h1
      exact .cons (dp_pair (R0.ex _ _ e1)) (dps_pairs R0 h2)
theorem shaped_pairs (ps : List (Int × Int)) : SeqAt.shaped (.list (ps.map fun p => PyData.tuple [.int p.1, .int p.2])) = true := by
  have h1 : ∀ l : List (Int × Int), PyData.canLayAll0 (l.map fun p => PyData.tuple [.int p.1, .int p.2]) = true := fun l => by
    induction l with
    | nil => rfl
    | cons q r ih => rw [List.map_cons, PyData.canLayAll0, ih]; simp [PyData.canLay0, PyData.canLayAll0]
  have h2 : ∀ l : List (Int × Int), PyData.depthAll (l.map fun p => PyData.tuple [.int p.1, .int p.2]) ≤ 1 := fun l => by
    induction l with
    | nil => simp [PyData.depthAll]
    | cons q r ih => rw [List.map_cons, PyData.depthAll]; simp [PyData.depth, PyData.depthAll]; omega
  have h3 := h2 ps
  simp [SeqAt.shaped, PyData.canLay0, h1 ps, PyData.depth]
  omega
theorem any_pairs (i j : Int) : ∀ ps : List (Int × Int), ((ps.map fun p => PyData.tuple [.int p.1, .int p.2]).any fun z => PyData.eqv z (.tuple [.int i, .int j])) = decide ((i, j) ∈ ps)
  | [] => by simp
  | p :: ps => by
    rw [List.map_cons, List.any_cons, any_pairs i j ps, eqv_pair]
    by_cases c : p = (i, j)
    · subst c; simp
    · have c' : ¬ (i, j) = p := fun z => c z.symm
      have c2 : ¬ (p.1 = i ∧ p.2 = j) := fun z => c (Prod.ext z.1 z.2)
      simp only [List.mem_cons, c', false_or]
      by_cases d1 : p.1 = i
      · have d2 : ¬ p.2 = j := fun z => c2 ⟨d1, z⟩
        simp [d2]
      · simp [d1]
theorem sn_notInP {K : PySem.W.Frag} : OpS K (rNotInD K) fNotInP := fun B S H σ δ x y rx ry P Q R0 rx' ry' h k => by
  unfold fNotInP at h
  split at h
  · rename_i i j ds hs
    obtain ⟨ps, rfl, h⟩ := h
    obtain ⟨a1, rfl, e1⟩ := rep_pair rx'
    obtain ⟨a, xs, rfl, r1, e2⟩ := lst_ok R0 ry' hs
    refine ⟨_, _, dp_pair (R0.ex _ _ e1), .lst (SqL.of e2) (dps_pairs R0 r1), shaped_pair _ _, shaped_pairs ps, ?_⟩
    rw [any_pairs]
    exact k _ δ S H _ h (Same.refl S) R0 (.bl _)
  · exact h.elim
end
end DL
end
section
set_option Elab.async false
set_option linter.all false
set_option maxRecDepth 100000
set_option maxHeartbeats 2000000
/-! expressions over plain data, further -/
namespace DL
open PySem PySem.Spec PyProof.Rows L2

def D.tyn : D → String
  | .non => "NoneType" | .bl _ => "bool" | .int _ => "int" | .str _ => "str" | .tup _ => "tuple" | .lst _ => "list"
def isInt : D → Bool
  | .int _ => true | .bl _ => true | _ => false
def isBool : D → Bool
  | .bl _ => true | _ => false
def isTup : D → Bool
  | .tup _ => true | _ => false
def isStr : D → Bool
  | .str _ => true | _ => false
theorem kit_int : ∀ d : D, kitB d.tyn "int" = some (isInt d)
  | .non => (by decide +kernel : kitB "NoneType" "int" = some false)
  | .bl _ => (by decide +kernel : kitB "bool" "int" = some true)
  | .int _ => (by decide +kernel : kitB "int" "int" = some true)
  | .str _ => (by decide +kernel : kitB "str" "int" = some false)
  | .tup _ => (by decide +kernel : kitB "tuple" "int" = some false)
  | .lst _ => (by decide +kernel : kitB "list" "int" = some false)
theorem kit_bool : ∀ d : D, kitB d.tyn "bool" = some (isBool d)
  | .non => (by decide +kernel : kitB "NoneType" "bool" = some false)
  | .bl _ => (by decide +kernel : kitB "bool" "bool" = some true)
  | .int _ => (by decide +kernel : kitB "int" "bool" = some false)
  | .str _ => (by decide +kernel : kitB "str" "bool" = some false)
  | .tup _ => (by decide +kernel : kitB "tuple" "bool" = some false)
  | .lst _ => (by decide +kernel : kitB "list" "bool" = some false)
theorem kit_tup : ∀ d : D, kitB d.tyn "tuple" = some (isTup d)
  | .non => (by decide +kernel : kitB "NoneType" "tuple" = some false)
  | .bl _ => (by decide +kernel : kitB "bool" "tuple" = some false)
  | .int _ => (by decide +kernel : kitB "int" "tuple" = some false)
  | .str _ => (by decide +kernel : kitB "str" "tuple" = some false)
  | .tup _ => (by decide +kernel : kitB "tuple" "tuple" = some true)
  | .lst _ => (by decide +kernel : kitB "list" "tuple" = some false)
theorem kit_str : ∀ d : D, kitB d.tyn "str" = some (isStr d)
  | .non => (by decide +kernel : kitB "NoneType" "str" = some false)
  | .bl _ => (by decide +kernel : kitB "bool" "str" = some false)
  | .int _ => (by decide +kernel : kitB "int" "str" = some false)
  | .str _ => (by decide +kernel : kitB "str" "str" = some true)
  | .tup _ => (by decide +kernel : kitB "tuple" "str" = some false)
  | .lst _ => (by decide +kernel : kitB "list" "str" = some false)
/-- isinstance, of data -/
def fIsi (f : D → Bool) : F1 := fun r δ Q => match r with
  | .dat d => Q (.dat (.bl (f d))) δ
  | .box _ => False
def fLen : F1 := fun r δ Q => match seqOf r δ with
  | some ds => Q (.dat (.int ds.length)) δ
  | none => False
def fInt : F1 := fun r δ Q => match r with
  | .dat (.int i) => Q (.dat (.int i)) δ
  | _ => False
def fBits : F1 := fun r δ Q => match r with
  | .dat (.int i) => Q (.dat (.int (Builtin.Int.intBits i : Nat))) δ
  | _ => False
def fTupOf : F1 := fun r δ Q => match seqOf r δ with
  | some ds => Q (.dat (.tup ds)) δ
  | none => False
/-- a new list of a value -/
abbrev FL := R → En → (List D → En → Prop) → Prop
def dUL (f : FL) (te : DTE) : DTA := fun δ Q => te δ fun r δ1 => f r δ1 Q
def fListOf : FL := fun r δ Q => match seqOf r δ with
  | some ds => Q ds δ
  | none => False
def lexLe (p q : Int × Int) : Prop := p.1 < q.1 ∨ (p.1 = q.1 ∧ p.2 ≤ q.2)
def fSortP : FL := fun r δ Q => ∃ ps : List (Int × Int), lstOf r δ = some (ps.map prD) ∧ ∀ qs : List (Int × Int), qs.Perm ps → qs.Pairwise lexLe → Q (qs.map prD) δ
def fMaxL : F1 := fun r δ Q => ∃ ns : List Int, lstOf r δ = some (ns.map D.int) ∧ 0 < ns.length ∧ ∀ m, m ∈ ns → (∀ y, y ∈ ns → y ≤ m) → Q (.dat (.int m)) δ
/-- a call of two ints -/
def dC2 (g : Int → Int → Int) (ta : DTA) : DTE := fun δ Q => ta δ fun ds δ1 => match ds with
  | [.int i, .int j] => Q (.dat (.int (g i j))) δ1
  | _ => False
def gMax (i j : Int) : Int := if j > i then j else i
def gMin (i j : Int) : Int := if j < i then j else i
def gGcd (i j : Int) : Int := ((Nat.gcd i.natAbs j.natAbs : Nat) : Int)

section
variable {X : Cx} {B : Ent} {S H : Hp} {σ : L2.St} {δ : En} {v : V} {r : R} {e a b : Expr} {es : List Expr} {te ta tb : DTE} {tr : DTA} {pos p p2 : Pos}
theorem sn_catT {K : PySem.W.Frag} : OpS K (rCatA K) fCatT := fun B S H σ δ x y rx ry P Q R0 rx' ry' h k => by
  unfold fCatT at h
  split at h
  · cases rx' with
    | tup h1 h2 =>
      cases ry' with
      | tup h3 h4 =>
        rename_i ds es a1 xs a2 ys
        refine ⟨_, _, _, _, rfl, rfl, SqT.of (R0.ex _ _ h1), SqT.of (R0.ex _ _ h3), by rw [h2.len, h4.len]; exact size1000 h.1, fun z => ?_, fun _ z => ?_, fun _ _ p hp => ?_⟩
        · subst z
          have : ds = [] := by cases h2; rfl
          subst this
          exact k _ δ S H _ h.2 (Same.refl S) R0 (.tup h3 h4)
        · subst z
          have : es = [] := by cases h4; rfl
          subst this
          rw [List.append_nil] at h
          exact k _ δ S H _ h.2 (Same.refl S) R0 (.tup h1 h2)
        · obtain ⟨R2, s2, e2⟩ := R0.lay (o := .tup (xs ++ ys)) hp
          exact k _ δ _ _ _ h.2 s2 R2 (.tup e2 (Reps.up (Reps.app h2 h4) s2))
  · exact h.elim
theorem atI_rep {xs : List V} {ds : List D} {i : Int} {d : D} (h : Reps S xs ds) (q : atI ds i = some d) : ∃ v, atI xs i = some v ∧ Rep S v d := by
  unfold atI at q ⊢
  rw [h.len]
  cases hi : ixN ds.length i with
  | none => rw [hi] at q; cases q
  | some j =>
    rw [hi] at q
    exact h.get q
/-- x[i] -/
theorem de_ix (ha : PE X a (lift B ta)) (hb : PE X b (lift B tb)) (hs : PlainIx b) : PE X (.Subscript a b pos) (lift B (dBin fIx ta tb)) :=
  PE.imp (pe_ix ix_seq ha hb hs) fun σ H Q ⟨S, δ, P, R0, h, k⟩ => ⟨S, δ, _, R0, h, fun r δ1 S1 H1 v q s1 R1 r1 => ⟨S1, δ1, _, R1, q, fun r' δ2 S2 H2 v' q' s2 R2 r2' => by
    unfold fIx at q'
    split at q'
    · rename_i i ds hs'
      split at q'
      · rename_i d hd
        cases r2'
        obtain ⟨a, xs, rfl, r3, e3⟩ := seq_ok R2 (r1.up s2) hs'
        obtain ⟨w, hw, rw'⟩ := atI_rep r3 hd
        have z := k _ δ2 S2 H2 w q' (s1.trans s2) R2 rw'
        rcases e3 with e3 | ⟨e3, _⟩
        · exact .inl ⟨a, xs, i, w, rfl, rfl, SqL.of e3, hw, z⟩
        · exact .inr (.inl ⟨a, xs, i, w, rfl, rfl, SqT.of e3, hw, z⟩)
      · exact q'.elim
    · exact q'.elim⟩⟩
/-! ### slices -/
def liftO (B : Ent) (t : DTO) : TO := fun σ H Q => ∃ S δ P, Rst B S H σ δ ∧ t δ P ∧ ∀ o δ' S' H', P o δ' → Same S S' → Rst B S' H' σ δ' → Q o H'
theorem PO.imp {X : Cx} {e : Option Expr} {t t' : TO} (h : PO X e t) (f : ∀ σ H Q, t' σ H Q → t σ H Q) : PO X e t' := ⟨fun pins s σ H Q I q => h.run pins s σ H Q I (f σ H Q q)⟩
theorem do_none : PO X none (liftO B dNoPart) := PO.imp po_none fun σ H Q ⟨S, δ, P, R0, h, k⟩ => k _ δ S H h (Same.refl S) R0
theorem do_some (h : PE X e (lift B te)) : PO X (some e) (liftO B (dPart te)) := PO.imp (po_some h) fun σ H Q ⟨S, δ, P, R0, h, k⟩ => ⟨S, δ, _, R0, h, fun r δ1 S1 H1 v q s1 R1 r1 => by
  have q0 : (match (generalizing := false) r with
    | .dat (.int i) => P (some i) δ1
    | _ => False) := q
  cases r with
  | box i => exact q0.elim
  | dat d =>
    cases d with
    | int i => cases r1; exact ⟨i, rfl, k _ δ1 S1 H1 q0 s1 R1⟩
    | non => exact q0.elim
    | bl i => exact q0.elim
    | str i => exact q0.elim
    | tup i => exact q0.elim
    | lst i => exact q0.elim⟩
variable {lo hi : Option Expr} {tl th : DTO}
theorem cut_rep {xs : List V} {ds : List D} (h : Reps S xs ds) (l u : Option Int) : Reps S (cutV xs l u) (cut ds l u) := by
  unfold cutV cut
  rw [h.len]
  exact Reps.take _ (Reps.drop _ h)
theorem cut_whole {ds : List D} {l u : Option Int} (h : HT.sIx ds.length 0 l = 0 ∧ HT.sIx ds.length ds.length u = ds.length) : cut ds l u = ds := by
  unfold cut
  rw [h.1, h.2]
  simp
theorem de_slT (he : PE X e (lift B te)) (hl : PO X lo (liftO B tl)) (hu : PO X hi (liftO B th)) : PE X (.Subscript e (.Slice lo hi none p2) pos) (lift B (dSlT te tl th)) :=
  PE.imp (pe_slice sl_tupA he hl hu) fun σ H Q ⟨S, δ, P, R0, h, k⟩ => ⟨S, δ, _, R0, h, fun r δ1 S1 H1 v q s1 R1 r1 => ⟨S1, δ1, _, R1, q, fun l δ2 S2 H2 q2 s2 R2 => ⟨S2, δ2, _, R2, q2, fun u δ3 S3 H3 q3 s3 R3 => by
    have r3 := (r1.up s2).up s3
    have q0 : (match (generalizing := false) r with
      | .dat (.tup ds) => P (.dat (.tup (cut ds l u))) δ3
      | _ => False) := q3
    cases r with
    | box i => exact q0.elim
    | dat d =>
      cases d with
      | int i => exact q0.elim
      | non => exact q0.elim
      | bl i => exact q0.elim
      | str i => exact q0.elim
      | lst i => exact q0.elim
      | tup ds =>
        have q4 : P (.dat (.tup (cut ds l u))) δ3 := q0
        cases r3 with
        | tup h1 h2 =>
          rename_i a xs
          have hl := h2.len
          refine ⟨a, xs, rfl, SqT.of (R3.ex _ _ h1), fun z => ?_, fun z p hp => ?_⟩
          · rw [hl] at z
            rw [cut_whole z] at q4
            exact k _ δ3 S3 H3 _ q4 ((s1.trans s2).trans s3) R3 (.tup h1 h2)
          · obtain ⟨R4, s4, e4⟩ := R3.lay (o := .tup (cutV xs l u)) hp
            exact k _ δ3 _ _ _ q4 (((s1.trans s2).trans s3).trans s4) R4 (.tup e4 (Reps.up (cut_rep h2 l u) s4))⟩⟩⟩
theorem dl_slL (he : PE X e (lift B te)) (hl : PO X lo (liftO B tl)) (hu : PO X hi (liftO B th)) : PE X (.Subscript e (.Slice lo hi none p2) pos) (liftL B (dSlL te tl th)) :=
  PE.imp (pe_slice sl_list he hl hu) fun σ H Q ⟨S, δ, P, R0, h, k⟩ => ⟨S, δ, _, R0, h, fun r δ1 S1 H1 v q s1 R1 r1 => ⟨S1, δ1, _, R1, q, fun l δ2 S2 H2 q2 s2 R2 => ⟨S2, δ2, _, R2, q2, fun u δ3 S3 H3 q3 s3 R3 => by
    have r3 := (r1.up s2).up s3
    have q0 : (match lstOf r δ3 with
      | some ds => P (cut ds l u) δ3
      | none => False) := q3
    split at q0
    · rename_i ds hs
      obtain ⟨a, xs, rfl, r4, e4⟩ := lst_ok R3 r3 hs
      refine ⟨a, xs, rfl, SqL.of e4, fun p hp => ?_⟩
      obtain ⟨R4, F4⟩ := fresh_new (xs := cutV xs l u) R3 hp
      exact k _ δ3 _ _ _ _ q0 ((s1.trans s2).trans s3) R4 F4 (cut_rep r4 l u)
    · exact q0.elim⟩⟩⟩
theorem dl_cat (ha : PE X a (lift B ta)) (hb : PE X b (lift B tb)) : PE X (.BinOp a .Add b pos) (liftL B (dCatL ta tb)) :=
  PE.imp (pe_op op_cat ha hb) fun σ H Q ⟨S, δ, P, R0, h, k⟩ => ⟨S, δ, _, R0, h, fun r δ1 S1 H1 v q s1 R1 r1 => ⟨S1, δ1, _, R1, q, fun r' δ2 S2 H2 v' q' s2 R2 r2' => by
    have q0 : (match lstOf r δ2, lstOf r' δ2 with
      | some ds, some es => ds.length + es.length ≤ 100000 ∧ P (ds ++ es) δ2
      | _, _ => False) := q'
    split at q0
    · rename_i ds es h1 h2
      obtain ⟨a1, xs, rfl, z1, z2⟩ := lst_ok R2 (r1.up s2) h1
      obtain ⟨a2, ys, rfl, y1, y2⟩ := lst_ok R2 r2' h2
      refine ⟨a1, a2, xs, ys, rfl, rfl, z2, y2, by rw [z1.len, y1.len]; exact size5 q0.1, fun p hp => ?_⟩
      obtain ⟨R4, F4⟩ := fresh_new (xs := xs ++ ys) R2 hp
      exact k _ δ2 _ _ _ _ q0.2 (s1.trans s2) R4 F4 (Reps.app z1 y1)
    · exact q0.elim⟩⟩
/-! ### one-place -/
theorem rep_isN {d : D} (h : Rep S v d) : decide (v = .non) = (R.dat d).isN := by
  cases h <;> simp [R.isN]
theorem repR_isN (R0 : Rst B S H σ δ) (h : RepR S σ v r) (hb : ∀ i, r = .box i → ∃ ds, δ[i]? = some (some (.own ds)) ∨ δ[i]? = some (some (.dat (.lst ds)))) : decide (v = .non) = r.isN := by
  cases r with
  | dat d => exact rep_isN h
  | box i =>
    obtain ⟨ds, q⟩ := hb i rfl
    have e2 : σ[i]? = some (some v) := h
    rcases q with q | q
    · obtain ⟨u, e1, a, xs, z1, _⟩ := R0.at_ i _ q
      rw [e1] at e2
      cases e2
      subst z1
      rfl
    · obtain ⟨u, e1, r1⟩ := R0.at_ i _ q
      rw [e1] at e2
      cases e2
      exact rep_isN r1
/-- data alone -/
def fD (f : F1) : F1 := fun r δ Q => match r with
  | .dat d => f (.dat d) δ Q
  | .box _ => False
theorem de_isN {j : Nat} {pos' : Pos} (ha : PE X a (lift B ta)) : PE X (.Compare a [.Is] [.Constant .none j pos'] pos) (lift B (dUn (fD fIsN) ta)) :=
  PE.imp (pe_cmp (pc_isN ha)) fun σ H Q ⟨S, δ, P, R0, h, k⟩ => ⟨S, δ, _, R0, h, fun r δ1 S1 H1 v q s1 R1 r1 => by
    cases r with
    | box i => exact (show False from q).elim
    | dat d =>
      have q0 : P (.dat (.bl (R.dat d).isN)) δ1 := q
      rw [rep_isN r1]
      exact k _ δ1 S1 H1 _ q0 s1 R1 (.bl _)⟩
theorem de_notN {j : Nat} {pos' : Pos} (ha : PE X a (lift B ta)) : PE X (.Compare a [.IsNot] [.Constant .none j pos'] pos) (lift B (dUn (fD fNotN) ta)) :=
  PE.imp (pe_cmp (pc_notN ha)) fun σ H Q ⟨S, δ, P, R0, h, k⟩ => ⟨S, δ, _, R0, h, fun r δ1 S1 H1 v q s1 R1 r1 => by
    cases r with
    | box i => exact (show False from q).elim
    | dat d =>
      have q0 : P (.dat (.bl (!(R.dat d).isN))) δ1 := q
      rw [rep_isN r1]
      exact k _ δ1 S1 H1 _ q0 s1 R1 (.bl _)⟩
theorem dt_isN {j : Nat} {pos' : Pos} (ha : PE X a (lift B ta)) : PT X (.Compare a [.Is] [.Constant .none j pos'] pos) (liftT B (dTst (dUn (fD fIsN) ta))) :=
  PT.imp (pt_cmp (pc_isN ha)) fun σ H Q ⟨S, δ, P, R0, h, k⟩ => ⟨S, δ, _, R0, h, fun r δ1 S1 H1 v q s1 R1 r1 => by
    cases r with
    | box i => exact (show False from q).elim
    | dat d =>
      have q0 : P (R.dat d).isN δ1 := q
      exact ⟨_, by rw [rep_isN r1], k _ δ1 S1 H1 q0 s1 R1⟩⟩
theorem dt_notN {j : Nat} {pos' : Pos} (ha : PE X a (lift B ta)) : PT X (.Compare a [.IsNot] [.Constant .none j pos'] pos) (liftT B (dTst (dUn (fD fNotN) ta))) :=
  PT.imp (pt_cmp (pc_notN ha)) fun σ H Q ⟨S, δ, P, R0, h, k⟩ => ⟨S, δ, _, R0, h, fun r δ1 S1 H1 v q s1 R1 r1 => by
    cases r with
    | box i => exact (show False from q).elim
    | dat d =>
      have q0 : P (!(R.dat d).isN) δ1 := q
      exact ⟨_, by rw [rep_isN r1], k _ δ1 S1 H1 q0 s1 R1⟩⟩
theorem de_neg (ha : PE X a (lift B ta)) : PE X (.UnaryOp .USub a pos) (lift B (dUn fNeg ta)) :=
  PE.imp (pe_un un_neg ha) fun σ H Q ⟨S, δ, P, R0, h, k⟩ => ⟨S, δ, _, R0, h, fun r δ1 S1 H1 v q s1 R1 r1 => by
    unfold fNeg at q
    split at q
    · cases r1
      exact ⟨_, rfl, k _ δ1 S1 H1 _ q s1 R1 (.int _)⟩
    · exact q.elim⟩
theorem de_one {op : BoolOp} (h : PE X a (lift B ta)) : PE X (.BoolOp op [a] pos) (lift B ta) := pe_one h
variable {rest : List Expr}
theorem tst_of {r : R} {P : Bool → Prop} (h : match r with
    | .dat (.bl c) => P c
    | _ => False) : ∃ c, r = .dat (.bl c) ∧ P c := tst_inv h
theorem de_and (ha : PE X a (lift B ta)) (hb : PE X (.BoolOp .And (b :: rest) pos) (lift B tb)) : PE X (.BoolOp .And (a :: b :: rest) pos) (lift B (dAndV ta tb)) :=
  PE.imp (pe_and ha hb) fun σ H Q ⟨S, δ, P, R0, h, k⟩ => ⟨S, δ, _, R0, h, fun r δ1 S1 H1 v q s1 R1 r1 => by
    obtain ⟨c, rfl, q1⟩ := tst_of (P := fun c => if c = true then tb δ1 P else P (.dat (.bl false)) δ1) q
    cases r1
    refine ⟨c, rfl, ?_⟩
    cases c with
    | true =>
      rw [if_pos rfl] at q1 ⊢
      exact ⟨S1, δ1, P, R1, q1, fun r δ2 S2 H2 v q2 s2 R2 r2 => k r δ2 S2 H2 v q2 (s1.trans s2) R2 r2⟩
    | false =>
      rw [if_neg Bool.false_ne_true] at q1 ⊢
      exact k _ δ1 S1 H1 _ q1 s1 R1 (.bl _)⟩
theorem de_or (ha : PE X a (lift B ta)) (hb : PE X (.BoolOp .Or (b :: rest) pos) (lift B tb)) : PE X (.BoolOp .Or (a :: b :: rest) pos) (lift B (dOrV ta tb)) :=
  PE.imp (pe_or ha hb) fun σ H Q ⟨S, δ, P, R0, h, k⟩ => ⟨S, δ, _, R0, h, fun r δ1 S1 H1 v q s1 R1 r1 => by
    obtain ⟨c, rfl, q1⟩ := tst_of (P := fun c => if c = true then P (.dat (.bl true)) δ1 else tb δ1 P) q
    cases r1
    refine ⟨c, rfl, ?_⟩
    cases c with
    | true =>
      rw [if_pos rfl] at q1 ⊢
      exact k _ δ1 S1 H1 _ q1 s1 R1 (.bl _)
    | false =>
      rw [if_neg Bool.false_ne_true] at q1 ⊢
      exact ⟨S1, δ1, P, R1, q1, fun r δ2 S2 H2 v q2 s2 R2 r2 => k r δ2 S2 H2 v q2 (s1.trans s2) R2 r2⟩⟩
theorem de_not (ha : PE X a (lift B ta)) : PE X (.UnaryOp .Not a pos) (lift B (dUn fNotV ta)) :=
  PE.imp (pe_not ha) fun σ H Q ⟨S, δ, P, R0, h, k⟩ => ⟨S, δ, _, R0, h, fun r δ1 S1 H1 v q s1 R1 r1 => by
    obtain ⟨c, rfl, q1⟩ := tst_of (P := fun c => P (.dat (.bl (!c))) δ1) q
    cases r1
    exact ⟨c, rfl, k _ δ1 S1 H1 _ q1 s1 R1 (.bl _)⟩⟩
/-! ### tests -/
variable {t u : DTT}
theorem dw_and1 (ha : PT X a (liftT B t)) : PW X (.BoolOp .And [a] pos) (liftT B t) := pw_and1 ha
theorem dw_or1 (ha : PT X a (liftT B t)) : PW X (.BoolOp .Or [a] pos) (liftT B t) := pw_or1 ha
theorem dw_and (ha : PT X a (liftT B t)) (hb : PW X (.BoolOp .And (b :: rest) pos) (liftT B u)) : PW X (.BoolOp .And (a :: b :: rest) pos) (liftT B (dAnd t u)) :=
  PW.imp (pw_and ha hb) fun σ H Q ⟨S, δ, P, R0, h, k⟩ => ⟨S, δ, _, R0, h, fun c δ1 S1 H1 q s1 R1 => by
    cases c with
    | true =>
      show liftT B u σ H1 Q
      exact ⟨S1, δ1, P, R1, q, fun r δ2 S2 H2 q2 s2 R2 => k r δ2 S2 H2 q2 (s1.trans s2) R2⟩
    | false =>
      show Q false H1
      exact k _ δ1 S1 H1 q s1 R1⟩
theorem dw_or (ha : PT X a (liftT B t)) (hb : PW X (.BoolOp .Or (b :: rest) pos) (liftT B u)) : PW X (.BoolOp .Or (a :: b :: rest) pos) (liftT B (dOr t u)) :=
  PW.imp (pw_or ha hb) fun σ H Q ⟨S, δ, P, R0, h, k⟩ => ⟨S, δ, _, R0, h, fun c δ1 S1 H1 q s1 R1 => by
    cases c with
    | false =>
      show liftT B u σ H1 Q
      exact ⟨S1, δ1, P, R1, q, fun r δ2 S2 H2 q2 s2 R2 => k r δ2 S2 H2 q2 (s1.trans s2) R2⟩
    | true =>
      show Q true H1
      exact k _ δ1 S1 H1 q s1 R1⟩
theorem dt_not (ha : PT X a (liftT B t)) : PT X (.UnaryOp .Not a pos) (liftT B (dNot t)) :=
  PT.imp (pt_not ha) fun σ H Q ⟨S, δ, P, R0, h, k⟩ => ⟨S, δ, _, R0, h, fun c δ1 S1 H1 q s1 R1 => k _ δ1 S1 H1 q s1 R1⟩
/-! ### built-ins by name -/
theorem lift_one {r : List V → Hp → VK → Prop} {f : F1} {σ : L2.St} {H : Hp} {Q : VK} (h : lift B (dUn f te) σ H Q)
    (hf : ∀ S H δ v (rr : R) (P : R → En → Prop) (Q : VK), Rst B S H σ δ → RepR S σ v rr → f rr δ P → (∀ r δ' S' H' v, P r δ' → Same S S' → Rst B S' H' σ δ' → RepR S' σ v r → Q v H') → r [v] H Q) : tCB r (tCons (lift B te) tNil) σ H Q := by
  obtain ⟨S, δ, P, R0, h, k⟩ := h
  exact ⟨S, δ, _, R0, h, fun rr δ1 S1 H1 v q s1 R1 r1 => hf S1 H1 δ1 v rr P Q R1 r1 q fun r δ2 S2 H2 v2 q2 s2 R2 r2 => k r δ2 S2 H2 v2 q2 (s1.trans s2) R2 r2⟩
theorem lift_oneL {r : List V → Hp → VK → Prop} {f : FL} {σ : L2.St} {H : Hp} {Q : VK} (h : liftL B (dUL f te) σ H Q)
    (hf : ∀ S H δ v (rr : R) (P : List D → En → Prop) (Q : VK), Rst B S H σ δ → RepR S σ v rr → f rr δ P → (∀ ds δ' S' H' a xs, P ds δ' → Same S S' → Rst B S' H' σ δ' → Fresh B S' H' σ δ' a xs → Reps S' xs ds → Q (.ref a) H') → r [v] H Q) : tCB r (tCons (lift B te) tNil) σ H Q := by
  obtain ⟨S, δ, P, R0, h, k⟩ := h
  exact ⟨S, δ, _, R0, h, fun rr δ1 S1 H1 v q s1 R1 r1 => hf S1 H1 δ1 v rr P Q R1 r1 q fun ds δ2 S2 H2 a xs q2 s2 R2 F2 r2 => k ds δ2 S2 H2 a xs q2 (s1.trans s2) R2 F2 r2⟩
theorem de_len (hm : X.mg "len" = none) (ha : PE X a (lift B ta)) (hg : Gl X "len" := by rfl) (hs : starEach [a] X.env = (false, eval a X.env) :: starEach [] X.env := by rfl) : PE X (.Call (.Name "len" p) [a] [] pos) (lift B (dUn fLen ta)) :=
  PE.imp (pe_callB call_len_seq hg hm boot_len (pa_cons ha pa_nil hs) (he := hs) (hpl := rfl)) fun σ H Q h => lift_one h fun S H δ v rr P Q R1 r1 q k => by
    unfold fLen at q
    split at q
    · rename_i ds hs
      obtain ⟨a, xs, rfl, r3, e3⟩ := seq_ok R1 r1 hs
      refine ⟨a, xs, rfl, sq_any e3, ?_⟩
      rw [r3.len]
      exact k _ δ S H _ q (Same.refl S) R1 (.int _)
    · exact q.elim
theorem de_intOf (hm : X.mg "int" = none) (ha : PE X a (lift B ta)) (hg : Gl X "int" := by rfl) (hs : starEach [a] X.env = (false, eval a X.env) :: starEach [] X.env := by rfl) : PE X (.Call (.Name "int" p) [a] [] pos) (lift B (dUn fInt ta)) :=
  PE.imp (pe_callTy call_int1 hg hm (by decide +kernel) (pa_cons ha pa_nil hs) (he := hs) (hpl := rfl)) fun σ H Q h => lift_one h fun S H δ v rr P Q R1 r1 q k => by
    unfold fInt at q
    split at q
    · cases r1
      exact .inl ⟨_, rfl, k _ δ S H _ q (Same.refl S) R1 (.int _)⟩
    · exact q.elim
theorem de_tupOf (hm : X.mg "tuple" = none) (ha : PE X a (lift B ta)) (hg : Gl X "tuple" := by rfl) (hs : starEach [a] X.env = (false, eval a X.env) :: starEach [] X.env := by rfl) : PE X (.Call (.Name "tuple" p) [a] [] pos) (lift B (dUn fTupOf ta)) :=
  PE.imp (pe_callTy call_tuple_of hg hm (by decide +kernel) (pa_cons ha pa_nil hs) (he := hs) (hpl := rfl)) fun σ H Q h => lift_one h fun S H δ v rr P Q R1 r1 q k => by
    unfold fTupOf at q
    split at q
    · rename_i ds hs
      obtain ⟨a, xs, rfl, r3, e3⟩ := seq_ok R1 r1 hs
      rcases e3 with e3 | ⟨e3, e4⟩
      · refine ⟨a, xs, rfl, .inl ⟨SqL.of e3, fun l hl => ?_⟩⟩
        obtain ⟨R2, s2, e2⟩ := R1.lay (o := .tup xs) hl
        exact k _ δ _ _ _ q s2 R2 (.tup e2 (Reps.up r3 s2))
      · subst e4
        exact ⟨a, xs, rfl, .inr ⟨SqT.of e3, k _ δ S H _ q (Same.refl S) R1 r1⟩⟩
    · exact q.elim
theorem dl_listOf (hm : X.mg "list" = none) (ha : PE X a (lift B ta)) (hg : Gl X "list" := by rfl) (hs : starEach [a] X.env = (false, eval a X.env) :: starEach [] X.env := by rfl) : PE X (.Call (.Name "list" p) [a] [] pos) (liftL B (dUL fListOf ta)) :=
  PE.imp (pe_callTy call_list_of hg hm (by decide +kernel) (pa_cons ha pa_nil hs) (he := hs) (hpl := rfl)) fun σ H Q h => lift_oneL h fun S H δ v rr P Q R1 r1 q k => by
    unfold fListOf at q
    split at q
    · rename_i ds hs
      obtain ⟨a, xs, rfl, r3, e3⟩ := seq_ok R1 r1 hs
      refine ⟨a, xs, rfl, sq_any e3, fun l hl => ?_⟩
      obtain ⟨R2, F2⟩ := fresh_new (xs := xs) R1 hl
      exact k _ δ _ _ _ _ q (Same.refl S) R2 F2 r3
    · exact q.elim
theorem tyOf {d : D} (R0 : Rst B S H σ δ) (h : Rep S v d) {K : PySem.W.Frag} : TyOf K H v (.type d.tyn) := by
  cases h with
  | non => exact .non
  | bl b => exact .bl b
  | int i => exact .int i
  | str x => exact .str x
  | tup h1 h2 => exact .tup (R0.ex _ _ h1)
  | lst h1 h2 => exact .lst (R0.ex _ _ h1)
theorem de_isi {T : String} {x : Str} {f : D → Bool} (hk : ∀ d : D, kitB d.tyn T = some (f d)) (hm : X.mg "isinstance" = none) (hx : X.mg x = none) (hv : bootBuiltins x = some (.type T)) (ha : PE X a (lift B ta)) (hg : Gl X "isinstance" := by rfl) (hgx : Gl X x := by rfl) (hn : x ≠ "__name__" := by decide) (hd : (x == ("__debug__" : Str)) = false := by decide)
    (hs : starEach [a, .Name x p2] X.env = (false, eval a X.env) :: starEach [.Name x p2] X.env := by rfl) (hs2 : starEach [.Name x p2] X.env = [(false, eval (.Name x p2) X.env)] := by rfl) (hpl : (backTo pos (starEach [.Name x p2] X.env)).any (·.1) = false := by rfl) : PE X (.Call (.Name "isinstance" p) [a, .Name x p2] [] pos) (lift B (dUn (fIsi f) ta)) :=
  PE.imp (pe_callB call_isi hg hm (by decide +kernel) (pa_cons ha (pa_cons (pe_bltn (v := .ty T) hgx hx hv rfl hn hd) pa_nil hs2) hs) (he := hs) (hpl := hpl)) fun σ H Q ⟨S, δ, P, R0, h, k⟩ => ⟨S, δ, _, R0, h, fun rr δ1 S1 H1 v q s1 R1 r1 => by
    cases rr with
    | box i => exact (show False from q).elim
    | dat d =>
      have q0 : P (.dat (.bl (f d))) δ1 := q
      exact ⟨v, .ty T, _, _, f d, rfl, .ty T, .base (tyOf R1 r1), kit_ty (hk d), k _ δ1 S1 H1 _ q0 s1 R1 (.bl _)⟩⟩
theorem two_inv {ds : List D} {P : Int → Int → Prop} (q : match ds with
    | [.int i, .int j] => P i j
    | _ => False) : ∃ i j, ds = [.int i, .int j] ∧ P i j := by
  split at q
  · exact ⟨_, _, rfl, q⟩
  · exact q.elim
theorem lift_c2 {r : List V → Hp → VK → Prop} {g : Int → Int → Int} {σ : L2.St} {H : Hp} {Q : VK} (h : lift B (dC2 g tr) σ H Q)
    (hf : ∀ i j H (Q : VK), Q (.int (g i j)) H → r [.int i, .int j] H Q) : tCB r (liftA B tr) σ H Q := by
  obtain ⟨S, δ, P, R0, h, k⟩ := h
  refine ⟨S, δ, _, R0, h, fun ds δ1 S1 H1 vs q s1 R1 r1 => ?_⟩
  obtain ⟨i, j, rfl, q0⟩ := two_inv (P := fun i j => P (.dat (.int (g i j))) δ1) q
  cases r1 with
  | cons a b =>
    cases a
    cases b with
    | cons a b =>
      cases a
      cases b
      exact hf _ _ _ _ (k _ δ1 S1 H1 _ q0 s1 R1 (.int _))
theorem de_max2 (hc : X.calm = true) (hm : X.mg "max" = none) (ha : PA X (a :: es) (liftA B tr)) (hg : Gl X "max" := by rfl) (he : starEach (a :: es) X.env = (false, eval a X.env) :: starEach es X.env := by rfl) (hpl : (backTo pos (starEach es X.env)).any (·.1) = false := by rfl) : PE X (.Call (.Name "max" p) (a :: es) [] pos) (lift B (dC2 gMax tr)) :=
  PE.imp (pe_callB (call_max2 hc) hg hm (by decide +kernel) ha (he := he) (hpl := hpl)) fun σ H Q h => lift_c2 h fun i j H Q q => ⟨i, j, rfl, q⟩
theorem de_min2 (hc : X.calm = true) (hm : X.mg "min" = none) (ha : PA X (a :: es) (liftA B tr)) (hg : Gl X "min" := by rfl) (he : starEach (a :: es) X.env = (false, eval a X.env) :: starEach es X.env := by rfl) (hpl : (backTo pos (starEach es X.env)).any (·.1) = false := by rfl) : PE X (.Call (.Name "min" p) (a :: es) [] pos) (lift B (dC2 gMin tr)) :=
  PE.imp (pe_callB (call_min2 hc) hg hm (by decide +kernel) ha (he := he) (hpl := hpl)) fun σ H Q h => lift_c2 h fun i j H Q q => ⟨i, j, rfl, q⟩
theorem de_gcd (hm : X.mg "gcd" = some (.builtin "math.gcd")) (ha : PA X (a :: es) (liftA B tr)) (hg : Gl X "gcd" := by rfl) (he : starEach (a :: es) X.env = (false, eval a X.env) :: starEach es X.env := by rfl) (hpl : (backTo pos (starEach es X.env)).any (·.1) = false := by rfl) : PE X (.Call (.Name "gcd" p) (a :: es) [] pos) (lift B (dC2 gGcd tr)) :=
  PE.imp (pe_callBfun cr_gcd hg hm ha (he := he) (hpl := hpl)) fun σ H Q h => lift_c2 h fun i j H Q q => ⟨i, j, rfl, q⟩
theorem de_maxL (hc : X.calm = true) (hm : X.mg "max" = none) (ha : PE X a (lift B ta)) (hg : Gl X "max" := by rfl) (hs : starEach [a] X.env = (false, eval a X.env) :: starEach [] X.env := by rfl) : PE X (.Call (.Name "max" p) [a] [] pos) (lift B (dUn fMaxL ta)) :=
  PE.imp (pe_callB (cr_max hc) hg hm (by decide +kernel) (pa_cons ha pa_nil hs) (he := hs) (hpl := rfl)) fun σ H Q h => lift_one h fun S H δ v rr P Q R1 r1 q k => by
    obtain ⟨ns, hs, h0, h1⟩ := q
    obtain ⟨a, xs, rfl, r3, e3⟩ := lst_ok R1 r1 hs
    have e4 := Reps.ints r3
    subst e4
    exact ⟨a, ns, rfl, SqL.of e3, h0, fun m hm hle => k _ δ S H _ (h1 m hm hle) (Same.refl S) R1 (.int _)⟩
theorem de_bits {apos : Pos} (ho : PE X a (lift B ta)) (hbase : attributeBase a "bit_length" X.env (eval a X.env) = eval a X.env := by rfl) (hline : (apos.endLine == pos.line) = true := by rfl) : PE X (.Call (.Attribute a "bit_length" apos) [] [] pos) (lift B (dUn fBits ta)) :=
  PE.imp (pe_bits ho hbase hline) fun σ H Q ⟨S, δ, P, R0, h, k⟩ => ⟨S, δ, _, R0, h, fun r δ1 S1 H1 v q s1 R1 r1 => by
    unfold fBits at q
    split at q
    · cases r1
      exact ⟨_, rfl, k _ δ1 S1 H1 _ q s1 R1 (.int _)⟩
    · exact q.elim⟩
/-- c ** d, both written -/
theorem de_pow {i j n : Int} {k1 k2 : Nat} {p1 p2 : Pos} (hj : 0 ≤ j ∧ j ≤ 1000000 ∧ i.natAbs < 2 ^ 64) (hn : i ^ j.toNat = n) : PE X (.BinOp (.Constant (.int i) k1 p1) .Pow (.Constant (.int j) k2 p2) pos) (lift B (dC (.int n))) :=
  PE.imp (pe_op op_pow pe_int pe_int) fun σ H Q ⟨S, δ, P, R0, h, k⟩ => ⟨i, j, rfl, rfl, hj, by
    show Q (.int (i ^ j.toNat)) H
    rw [hn]
    exact k _ δ S H _ h (Same.refl S) R0 (.int n)⟩
end
end DL
end
section
set_option Elab.async false
set_option linter.all false
set_option maxRecDepth 100000
set_option maxHeartbeats 2000000
/-! statements over plain data -/
namespace DL
open PySem PySem.Spec PyProof.Rows L2

structure DEnds where
  nx : En → Prop
  rt : D → En → Prop
  bk : En → Prop
  ct : En → Prop
abbrev DTS := DEnds → En → Prop
structure Cont (B : Ent) (S : Hp) (P : DEnds) (D : Ends) : Prop where
  nx : ∀ δ' S' H' σ', P.nx δ' → Same S S' → Rst B S' H' σ' δ' → D.nx σ' H'
  rt : ∀ d δ' S' H' σ' v, P.rt d δ' → Same S S' → Rst B S' H' σ' δ' → Rep S' v d → D.rt v H'
  bk : ∀ δ' S' H' σ', P.bk δ' → Same S S' → Rst B S' H' σ' δ' → D.bk σ' H'
  ct : ∀ δ' S' H' σ', P.ct δ' → Same S S' → Rst B S' H' σ' δ' → D.ct σ' H'
theorem Cont.up {B : Ent} {S S1 : Hp} {P : DEnds} {D : Ends} (c : Cont B S P D) (s : Same S S1) : Cont B S1 P D :=
  ⟨fun a b c' d e f g => c.nx a b c' d e (s.trans f) g, fun a b c' d e f g h i => c.rt a b c' d e f g (s.trans h) i, fun a b c' d e f g => c.bk a b c' d e (s.trans f) g, fun a b c' d e f g => c.ct a b c' d e (s.trans f) g⟩
def liftS (B : Ent) (t : DTS) : TS := fun D σ H => ∃ S δ P, Rst B S H σ δ ∧ t P δ ∧ Cont B S P D
/-- targets -/
abbrev DTG := D → En → (En → Prop) → Prop
abbrev DTGs := List D → En → (En → Prop) → Prop
def liftG (B : Ent) (g : DTG) : TG := fun v σ H Q => ∃ S δ d P, Rst B S H σ δ ∧ Rep S v d ∧ g d δ P ∧ ∀ δ' S' H' σ', P δ' → Same S S' → Rst B S' H' σ' δ' → Q σ' H'
def liftGs (B : Ent) (g : DTGs) : TGs := fun vs σ H Q => ∃ S δ ds P, Rst B S H σ δ ∧ Reps S vs ds ∧ g ds δ P ∧ ∀ δ' S' H' σ', P δ' → Same S S' → Rst B S' H' σ' δ' → Q σ' H'
theorem PG.imp {X : Cx} {e : Expr} {t t' : TG} (h : PG X e t) (f : ∀ v σ H Q, t' v σ H Q → t v σ H Q) : PG X e t' := ⟨fun pins s σ H v u Q I r q => h.run pins s σ H v u Q I r (f v σ H Q q)⟩
theorem PGs.imp {X : Cx} {e : List Expr} {t t' : TGs} (h : PGs X e t) (f : ∀ v σ H Q, t' v σ H Q → t v σ H Q) : PGs X e t' := ⟨fun pins s σ H v u Q I r q => h.run pins s σ H v u Q I r (f v σ H Q q)⟩
def dgName (i : Nat) : DTG := fun d δ Q => Q (δ.set i (some (.dat d)))
def dgNil : DTGs := fun ds δ Q => match ds with
  | [] => Q δ
  | _ => False
def dgCons (g : DTG) (gs : DTGs) : DTGs := fun ds δ Q => match ds with
  | d :: r => g d δ fun δ1 => gs r δ1 Q
  | [] => False
def dgTup (n : Nat) (gs : DTGs) : DTG := fun d δ Q => match d with
  | .tup ds => ds.length = n ∧ gs ds δ Q
  | _ => False
def dNext : DTS := fun P δ => P.nx δ
def dSeq (t u : DTS) : DTS := fun P δ => t { P with nx := u P } δ
def dBrk : DTS := fun P δ => P.bk δ
def dCont : DTS := fun P δ => P.ct δ
def dAsg (te : DTE) (g : DTG) : DTS := fun P δ => te δ fun r δ1 => val r δ1 fun d δ2 => g d δ2 P.nx
def dAsgL (i : Nat) (tl : DTA) : DTS := fun P δ => tl δ fun ds δ1 => P.nx (δ1.set i (some (.own ds)))
def dPar (i j : Nat) (ta : DTA) : DTS := fun P δ => ta δ fun ds δ1 => match ds with
  | [d, e] => P.nx ((δ1.set i (some (.dat d))).set j (some (.dat e)))
  | _ => False
def dSetI (i : Nat) (te ti : DTE) : DTS := fun P δ => te δ fun r δ1 => val r δ1 fun d δ2 => (∃ ds, δ2[i]? = some (some (.own ds))) ∧ ti δ2 fun r2 δ3 => match r2, δ3[i]? with
  | .dat (.int k), some (some (.own ds)) => (match ixN ds.length k with
    | some j => P.nx (δ3.set i (some (.own (ds.set j d))))
    | none => False)
  | _, _ => False
def dApp (i : Nat) (te : DTE) : DTS := fun P δ => (∃ ds, δ[i]? = some (some (.own ds))) ∧ te δ fun r δ1 => val r δ1 fun d δ2 => match δ2[i]? with
  | some (some (.own ds)) => ds.length < 100000 ∧ P.nx (δ2.set i (some (.own (ds ++ [d]))))
  | _ => False
def dAug (i : Nat) (te : DTE) : DTS := fun P δ => match δ[i]? with
  | some (some (.dat (.int k))) => te δ fun r δ1 => (match r with
    | .dat (.int n) => P.nx (δ1.set i (some (.dat (.int (k + n)))))
    | _ => False)
  | _ => False
def dIf (c : DTT) (t u : DTS) : DTS := fun P δ => c δ fun b δ1 => if b = true then t P δ1 else u P δ1
def dRet (te : DTE) : DTS := fun P δ => te δ fun r δ1 => val r δ1 fun d δ2 => P.rt d δ2
def dDrop (te : DTE) : DTS := fun P δ => te δ fun _ δ1 => P.nx δ1

section
variable {X : Cx} {B : Ent} {S H : Hp} {σ : L2.St} {δ : En} {v : V} {r : R} {e a b : Expr} {es : List Expr} {te ta tb : DTE} {tr : DTA} {pos p p2 : Pos} {st : Stmt} {rest : List Stmt} {t u : DTS} {g : DTG} {gs : DTGs}
theorem dg_name {i : Nat} {x : Str} (hN : X.N.Nodup) (hi : X.N[i]? = some x := by rfl) (hx : Loc X.env.scope x := by first | exact .inl rfl | exact .inr rfl) (hf : X.fn x = true ∨ X.env.scope.names.lookup x = some .local := by first | exact .inl rfl | exact .inr rfl) : PG X (.Name x pos) (liftG B (dgName i)) :=
  PG.imp (pg_name hN hi hx hf) fun v σ H Q ⟨S, δ, d, P, R0, r, h, k⟩ => k _ S H _ h (Same.refl S) (R0.put i r)
theorem dgs_nil : PGs X [] (liftGs B dgNil) := PGs.imp pgs_nil fun vs σ H Q ⟨S, δ, ds, P, R0, r, h, k⟩ => by
  cases r with
  | nil => exact ⟨rfl, k _ S H _ h (Same.refl S) R0⟩
  | cons _ _ => exact (show False from h).elim
theorem dgs_cons (h1 : PG X e (liftG B g)) (h2 : PGs X es (liftGs B gs)) (hs : (assignEach (e :: es) X.env).map (·.2) = assign e X.env :: (assignEach es X.env).map (·.2) := by rfl) : PGs X (e :: es) (liftGs B (dgCons g gs)) :=
  PGs.imp (pgs_cons h1 h2 hs) fun vs σ H Q ⟨S, δ, ds, P, R0, r, h, k⟩ => by
    cases r with
    | nil => exact (show False from h).elim
    | cons r1 r2 => exact ⟨_, _, rfl, S, δ, _, _, R0, r1, h, fun δ1 S1 H1 σ1 q s1 R1 => ⟨S1, δ1, _, P, R1, Reps.up r2 s1, q, fun δ2 S2 H2 σ2 q2 s2 R2 => k δ2 S2 H2 σ2 q2 (s1.trans s2) R2⟩⟩
theorem dg_tup {n k : Nat} (hc : X.calm = true) (h : PGs X es (liftGs B gs)) (hn : (assignEach es X.env).length = n := by rfl) (hst : (assignEach es X.env).findIdx? (·.1) = none := by rfl) : PG X (.Tuple es k pos) (liftG B (dgTup n gs)) :=
  PG.imp (pg_tup hc h hn hst) fun v σ H Q ⟨S, δ, d, P, R0, r, h, k⟩ => by
    cases r with
    | tup h1 h2 =>
      obtain ⟨q1, q2⟩ : _ = n ∧ gs _ δ P := h
      exact ⟨_, _, rfl, SqT.of (R0.ex _ _ h1), h2.len.trans q1, S, δ, _, P, R0, h2, q2, k⟩
    | non => exact (show False from h).elim
    | bl _ => exact (show False from h).elim
    | int _ => exact (show False from h).elim
    | str _ => exact (show False from h).elim
    | lst _ _ => exact (show False from h).elim
/-! ### blocks -/
theorem dss_nil : PSs X [] (liftS B dNext) := PSs.imp pss_nil fun D σ H ⟨S, δ, P, R0, h, k⟩ => k.nx δ S H σ h (Same.refl S) R0
theorem dss_cons (h1 : PS X st (liftS B t)) (h2 : PSs X rest (liftS B u)) : PSs X (st :: rest) (liftS B (dSeq t u)) :=
  PSs.imp (pss_cons h1 h2) fun D σ H ⟨S, δ, P, R0, h, k⟩ => ⟨S, δ, { P with nx := u P }, R0, h, ⟨fun δ1 S1 H1 σ1 q s1 R1 => ⟨S1, δ1, P, R1, q, k.up s1⟩, k.rt, k.bk, k.ct⟩⟩
theorem dss_one (h1 : PS X st (liftS B t)) : PSs X [st] (liftS B t) := PSs.imp (pss_one h1) fun D σ H h => h
theorem ds_pass : PS X (.Pass pos) (liftS B dNext) := PS.imp ps_pass fun D σ H ⟨S, δ, P, R0, h, k⟩ => k.nx δ S H σ h (Same.refl S) R0
theorem ds_break : PS X (.Break pos) (liftS B dBrk) := PS.imp ps_break fun D σ H ⟨S, δ, P, R0, h, k⟩ => k.bk δ S H σ h (Same.refl S) R0
theorem ds_continue : PS X (.Continue pos) (liftS B dCont) := PS.imp ps_continue fun D σ H ⟨S, δ, P, R0, h, k⟩ => k.ct δ S H σ h (Same.refl S) R0
theorem ds_ret (he : PE X e (lift B te)) : PS X (.Return (some e) pos) (liftS B (dRet te)) :=
  PS.imp (ps_ret he) fun D σ H ⟨S, δ, P, R0, h, k⟩ => ⟨S, δ, _, R0, h, fun r δ1 S1 H1 v q s1 R1 r1 => by
    obtain ⟨d, δ2, S2, q2, s2, R2, rd⟩ := val_ok R1 r1 q
    exact k.rt d δ2 S2 H1 σ v q2 (s1.trans s2) R2 rd⟩
theorem ds_expr (he : PE X e (lift B te)) (hs : swapsWith e none pos.line X.env = pure false := by rfl) : PS X (.Expr e pos) (liftS B (dDrop te)) :=
  PS.imp (ps_expr he hs) fun D σ H ⟨S, δ, P, R0, h, k⟩ => ⟨S, δ, _, R0, h, fun r δ1 S1 H1 v q s1 R1 r1 => k.nx δ1 S1 H1 σ q s1 R1⟩
theorem ds_if {c : Expr} {xs ys : List Stmt} {tc : DTT} (hc : PT X c (liftT B tc)) (ha : PSs X xs (liftS B t)) (hb : PSs X ys (liftS B u)) : PS X (.If c xs ys pos) (liftS B (dIf tc t u)) :=
  PS.imp (ps_if hc ha hb) fun D σ H ⟨S, δ, P, R0, h, k⟩ => ⟨S, δ, _, R0, h, fun b δ1 S1 H1 q s1 R1 => by
    cases b with
    | true =>
      show liftS B t D σ H1
      exact ⟨S1, δ1, P, R1, q, k.up s1⟩
    | false =>
      show liftS B u D σ H1
      exact ⟨S1, δ1, P, R1, q, k.up s1⟩⟩
/-! ### stores -/
theorem ds_asg {tg : Expr} (he : PE X e (lift B te)) (hg : PG X tg (liftG B g)) (hs : swapsWithSole [tg] e pos.line X.env = pure false := by rfl) (hw : swappedStores [tg] e X.env = pure none := by rfl)
    (h1 : (assignEach [tg] X.env).map (·.2) = [assign tg X.env] := by rfl) : PS X (.Assign [tg] e pos) (liftS B (dAsg te g)) :=
  PS.imp (ps_asg he hg hs hw h1) fun D σ H ⟨S, δ, P, R0, h, k⟩ => ⟨S, δ, _, R0, h, fun r δ1 S1 H1 v q s1 R1 r1 => by
    obtain ⟨d, δ2, S2, q2, s2, R2, rd⟩ := val_ok R1 r1 q
    exact ⟨S2, δ2, d, P.nx, R2, rd, q2, fun δ3 S3 H3 σ3 q3 s3 R3 => k.nx δ3 S3 H3 σ3 q3 ((s1.trans s2).trans s3) R3⟩⟩
theorem ds_set {i : Nat} {x : Str} {pos' : Pos} (hN : X.N.Nodup) (he : PE X e (lift B te)) (hi : X.N[i]? = some x := by rfl) (hx : Loc X.env.scope x := by first | exact .inl rfl | exact .inr rfl) (hs : swapsWith e (some (.Name x pos')) pos.line X.env = pure false := by rfl) (hf : X.fn x = true ∨ X.env.scope.names.lookup x = some .local := by first | exact .inl rfl | exact .inr rfl) :
    PS X (.Assign [.Name x pos'] e pos) (liftS B (dAsg te (dgName i))) :=
  PS.imp (ps_set hN hi hx he hs hf) fun D σ H ⟨S, δ, P, R0, h, k⟩ => ⟨S, δ, _, R0, h, fun r δ1 S1 H1 v q s1 R1 r1 => by
    obtain ⟨d, δ2, S2, q2, s2, R2, rd⟩ := val_ok R1 r1 q
    exact k.nx _ S2 H1 _ q2 (s1.trans s2) (R2.put i rd)⟩
theorem Fresh.put {a : Addr} {xs : List V} {ds : List D} (F : Fresh B S H σ δ a xs) (R0 : Rst B S H σ δ) (r1 : Reps S xs ds) (i : Nat) : Rst B S H (σ.set i (some (.ref a))) (δ.set i (some (.own ds))) :=
  R0.putOwn i F.s F.h r1 F.e fun j es _ q => F.o j es q
theorem lift_setL {i : Nat} {D : Ends} (h : liftS B (dAsgL i tr) D σ H) : tAsg (liftL B tr) (gName i) D σ H := by
  obtain ⟨S, δ, P, R0, h, k⟩ := h
  exact ⟨S, δ, _, R0, h, fun ds δ1 S1 H1 a xs q s1 R1 F1 r1 => k.nx _ S1 H1 _ q s1 (F1.put R1 r1 i)⟩
theorem ds_setL {i : Nat} {x : Str} {pos' : Pos} (hN : X.N.Nodup) (he : PE X e (liftL B tr)) (hi : X.N[i]? = some x := by rfl) (hx : Loc X.env.scope x := by first | exact .inl rfl | exact .inr rfl) (hs : swapsWith e (some (.Name x pos')) pos.line X.env = pure false := by rfl) (hf : X.fn x = true ∨ X.env.scope.names.lookup x = some .local := by first | exact .inl rfl | exact .inr rfl) :
    PS X (.Assign [.Name x pos'] e pos) (liftS B (dAsgL i tr)) := PS.imp (ps_set hN hi hx he hs hf) fun D σ H h => lift_setL h
theorem ds_par {i j : Nat} {x y : Str} {px py pt : Pos} {kt k2 : Nat} {pt2 : Pos} (hc : X.calm = true) (hN : X.N.Nodup) (hij : i ≠ j) (ha : PA X [a, b] (liftA B tr)) (hi : X.N[i]? = some x := by rfl) (hj : X.N[j]? = some y := by rfl)
    (hx : X.env.scope.names.lookup x = some .local := by rfl) (hy : X.env.scope.names.lookup y = some .local := by rfl)
    (hw : swappedStores [.Tuple [.Name x px, .Name y py] kt pt] (.Tuple [a, b] k2 pt2) X.env = pure (some [x, y]) := by rfl)
    (hs : swapsWithSole [.Tuple [.Name x px, .Name y py] kt pt] (.Tuple [a, b] k2 pt2) pos.line X.env = pure false := by rfl) :
    PS X (.Assign [.Tuple [.Name x px, .Name y py] kt pt] (.Tuple [a, b] k2 pt2) pos) (liftS B (dPar i j tr)) :=
  PS.imp (ps_par hc hN hi hj hij hx hy ha hw hs) fun D σ H ⟨S, δ, P, R0, h, k⟩ => ⟨S, δ, _, R0, h, fun ds δ1 S1 H1 vs q s1 R1 r1 => by
    obtain ⟨d, e, rfl, q0⟩ : ∃ d e, ds = [d, e] ∧ P.nx ((δ1.set i (some (.dat d))).set j (some (.dat e))) := by
      split at q
      · exact ⟨_, _, rfl, q⟩
      · exact q.elim
    cases r1 with
    | cons c1 c2 =>
      cases c2 with
      | cons c3 c4 =>
        cases c4
        exact ⟨_, _, rfl, k.nx _ S1 H1 _ q0 s1 ((R1.put i c1).put j c3)⟩⟩
theorem own_at {i : Nat} {ds : List D} (R0 : Rst B S H σ δ) (hi : δ[i]? = some (some (.own ds))) : ∃ (p : Addr) (xs : List V), σ[i]? = some (some (.ref p)) ∧ H p = some (.lst xs) ∧ Reps S xs ds := by
  obtain ⟨v, e1, a, xs, e2, e3, e4, e5, e6⟩ := R0.at_ i _ hi
  subst e2
  exact ⟨a, xs, e1, e4, e5⟩
theorem ixN_len {xs : List V} {ds : List D} {k : Int} {j : Nat} (h : Reps S xs ds) (e : ixN ds.length k = some j) : ixN xs.length k = some j := by rw [h.len]; exact e
/-- xs[k] = e, xs a list of one's own -/
theorem ds_setI {i : Nat} {x : Str} {xi : Expr} {ti : DTE} {px tpos : Pos} (hN0 : X.N[i]? = some x := by rfl) (he : PE X e (lift B te)) (hi : PE X xi (lift B ti)) (hv : Vis X.env.scope x := by first | exact Or.inl rfl | exact Or.inr (Or.inl rfl) | exact Or.inr (Or.inr rfl)) (hd : (x == ("__debug__" : Str)) = false := by decide)
    (hcd : (x == ("__classdict__" : Str)) = false := by decide)
    (ha : ∀ v, assign (.Subscript (.Name x px) xi tpos) X.env v = (do
      let ov ← holding [v] (eval (.Name x px) X.env)
      let iv ← holding [v, ov] (eval xi X.env)
      standAt tpos
      holding [v, ov, iv] (setItem ov iv v)
      release [v, ov, iv] []) := by intro _; rfl) (hs : swapsWithSole [.Subscript (.Name x px) xi tpos] e pos.line X.env = pure false := by rfl) (hw : swappedStores [.Subscript (.Name x px) xi tpos] e X.env = pure none := by rfl)
    (h1 : (assignEach [.Subscript (.Name x px) xi tpos] X.env).map (·.2) = [assign (.Subscript (.Name x px) xi tpos) X.env] := by rfl) : PS X (.Assign [.Subscript (.Name x px) xi tpos] e pos) (liftS B (dSetI i te ti)) :=
  PS.imp (ps_asg he (pg_sub (pv i hN0 hv hd hcd) hi set_list ha) hs hw h1) fun D σ H ⟨S, δ, P, R0, h, k⟩ => ⟨S, δ, _, R0, h, fun r δ1 S1 H1 v q s1 R1 r1 => by
    obtain ⟨d, δ2, S2, ⟨⟨ds, q2⟩, q3⟩, s2, R2, rd⟩ := val_ok R1 r1 q
    obtain ⟨p, xs, e1, e2, e3⟩ := own_at R2 q2
    refine ⟨.ref p, e1, S2, δ2, _, R2, q3, fun r2 δ3 S3 H3 v3 q4 s3 R3 r3 => ?_⟩
    split at q4
    · rename_i kk ds' hr hd'
      split at q4
      · rename_i j hj
        cases r3
        obtain ⟨p', xs', e1', e2', e3'⟩ := own_at R3 hd'
        rw [e1] at e1'
        cases e1'
        refine ⟨p, xs', _, j, rfl, rfl, e2', ixN_len e3' hj, ?_⟩
        exact k.nx _ S3 _ σ q4 ((s1.trans s2).trans s3) (R3.write hd' e1 (Reps.set j (Rep.up rd s3) e3'))
      · exact q4.elim
    · exact q4.elim⟩
/-- xs.append(e), xs a list of one's own -/
theorem ds_app {i : Nat} {x : Str} {px apos cpos : Pos} (hN0 : X.N[i]? = some x := by rfl) (he : PE X e (lift B te)) (hv : Vis X.env.scope x := by first | exact Or.inl rfl | exact Or.inr (Or.inl rfl) | exact Or.inr (Or.inr rfl)) (hd : (x == ("__debug__" : Str)) = false := by decide)
    (hcd : (x == ("__classdict__" : Str)) = false := by decide)
    (hbase : attributeBase (.Name x px) "append" X.env (eval (.Name x px) X.env) = eval (.Name x px) X.env := by rfl)
    (hfew : ((backTo cpos (starEach [e] X.env)).all (fun x => !x.1) && (backToKw cpos (keywordEach [] X.env)).all (fun x => x.1.isSome)
      && decide ([e].length + ([] : List Keyword).length + (if ([] : List Keyword).isEmpty then 0 else 1) < 30)) = true := by rfl)
    (hline : (apos.endLine == cpos.line) = true := by rfl) (hs : starEach [e] X.env = (false, eval e X.env) :: starEach [] X.env := by rfl) (hplain : (backTo cpos (starEach [] X.env)).any (·.1) = false := by rfl)
    (hsw : swapsWith (.Call (.Attribute (.Name x px) "append" apos) [e] [] cpos) none pos.line X.env = pure false := by rfl) :
    PS X (.Expr (.Call (.Attribute (.Name x px) "append" apos) [e] [] cpos) pos) (liftS B (dApp i te)) :=
  PS.imp (ps_expr (pe_bm PySem.F.plainAttrs_list PySem.F.slot_list_append PySem.F.type_list_append mt_append (pv i hN0 hv hd hcd) (pa_cons he pa_nil hs) hbase hfew hline hs hplain) hsw) fun D σ H ⟨S, δ, P, R0, ⟨⟨ds0, h0⟩, h⟩, k⟩ => by
    obtain ⟨p, xs, e1, e2, e3⟩ := own_at R0 h0
    refine ⟨.ref p, e1, .inl ⟨rfl, xs, SqL.of e2⟩, S, δ, _, R0, h, fun r δ1 S1 H1 v q s1 R1 r1 => ?_⟩
    obtain ⟨d, δ2, S2, q2, s2, R2, rd⟩ := val_ok R1 r1 q
    split at q2
    · rename_i ds hd'
      obtain ⟨p', xs', e1', e2', e3'⟩ := own_at R2 hd'
      rw [e1] at e1'
      cases e1'
      refine ⟨p, xs', v, rfl, rfl, e2', by rw [e3'.len]; exact size5l q2.1, ?_⟩
      exact k.nx _ S2 _ σ q2.2 (s1.trans s2) (R2.write hd' e1 (Reps.app e3' (.cons rd .nil)))
    · exact q2.elim
theorem ds_aug {i : Nat} {x : Str} {pos' : Pos} (hN : X.N.Nodup) (he : PE X e (lift B te)) (hi : X.N[i]? = some x := by rfl) (hx : Loc X.env.scope x := by first | exact .inl rfl | exact .inr rfl) (hf : X.fn x = true ∨ X.env.scope.names.lookup x = some .local := by first | exact .inl rfl | exact .inr rfl) :
    PS X (.AugAssign (.Name x pos') .Add e pos) (liftS B (dAug i te)) :=
  PS.imp (ps_aug hN hi hx he ip_add hf) fun D σ H ⟨S, δ, P, R0, h, k⟩ => by
    unfold dAug at h
    split at h
    · rename_i n hn
      obtain ⟨v, e1, e2⟩ := R0.at_ i _ hn
      have e3 : Rep S v (.int n) := e2
      cases e3
      refine ⟨_, e1, S, δ, _, R0, h, fun r δ1 S1 H1 v q s1 R1 r1 => ?_⟩
      obtain ⟨m, rfl, q0⟩ : ∃ m, r = .dat (.int m) ∧ P.nx (δ1.set i (some (.dat (.int (n + m))))) := by
        split at q
        · exact ⟨_, rfl, q⟩
        · exact q.elim
      cases r1
      exact ⟨n, m, rfl, rfl, k.nx _ S1 H1 _ q0 s1 (R1.put i (.int _))⟩
    · exact h.elim
end
end DL
end
section
set_option Elab.async false
set_option linter.all false
set_option maxRecDepth 100000
set_option maxHeartbeats 2000000
/-! loops, comprehensions over plain data -/
namespace DL
open PySem PySem.Spec PyProof.Rows L2

/-- what is walked, item by item: ds -/
structure Src (S : Hp) (ds : List D) (J : It) : Prop where
  go : ∀ i H, Same S H → i < ds.length → J.go i H
  stop : ∀ H, Same S H → J.stop ds.length H
  yld : ∀ (i : Nat) (H : Hp) (x : V) (H' : Hp) (S1 : Hp), Same S S1 → Same S1 H → J.yld i H x H' → ∀ d, ds[i]? = some d →
    ∃ S2, Same S1 S2 ∧ Same S2 H' ∧ Same H H' ∧ (∀ a o, S2 a = some o → S1 a = some o ∨ H a = none) ∧ Rep S2 x d
def liftI (B : Ent) (ti : DTA) : TI := fun σ H R => ∃ S δ P, Rst B S H σ δ ∧ ti δ P ∧ ∀ ds δ' S' H' J, P ds δ' → Same S S' → Rst B S' H' σ δ' → Src S' ds J → R J H'
theorem PI.imp {X : Cx} {tg e : Expr} {t t' : TI} (h : PI X tg e t) (f : ∀ σ H Q, t' σ H Q → t σ H Q) : PI X tg e t' := ⟨fun pins s σ H Q I q => h.run pins s σ H Q I (f σ H Q q)⟩
theorem src_list {K : PySem.W.Frag} {S : Hp} {a : Addr} {xs : List V} {ds : List D} (ha : S a = some (.lst xs)) (r : Reps S xs ds) : Src S ds (Itl K a) where
  go := fun i H s hi => by
    have hl : i < xs.length := by rw [r.len]; exact hi
    exact ⟨xs, xs[i], SqL.of (s _ _ ha), List.getElem?_eq_getElem hl⟩
  stop := fun H s => ⟨xs, SqL.of (s _ _ ha), Nat.le_of_eq r.len⟩
  yld := fun i H x H' S1 s s1 y d hd => by
    obtain ⟨rfl, y2⟩ := y
    obtain ⟨v, h1, h2⟩ := r.get hd
    have h3 := y2 xs (SqL.of (s1 _ _ (s _ _ ha)))
    rw [h1] at h3
    cases h3
    exact ⟨S1, Same.refl S1, s1, Same.refl _, fun a o q => .inl q, Rep.up h2 s⟩
theorem src_tup {K : PySem.W.Frag} {S : Hp} {a : Addr} {xs : List V} {ds : List D} (ha : S a = some (.tup xs)) (r : Reps S xs ds) : Src S ds (Itt K a) where
  go := fun i H s hi => by
    have hl : i < xs.length := by rw [r.len]; exact hi
    exact ⟨xs, xs[i], SqT.of (s _ _ ha), List.getElem?_eq_getElem hl⟩
  stop := fun H s => ⟨xs, SqT.of (s _ _ ha), Nat.le_of_eq r.len⟩
  yld := fun i H x H' S1 s s1 y d hd => by
    obtain ⟨rfl, y2⟩ := y
    obtain ⟨v, h1, h2⟩ := r.get hd
    have h3 := y2 xs (SqT.of (s1 _ _ (s _ _ ha)))
    rw [h1] at h3
    cases h3
    exact ⟨S1, Same.refl S1, s1, Same.refl _, fun a o q => .inl q, Rep.up h2 s⟩
def intsD (lo : Int) (n : Nat) : List D := (List.range n).map fun (k : Nat) => D.int (lo + (k : Int))
theorem intsD_len (lo : Int) (n : Nat) : (intsD lo n).length = n := by simp [intsD]
theorem src_range {S : Hp} (lo : Int) (n : Nat) : Src S (intsD lo n) (Itr lo n) where
  go := fun i H s hi => by rw [intsD_len] at hi; exact hi
  stop := fun H s => by rw [intsD_len]; exact Nat.le_refl n
  yld := fun i H x H' S1 s s1 y d hd => by
    obtain ⟨rfl, rfl⟩ := y
    have hi := lt_get hd
    rw [intsD_len] at hi
    have e : (intsD lo n)[i]? = some (D.int (lo + (i : Int))) := by simp [intsD, hi]
    rw [e] at hd
    cases hd
    exact ⟨S1, Same.refl S1, s1, Same.refl _, fun a o q => .inl q, .int _⟩
/-- sources -/
def dSrcL (te : DTE) : DTA := fun δ Q => te δ fun r δ1 => val r δ1 fun d δ2 => match d with
  | .lst ds => Q ds δ2
  | _ => False
def dSrcT (te : DTE) : DTA := fun δ Q => te δ fun r δ1 => match r with
  | .dat (.tup ds) => Q ds δ1
  | _ => False
def dRng1 (ta : DTA) : DTA := fun δ Q => ta δ fun ds δ1 => match ds with
  | [.int n] => (-1000000000000000000 ≤ n ∧ n ≤ 1000000000000000000) ∧ Q (intsD 0 n.toNat) δ1
  | _ => False
def dRng2 (ta : DTA) : DTA := fun δ Q => ta δ fun ds δ1 => match ds with
  | [.int m, .int n] => (-1000000000000000000 ≤ m ∧ m ≤ 1000000000000000000 ∧ -1000000000000000000 ≤ n ∧ n ≤ 1000000000000000000) ∧ Q (intsD m (n - m).toNat) δ1
  | _ => False
def dForL (g : DTG) (tb : DTS) : List D → DTS
  | [], P, δ => P.nx δ
  | d :: ds, P, δ => g d δ fun δ1 => tb { nx := fun δ2 => dForL g tb ds P δ2, rt := P.rt, bk := P.nx, ct := fun δ2 => dForL g tb ds P δ2 } δ1
def dFor (ti : DTA) (g : DTG) (tb : DTS) : DTS := fun P δ => ti δ fun ds δ1 => dForL g tb ds P δ1
/-- the block's own names are let go -/
def wipeD (δ : En) : List Nat → En
  | [] => δ
  | v :: vs => (wipeD δ vs).set v none
def noMut (δ : En) (vs : List Nat) : Bool := vs.all fun i => match δ[i]? with
  | some (some (.own _)) => false
  | some (some .feed) => false
  | some (some (.pin _)) => false
  | _ => true
def lcL (g : DTG) (tt : DTT) (te : DTE) (δ0 : En) : List D → List D → (List D → Prop) → Prop
  | [], acc, Q => Q acc
  | d :: ds, acc, Q => g d δ0 fun δ1 => tt δ1 fun b δ2 => δ2 = δ1 ∧ if b = true then te δ1 fun r δ3 => δ3 = δ1 ∧ (match r with
      | .dat y => acc.length < 100000 ∧ lcL g tt te δ0 ds (acc ++ [y]) Q
      | .box _ => False)
    else lcL g tt te δ0 ds acc Q
def dLc (ti : DTA) (g : DTG) (tt : DTT) (te : DTE) (vs : List Nat) : DTA := fun δ Q => ti δ fun ds δ1 => noMut δ1 vs = true ∧ lcL g tt te (wipeD δ1 vs) ds [] fun out => Q out δ1
def dYes : DTT := fun δ Q => Q true δ

section
variable {X : Cx} {B : Ent} {S H : Hp} {σ : L2.St} {δ : En} {v : V} {r : R} {tg e a b : Expr} {es : List Expr} {te ta tb : DTE} {tr ti : DTA} {pos p p2 : Pos} {st : Stmt} {rest : List Stmt} {t u : DTS} {g : DTG} {gs : DTGs}
theorem di_list (he : PE X e (lift B te)) : PI X tg e (liftI B (dSrcL te)) :=
  PI.imp (pi_list he) fun σ H R ⟨S, δ, P, R0, h, k⟩ => ⟨S, δ, _, R0, h, fun r δ1 S1 H1 v q s1 R1 r1 => by
    obtain ⟨d, δ2, S2, q2, s2, R2, rd⟩ := val_ok R1 r1 q
    split at q2
    · cases rd with
      | lst h1 h2 => exact ⟨_, rfl, ⟨_, SqL.of (R2.ex _ _ h1)⟩, k _ δ2 S2 H1 _ q2 (s1.trans s2) R2 (src_list h1 h2)⟩
    · exact q2.elim⟩
theorem di_tup (he : PE X e (lift B te)) : PI X tg e (liftI B (dSrcT te)) :=
  PI.imp (pi_tup he) fun σ H R ⟨S, δ, P, R0, h, k⟩ => ⟨S, δ, _, R0, h, fun r δ1 S1 H1 v q s1 R1 r1 => by
    split at q
    · cases r1 with
      | tup h1 h2 => exact ⟨_, rfl, ⟨_, SqT.of (R1.ex _ _ h1)⟩, k _ δ1 S1 H1 _ q s1 R1 (src_tup h1 h2)⟩
    · exact q.elim⟩
theorem di_range1 (hm : X.mg "range" = none) (ha : PA X [a] (liftA B tr)) (hg : Gl X "range" := by rfl) (hs : starEach [a] X.env = [(false, eval a X.env)] := by rfl) : PI X tg (.Call (.Name "range" p) [a] [] pos) (liftI B (dRng1 tr)) :=
  PI.imp (pi_range1 hg hm ha hs) fun σ H R ⟨S, δ, P, R0, h, k⟩ => ⟨S, δ, _, R0, h, fun ds δ1 S1 H1 vs q s1 R1 r1 => by
    obtain ⟨n, rfl, q0⟩ : ∃ n, ds = [.int n] ∧ ((-1000000000000000000 ≤ n ∧ n ≤ 1000000000000000000) ∧ P (intsD 0 n.toNat) δ1) := by
      split at q
      · exact ⟨_, rfl, q⟩
      · exact q.elim
    cases r1 with
    | cons c1 c2 =>
      cases c1
      cases c2
      exact ⟨n, rfl, by have := q0.1; omega, by have := q0.1; omega, k _ δ1 S1 H1 _ q0.2 s1 R1 (src_range 0 n.toNat)⟩⟩
theorem di_range2 (hm : X.mg "range" = none) (ha : PA X [a, b] (liftA B tr)) (hg : Gl X "range" := by rfl) (hs : starEach [a, b] X.env = [(false, eval a X.env), (false, eval b X.env)] := by rfl) (hs2 : starEach [b] X.env = [(false, eval b X.env)] := by rfl) :
    PI X tg (.Call (.Name "range" p) [a, b] [] pos) (liftI B (dRng2 tr)) :=
  PI.imp (pi_range2 hg hm ha hs hs2) fun σ H R ⟨S, δ, P, R0, h, k⟩ => ⟨S, δ, _, R0, h, fun ds δ1 S1 H1 vs q s1 R1 r1 => by
    obtain ⟨m, n, rfl, q0⟩ : ∃ m n, ds = [.int m, .int n] ∧ ((-1000000000000000000 ≤ m ∧ m ≤ 1000000000000000000 ∧ -1000000000000000000 ≤ n ∧ n ≤ 1000000000000000000) ∧ P (intsD m (n - m).toNat) δ1) := by
      split at q
      · exact ⟨_, _, rfl, q⟩
      · exact q.elim
    cases r1 with
    | cons c1 c2 =>
      cases c1
      cases c2 with
      | cons c3 c4 =>
        cases c3
        cases c4
        refine ⟨m, n, rfl, by have := q0.1; omega, k _ δ1 S1 H1 _ q0.2 s1 R1 (src_range m (n - m).toNat)⟩⟩
/-- for over what is told item by item -/
theorem ds_for {body : List Stmt} (hp : PassesOwn (model X.prog X.w) X.A X.env X.xe) (hc : X.calm = true) (hi : PI X tg e (liftI B ti)) (hg : PG X tg (liftG B g)) (hb : PSs X body (liftS B t)) (hs : ∀ x, foldedSetIterable e X.env x = pure x := by intro _; rfl) :
    PS X (.For tg e body [] pos) (liftS B (dFor ti g t)) :=
  PS.imp (ps_for hp hc hi hg hb hs) fun D σ H ⟨S, δ, P, R0, h, k⟩ => ⟨S, δ, _, R0, h, fun ds δ1 S1 H1 J q s1 R1 src => by
    refine ⟨fun i m σ H => m = ds.length - i ∧ i ≤ ds.length ∧ ∃ S2 δ2, Same S1 S2 ∧ Rst B S2 H σ δ2 ∧ dForL g t (ds.drop i) P δ2, ⟨_, rfl, Nat.zero_le _, S1, δ1, Same.refl _, R1, q⟩, ?_⟩
    rintro i m σ' H' ⟨hm, hi, S2, δ2, s2, R2, q2⟩
    by_cases e : i = ds.length
    · subst e
      rw [List.drop_length] at q2
      exact .inl ⟨src.stop H' (s2.trans R2.ex), k.nx δ2 S2 H' σ' q2 (s1.trans s2) R2⟩
    · have hl : i < ds.length := by omega
      have hd : ds.drop i = ds[i] :: ds.drop (i + 1) := List.drop_eq_getElem_cons hl
      rw [hd] at q2
      refine .inr ⟨src.go i H' (s2.trans R2.ex) hl, fun σ'' H'' => ∃ S2 δ2, Same S1 S2 ∧ Rst B S2 H'' σ'' δ2 ∧ dForL g t (ds.drop (i + 1)) P δ2, fun σ'' H'' z => ⟨ds.length - (i + 1), by omega, rfl, by omega, z⟩, fun x H'' y => ?_⟩
      obtain ⟨S3, s3, x3, k3, n3, r3⟩ := src.yld i H' x H'' S2 s2 R2.ex y _ (List.getElem?_eq_getElem hl)
      refine ⟨S3, δ2, _, _, R2.grow s3 x3 k3 n3, r3, q2, fun δ4 S4 H4 σ4 q4 s4 R4 => ?_⟩
      have s14 : Same S1 S4 := (s2.trans s3).trans s4
      exact ⟨S4, δ4, _, R4, q4, ⟨fun δ5 S5 H5 σ5 q5 s5 R5 => ⟨S5, δ5, s14.trans s5, R5, q5⟩, fun d δ5 S5 H5 σ5 v q5 s5 R5 r5 => k.rt d δ5 S5 H5 σ5 v q5 (s1.trans (s14.trans s5)) R5 r5,
        fun δ5 S5 H5 σ5 q5 s5 R5 => k.nx δ5 S5 H5 σ5 q5 (s1.trans (s14.trans s5)) R5, fun δ5 S5 H5 σ5 q5 s5 R5 => ⟨S5, δ5, s14.trans s5, R5, q5⟩⟩⟩⟩
/-! ### comprehensions -/
theorem wipeD_len (δ : En) : ∀ vs, (wipeD δ vs).length = δ.length
  | [] => rfl
  | v :: vs => by rw [wipeD, List.length_set, wipeD_len]
theorem wipeD_out {δ : En} {i : Nat} : ∀ {vs : List Nat}, i ∉ vs → (wipeD δ vs)[i]? = δ[i]?
  | [], _ => rfl
  | v :: vs, h => by
    have h1 : v ≠ i := fun z => h (by simp [z])
    rw [wipeD, List.getElem?_set_ne h1]
    exact wipeD_out fun z => h (by simp [z])
theorem Rst.wipe (R0 : Rst B S H σ δ) : ∀ vs : List Nat, Rst B S H (L2.wipe σ vs) (wipeD δ vs)
  | [] => R0
  | v :: vs => (Rst.wipe R0 vs).drop v none
theorem wipe_eq {σ σ2 : L2.St} {vs : List Nat} (h : L2.wipe σ2 vs = L2.wipe σ vs) {i : Nat} (hi : i ∉ vs) : σ2[i]? = σ[i]? := by
  rw [← wipe_out (σ := σ2) hi, ← wipe_out (σ := σ) hi, h]
/-- back from a block: its names as they were -/
theorem Rst.back {S' H' : Hp} {σ2 : L2.St} {δ2 : En} {vs : List Nat} (R0 : Rst B S H σ δ) (s : Same S S') (R2 : Rst B S' H' σ2 δ2) (hδ : ∀ i, i ∉ vs → δ2[i]? = δ[i]?) (hσ : ∀ i, i ∉ vs → σ2[i]? = σ[i]?) (hm : noMut δ vs = true) : Rst B S' H' σ δ := by
  have mtb : ∀ i c, δ[i]? = some (some c) → ((∃ ds, c = .own ds) ∨ c = .feed ∨ ∃ a, c = .pin a) → i ∉ vs := fun i c h1 h2 h3 => by
    have := List.all_eq_true.mp hm i h3
    rcases h2 with ⟨ds, rfl⟩ | rfl | ⟨a, rfl⟩
    · rw [h1] at this; cases this
    · rw [h1] at this; cases this
    · rw [h1] at this; cases this
  refine ⟨R2.ex, R2.gr, R2.new, R2.keep, R2.fed, R0.len, fun i c q => ?_, fun i j a ds es hij h1 h2 h3 h4 => ?_⟩
  · cases c with
    | dat d =>
      obtain ⟨v, e1, e2⟩ := R0.at_ i _ q
      exact ⟨v, e1, Rep.up e2 s⟩
    | own ds =>
      have ho := mtb i _ q (.inl ⟨ds, rfl⟩)
      obtain ⟨v, e1, e2⟩ := R2.at_ i (.own ds) ((hδ i ho).trans q)
      exact ⟨v, (hσ i ho).symm.trans e1, e2⟩
    | pin a =>
      have ho := mtb i _ q (.inr (.inr ⟨a, rfl⟩))
      obtain ⟨v, e1, e2⟩ := R2.at_ i (.pin a) ((hδ i ho).trans q)
      exact ⟨v, (hσ i ho).symm.trans e1, e2⟩
    | feed =>
      have ho := mtb i _ q (.inr (.inl rfl))
      obtain ⟨v, e1, e2⟩ := R2.at_ i .feed ((hδ i ho).trans q)
      exact ⟨v, (hσ i ho).symm.trans e1, e2⟩
  · exact R0.sep i j a ds es hij h1 h2 h3 h4
/-- a list that nobody holds is pinned by the entry -/
def pinE (B : Ent) (p : Addr) (xs : List V) : Ent := ⟨B.S0, upd B.H0 p (.lst xs), B.f⟩
theorem Rst.pin {p : Addr} {xs : List V} (R0 : Rst B S H σ δ) (h1 : S p = none) (h2 : H p = some (.lst xs)) (h3 : B.f ≠ some p) (h4 : ∀ (i : Nat) c, δ[i]? = some (some (.own c)) → σ[i]? ≠ some (some (.ref p))) : Rst (pinE B p xs) S H σ δ where
  ex := R0.ex
  gr := R0.gr
  new := fun a o q => by
    have hp : a ≠ p := fun z => by subst z; rw [h1] at q; cases q
    rcases R0.new a o q with z | z
    · exact .inl z
    · exact .inr (by show upd B.H0 p _ a = none; rw [upd_ne hp]; exact z)
  keep := fun a o q hf => by
    by_cases hp : a = p
    · subst hp
      have q' : upd B.H0 a (.lst xs) a = some o := q
      rw [upd_same] at q'
      cases q'
      exact h2
    · have q' : upd B.H0 p (.lst xs) a = some o := q
      rw [upd_ne hp] at q'
      exact R0.keep a o q' hf
  fed := fun a q => by
    obtain ⟨z1, z2, z3⟩ := R0.fed a q
    refine ⟨?_, z2, z3⟩
    show upd B.H0 p _ a ≠ none
    rw [upd_ne (fun z => h3 (by rw [← z]; exact q))]
    exact z1
  len := R0.len
  at_ := fun i c q => by
    obtain ⟨v, e1, e2⟩ := R0.at_ i c q
    refine ⟨v, e1, ?_⟩
    cases c with
    | dat d => exact e2
    | pin b => exact e2
    | own ds =>
      obtain ⟨a, ys, y1, y2, y3, y4, y5⟩ := e2
      subst y1
      refine ⟨a, ys, rfl, y2, y3, y4, ?_⟩
      show upd B.H0 p _ a = none
      rw [upd_ne (fun z => by subst z; exact h4 i _ q e1)]
      exact y5
    | feed => exact e2
  sep := R0.sep
theorem Rst.unpin {p : Addr} {xs : List V} (R0 : Rst (pinE B p xs) S H σ δ) (h0 : B.S0 p = none) (h1 : B.H0 p = none) (h3 : B.f ≠ some p) : Rst B S H σ δ ∧ S p = none ∧ H p = some (.lst xs) ∧ ∀ (i : Nat) c, δ[i]? = some (some (.own c)) → σ[i]? ≠ some (some (.ref p)) := by
  have hs : (pinE B p xs).H0 p = some (.lst xs) := upd_same
  have hn : S p = none := by
    cases z : S p with
    | none => rfl
    | some o =>
      rcases R0.new p o z with y | y
      · have y' : B.S0 p = some o := y
        rw [h0] at y'; cases y'
      · rw [hs] at y; cases y
  have back : ∀ a, (pinE B p xs).H0 a = none → B.H0 a = none := fun a q => by
    have hp : a ≠ p := fun z => by subst z; rw [hs] at q; cases q
    have q' : upd B.H0 p (.lst xs) a = none := q
    rw [upd_ne hp] at q'
    exact q'
  refine ⟨⟨R0.ex, R0.gr, fun a o q => ?_, fun a o q hf => ?_, fun a q => ?_, R0.len, fun i c q => ?_, R0.sep⟩, hn, R0.keep p _ hs h3, fun i c q z => ?_⟩
  · rcases R0.new a o q with y | y
    · exact .inl y
    · exact .inr (back a y)
  · have hp : a ≠ p := fun z => by subst z; rw [h1] at q; cases q
    exact R0.keep a o (by show upd B.H0 p _ a = _; rw [upd_ne hp]; exact q) hf
  · obtain ⟨z1, z2, z3⟩ := R0.fed a q
    refine ⟨?_, z2, z3⟩
    have hp : a ≠ p := fun z => h3 (by rw [← z]; exact q)
    have z1' : upd B.H0 p (.lst xs) a ≠ none := z1
    rw [upd_ne hp] at z1'
    exact z1'
  · obtain ⟨v, e1, e2⟩ := R0.at_ i c q
    refine ⟨v, e1, ?_⟩
    cases c with
    | dat d => exact e2
    | pin b => exact e2
    | own ds =>
      obtain ⟨a, ys, y1, y2, y3, y4, y5⟩ := e2
      exact ⟨a, ys, y1, y2, y3, y4, back a y5⟩
    | feed => exact e2
  · obtain ⟨v, e1, a, ys, y1, y2, y3, y4, y5⟩ := R0.at_ i _ q
    rw [z] at e1
    cases e1
    cases y1
    rw [hs] at y5
    cases y5
theorem wipe_get {σ : L2.St} {i : Nat} : ∀ {vs : List Nat}, (L2.wipe σ vs)[i]? = if i ∈ vs then (if i < σ.length then some none else none) else σ[i]?
  | [] => by simp [L2.wipe]
  | v :: vs => by
    have ih := wipe_get (σ := σ) (i := i) (vs := vs)
    show ((L2.wipe σ vs).set v none)[i]? = _
    by_cases e : v = i
    · subst e
      by_cases hl : v < σ.length
      · rw [List.getElem?_set_self (by rw [wipe_length]; exact hl)]
        simp [hl]
      · rw [List.getElem?_eq_none (by rw [List.length_set, wipe_length]; omega)]
        simp [hl]
    · rw [List.getElem?_set_ne e, ih]
      have e' : ¬ i = v := fun z => e z.symm
      simp [e']
theorem wipe_set {σ : L2.St} {j : Nat} {x : Option V} {vs : List Nat} (h : j ∈ vs) : L2.wipe (σ.set j x) vs = L2.wipe σ vs := by
  apply List.ext_getElem?
  intro i
  rw [wipe_get, wipe_get, List.length_set]
  by_cases c : i ∈ vs
  · rw [if_pos c, if_pos c]
  · rw [if_neg c, if_neg c, List.getElem?_set_ne (fun z => c (by rw [← z]; exact h))]
theorem wipe_wipe {σ : L2.St} {vs : List Nat} : L2.wipe (L2.wipe σ vs) vs = L2.wipe σ vs := by
  apply List.ext_getElem?
  intro i
  rw [wipe_get, wipe_length]
  by_cases c : i ∈ vs
  · rw [if_pos c, wipe_get, if_pos c]
  · rw [if_neg c]
/-- a block's target: it stores the block's own names alone -/
def BlkG (g : DTG) (tgl : TG) (vs : List Nat) : Prop := ∀ (B : Ent) (S H : Hp) (σ : L2.St) (δ : En) (v : V) (d : D) (P : En → Prop) (Q : L2.St → Hp → Prop), Rst B S H σ δ → Rep S v d → g d δ P →
  (∀ σ' δ', P δ' → Rst B S H σ' δ' → (∀ i, i ∉ vs → δ'[i]? = δ[i]?) → L2.wipe σ' vs = L2.wipe σ vs → Q σ' H) → tgl v σ H Q
theorem blk_name {j : Nat} {vs : List Nat} (h : j ∈ vs) : BlkG (dgName j) (gName j) vs := fun B S H σ δ v d P Q R0 r q k =>
  k _ _ q (R0.put j r) (fun i hi => List.getElem?_set_ne (fun z => hi (by rw [← z]; exact h))) (wipe_set h)
theorem blk_pair {K : PySem.W.Frag} {i j : Nat} {vs : List Nat} (h1 : i ∈ vs) (h2 : j ∈ vs) : BlkG (dgTup 2 (dgCons (dgName i) (dgCons (dgName j) dgNil))) (gTup K 2 (gCons (gName i) (gCons (gName j) gNil))) vs := fun B S H σ δ v d P Q R0 r q k => by
  cases r with
  | tup e1 e2 =>
    obtain ⟨q1, q2⟩ : _ = 2 ∧ dgCons (dgName i) (dgCons (dgName j) dgNil) _ δ P := q
    cases e2 with
    | nil => cases q1
    | cons a b =>
      cases b with
      | nil => cases q1
      | cons a2 b2 =>
        cases b2 with
        | cons _ _ => simp at q1
        | nil =>
          refine ⟨_, _, rfl, SqT.of (R0.ex _ _ e1), rfl, _, _, rfl, _, _, rfl, rfl, ?_⟩
          refine k _ _ q2 ((R0.put i a).put j a2) (fun m hm => ?_) ?_
          · rw [List.getElem?_set_ne (fun z => hm (by rw [← z]; exact h2)), List.getElem?_set_ne (fun z => hm (by rw [← z]; exact h1))]
          · rw [wipe_set h2, wipe_set h1]
  | non => exact (show False from q).elim
  | bl _ => exact (show False from q).elim
  | int _ => exact (show False from q).elim
  | str _ => exact (show False from q).elim
  | lst _ _ => exact (show False from q).elim
def anyT (t : DTT) : TT := fun σ H Q => ∃ B, liftT B t σ H Q
def anyE (t : DTE) : TE := fun σ H Q => ∃ B, lift B t σ H Q
theorem pt_any {t : DTT} (h : ∀ B, PT X e (liftT B t)) : PT X e (anyT t) := ⟨fun pins s σ H Q I ⟨B, q⟩ => (h B).run pins s σ H Q I q⟩
theorem pe_any (h : ∀ B, PE X e (lift B te)) : PE X e (anyE te) := ⟨fun pins s σ H Q I ⟨B, q⟩ => (h B).run pins s σ H Q I q⟩
theorem pts_nilD : PTs X [] (anyT dYes) := ⟨fun pins s σ H Q I ⟨B, S, δ, P, R0, h, k⟩ => pts_nil.run pins s σ H Q I (k _ δ S H h (Same.refl S) R0)⟩
theorem pts_oneD {c : Expr} {t : DTT} (h : ∀ B, PT X c (liftT B t)) : PTs X [c] (anyT t) := pts_one (pt_any h)
/-- the reading of a comprehension -/
theorem lift_lc {tt : DTT} {vs : List Nat} {Q : VK} {tgl : TG} (hG : BlkG g tgl vs) (h : liftL B (dLc ti g tt te vs) σ H Q) : tLc (liftI B ti) tgl (anyT tt) (anyE te) vs σ H Q := by
  obtain ⟨S, δ, P, R0, h, k⟩ := h
  refine ⟨S, δ, _, R0, h, fun ds δ1 S1 H1 J q s1 R1 src p hp => ?_⟩
  obtain ⟨hm, q⟩ := q
  have fp := R1.free hp
  have F0 : ∀ (i : Nat) c, δ1[i]? = some (some (.own c)) → σ[i]? ≠ some (some (.ref p)) := fun i c hi hs => by
    obtain ⟨v, e1, a, ys, e2, e3, e4, _⟩ := R1.at_ i _ hi
    rw [hs] at e1
    cases e1
    cases e2
    rw [hp] at e4
    cases e4
  have n0 : B.S0 p = none := same_back R1.gr fp.1
  let I : Nat → Hp → Prop := fun i H => i ≤ ds.length ∧ ∃ (xs : List V) (acc : List D) (S2 : Hp), Same S1 S2 ∧ Rst B S2 H σ δ1 ∧ S2 p = none ∧ H p = some (.lst xs) ∧ Reps S2 xs acc ∧ lcL g tt te (wipeD δ1 vs) (ds.drop i) acc fun out => P out δ1
  refine ⟨fun i m H => m = ds.length - i ∧ I i H, ⟨_, rfl, Nat.zero_le _, [], [], S1, Same.refl _, R1.junk hp, fp.1, upd_same, .nil, q⟩, ?_⟩
  rintro i m H2 ⟨hm2, hi, xs, acc, S2, s2, R2, p2, hx, rx, q2⟩
  by_cases e : i = ds.length
  · subst e
    rw [List.drop_length] at q2
    exact .inl ⟨src.stop H2 (s2.trans R2.ex), k acc δ1 S2 H2 p xs q2 (s1.trans s2) R2 ⟨p2, hx, fp.2.1, F0⟩ rx⟩
  · have hl : i < ds.length := by omega
    have hd : ds.drop i = ds[i] :: ds.drop (i + 1) := List.drop_eq_getElem_cons hl
    rw [hd] at q2
    refine .inr ⟨src.go i H2 (s2.trans R2.ex) hl, fun H3 => I (i + 1) H3, fun H3 z => ⟨ds.length - (i + 1), by omega, rfl, z⟩, fun x H3 y => ?_⟩
    obtain ⟨S3, s3, x3, k3, n3, r3⟩ := src.yld i H2 x H3 S2 s2 R2.ex y _ (List.getElem?_eq_getElem hl)
    have R3 : Rst B S3 H3 σ δ1 := R2.grow s3 x3 k3 n3
    have p3 : S3 p = none := by
      cases z : S3 p with
      | none => rfl
      | some o =>
        rcases n3 p o z with w | w
        · rw [p2] at w; cases w
        · rw [hx] at w; cases w
    have R4 : Rst (pinE B p xs) S3 H3 (L2.wipe σ vs) (wipeD δ1 vs) := (R3.pin p3 (k3 _ _ hx) fp.2.2 F0).wipe vs
    refine hG _ S3 H3 _ _ x _ _ _ R4 r3 q2 fun σ4 δ4 q4 R5 o4 w4 => ⟨by rw [w4, wipe_wipe], pinE B p xs, S3, δ4, _, R5, q4, fun b δ5 S5 H5 q5 s5 R6 => ?_⟩
    have sg : ∀ i, i ∉ vs → σ4[i]? = σ[i]? := fun i hi' => by
      have w5 : L2.wipe σ4 vs = L2.wipe σ vs := by rw [w4, wipe_wipe]
      exact wipe_eq w5 hi'
    have dg : ∀ i, i ∉ vs → δ4[i]? = δ1[i]? := fun i hi' => (o4 i hi').trans (wipeD_out hi')
    -- a state behind the turn's part, back at the frame's own names
    have back : ∀ S6 H6, Same S3 S6 → Rst (pinE B p xs) S6 H6 σ4 δ4 → Rst B S6 H6 σ δ1 ∧ S6 p = none ∧ H6 p = some (.lst xs) := fun S6 H6 s6 R7 => by
      obtain ⟨R8, y1, y2, _⟩ := R7.unpin n0 fp.2.1 fp.2.2
      exact ⟨R1.back ((s2.trans s3).trans s6) R8 dg sg hm, y1, y2⟩
    obtain ⟨rfl, q6⟩ := q5
    cases b with
    | false =>
      show I (i + 1) H5
      have q7 : lcL g tt te (wipeD δ1 vs) (ds.drop (i + 1)) acc fun out => P out δ1 := q6
      obtain ⟨z1, z2, z3⟩ := back S5 H5 s5 R6
      exact ⟨by omega, xs, acc, S5, (s2.trans s3).trans s5, z1, z2, z3, Reps.up rx (s3.trans s5), q7⟩
    | true =>
      have q7 : te δ5 fun r δ3 => δ3 = δ5 ∧ (match r with
        | .dat y => acc.length < 100000 ∧ lcL g tt te (wipeD δ1 vs) (ds.drop (i + 1)) (acc ++ [y]) fun out => P out δ1
        | .box _ => False) := q6
      show anyE te σ4 H5 fun y H4 => ∃ acc, H4 p = some (.lst acc) ∧ acc.length < sizeLine ∧ I (i + 1) (upd H4 p (.lst (acc ++ [y])))
      refine ⟨pinE B p xs, S5, δ5, _, R6, q7, fun r δ6 S6 H6 v6 q8 s6 R7 r6 => ?_⟩
      obtain ⟨rfl, q9⟩ := q8
      cases r with
      | box _ => exact q9.elim
      | dat y =>
        obtain ⟨hlen, q10⟩ : acc.length < 100000 ∧ lcL g tt te (wipeD δ1 vs) (ds.drop (i + 1)) (acc ++ [y]) (fun out => P out δ1) := q9
        obtain ⟨z1, z2, z3⟩ := back S6 H6 (s5.trans s6) R7
        have rx6 : Reps S6 xs acc := Reps.up rx ((s3.trans s5).trans s6)
        refine ⟨xs, z3, by rw [rx6.len]; exact size5l hlen, by omega, xs ++ [v6], acc ++ [y], S6, ((s2.trans s3).trans s5).trans s6, ?_, z2, upd_same, Reps.app rx6 (.cons r6 .nil), q10⟩
        obtain ⟨w1, w2, w3, w4'⟩ := R7.unpin n0 fp.2.1 fp.2.2
        refine ⟨same_mut z1.ex z2, z1.gr, z1.new, fun a o qa hf => ?_, fun a qa => ?_, z1.len, fun j c qj => ?_, z1.sep⟩
        · rw [upd_ne (fun z => by subst z; rw [fp.2.1] at qa; cases qa)]
          exact z1.keep a o qa hf
        · obtain ⟨u1, u2, u3⟩ := z1.fed a qa
          refine ⟨u1, u2, ?_⟩
          rw [upd_ne (fun z => fp.2.2 (by rw [← z]; exact qa))]
          exact u3
        · obtain ⟨u, u1, u2⟩ := z1.at_ j c qj
          refine ⟨u, u1, ?_⟩
          cases c with
          | dat d => exact u2
          | pin b => exact u2
          | own es =>
            obtain ⟨b, ws, b1, b2, b3, b4, b5⟩ := u2
            subst b1
            refine ⟨b, ws, rfl, b2, ?_, b4, b5⟩
            rw [upd_ne (fun z => by subst z; exact F0 j _ qj u1)]
            exact b3
          | feed =>
            obtain ⟨b, b1, b2, m', p', g', ns, b3, b4, b5⟩ := u2
            refine ⟨b, b1, b2, m', p', g', ns, ?_, b4, b5⟩
            rw [upd_ne (fun z => fp.2.2 (by rw [← z]; exact b2))]
            exact b3
end
end DL
end
section
set_option Elab.async false
set_option linter.all false
set_option maxRecDepth 100000
set_option maxHeartbeats 2000000
/-! comprehensions as rules; promises of defs over plain data; calls -/
namespace DL
open PySem PySem.Spec PyProof.Rows L2

section
variable {X : Cx} {B : Ent} {S H : Hp} {σ : L2.St} {δ : En} {v : V} {r : R} {tg e a b elt iter : Expr} {es : List Expr} {te ta tb : DTE} {tr ti : DTA} {pos spos p p2 py : Pos} {st : Stmt} {rest : List Stmt} {t u : DTS} {g : DTG} {gs : DTGs} {ifs : List Expr} {scope : Scope} {own : List (Str × Nat)} {tgl : TG} {tt : DTT}
/-- [elt for tg in iter if ..] -/
theorem dl_lc {vs : List Nat} (own : List (Str × Nat)) (hc : X.calm = true) (hN : X.N.Nodup) (hi : PI X tg iter (liftI B ti)) (ok : BlkOk X.N X.env.scope scope own) (hG : BlkG g tgl vs)
    (hg : ∀ (s : Shared) (H : Hp) (C : Addr) (cl : List (Str × Addr)) (fp : List Addr), PG (X.blk s H scope (compEnvC scope cl C X.env) fp) tg tgl)
    (ht : ∀ (s : Shared) (H : Hp) (C : Addr) (cl : List (Str × Addr)) (fp : List Addr), PTs (X.blk s H scope (compEnvC scope cl C X.env) fp) ifs (anyT tt))
    (he : ∀ (B : Ent) (s : Shared) (H : Hp) (C : Addr) (cl : List (Str × Addr)) (fp : List Addr), PE (X.blk s H scope (compEnvC scope cl C X.env) fp) elt (lift B te))
    (hs : ∀ x, foldedSetIterable iter X.env x = pure x := by intro _; rfl) (hvs : own.map (·.2) = vs := by rfl) : PE X (.ListComp elt [⟨tg, iter, ifs, 0⟩] scope pos) (liftL B (dLc ti g tt te vs)) := by
  subst hvs
  exact
  PE.imp (pe_lc hc hN hi ok hg ht (fun s H C cl fp => pe_any fun B => he B s H C cl fp) hs) fun σ H Q h => lift_lc hG h
/-- y = [..], y a local, on one line -/
theorem ds_setLc {i : Nat} {y : Str} {vs : List Nat} (own : List (Str × Nat)) (hc : X.calm = true) (hN : X.N.Nodup) (hi : PI X tg iter (liftI B ti)) (ok : BlkOk X.N X.env.scope scope own) (hG : BlkG g tgl vs)
    (hg : ∀ (s : Shared) (H : Hp) (C : Addr) (cl : List (Str × Addr)) (fp : List Addr), PG (X.blk s H scope (compEnvC scope cl C X.env) fp) tg tgl)
    (ht : ∀ (s : Shared) (H : Hp) (C : Addr) (cl : List (Str × Addr)) (fp : List Addr), PTs (X.blk s H scope (compEnvC scope cl C X.env) fp) ifs (anyT tt))
    (he : ∀ (B : Ent) (s : Shared) (H : Hp) (C : Addr) (cl : List (Str × Addr)) (fp : List Addr), PE (X.blk s H scope (compEnvC scope cl C X.env) fp) elt (lift B te))
    (hsw : swapsWith (.ListComp elt [⟨tg, iter, ifs, 0⟩] scope pos) (some (.Name y py)) spos.line X.env = pure true) (hy : X.N[i]? = some y := by rfl) (hyl : X.env.scope.names.lookup y = some .local := by rfl)
    (hs : ∀ x, foldedSetIterable iter X.env x = pure x := by intro _; rfl) (hvs : own.map (·.2) = vs := by rfl) : PS X (.Assign [.Name y py] (.ListComp elt [⟨tg, iter, ifs, 0⟩] scope pos) spos) (liftS B (dAsgL i (dLc ti g tt te vs))) := by
  subst hvs
  exact
  PS.imp (ps_setLc hc hN hy hyl hsw hi ok hg ht (fun s H C cl fp => pe_any fun B => he B s H C cl fp) hs) fun D σ H h => lift_lc hG (lift_setL h)
end

/-! ### promises -/
abbrev DC := List D → (D → Prop) → Prop
/-- what is handed back is data; nothing else is touched -/
structure Out (S H : Hp) (S' H' : Hp) : Prop where
  s1 : Same S S'
  s2 : Same S' H'
  k : Same H H'
  n : ∀ a o, S' a = some o → S a = some o ∨ H a = none
def pureSp (C : DC) : Sp := fun vs H Q _ => ∃ S ds P, Same S H ∧ Reps S vs ds ∧ C ds P ∧ ∀ d S' H' v, P d → Out S H S' H' → Rep S' v d → Q v H'
/-- the first argument is the law's feed, which turns -/
def feedSp (C : DC) : Sp := fun vs H Q _ => ∃ S f us ds P, vs = .ref f :: us ∧ Same S H ∧ S f = none ∧ FeedAt S H f ∧ Reps S us ds ∧ C ds P ∧
  ∀ d S' H' v, P d → Same S S' → Same S' H' → FeedAt S' H' f → (∀ a o, a ≠ f → H a = some o → H' a = some o) → (∀ a o, S' a = some o → S a = some o ∨ H a = none) → Rep S' v d → Q v H'
/-- NotUsable(word, at) has been raised -/
def EofC (Cl : Addr) (H0 : Hp) (xc : V → V → Prop) : XK := fun cls d H' => cls = .ref Cl ∧ Same H0 H' ∧ ∃ dd w a, d = some dd ∧ H' dd = some (.xd [("at", a), ("word", w)]) ∧ xc w a
abbrev DCX := List D → (D → Prop) → (V → V → Prop) → Prop
def pureSpX (Cl : Addr) (C : DCX) : Sp := fun vs H Q E => ∃ S ds P xc, Same S H ∧ Reps S vs ds ∧ C ds P xc ∧ (∀ d S' H' v, P d → Out S H S' H' → Rep S' v d → Q v H') ∧ ∀ cls d H', EofC Cl H xc cls d H' → E cls d H'
def dCall (C : DC) (ta : DTA) : DTE := fun δ Q => ta δ fun ds δ1 => C ds fun d => Q (.dat d) δ1
def dCallF (i : Nat) (C : DC) (ta : DTA) : DTE := fun δ Q => δ[i]? = some (some .feed) ∧ ta δ fun ds δ1 => δ1[i]? = some (some .feed) ∧ C ds fun d => Q (.dat d) δ1
def dCallX (C : DCX) (xc : V → V → Prop) (ta : DTA) : DTE := fun δ Q => ta δ fun ds δ1 => C ds (fun d => Q (.dat d) δ1) xc
def dRaise (xc : V → V → Prop) (ta : DTA) : DTS := fun P δ => ta δ fun ds δ1 => match ds with
  | [.str w, .int i] => xc (.str w) (.int i)
  | _ => False
section
variable {X : Cx} {B : Ent} {S H : Hp} {σ : L2.St} {δ : En} {v : V} {r : R} {e a : Expr} {es : List Expr} {ta : DTA} {pos p py : Pos} {k : Nat} {f : Addr} {fd : FuncData} {ps : List Str} {x y : Str} {C : DC} {CXx : DCX}
theorem Rst.out {S' H' : Hp} (R0 : Rst B S H σ δ) (o : Out S H S' H') : Rst B S' H' σ δ := R0.grow o.s1 o.s2 o.k o.n
theorem de_call (F : FnOk X.prog X.w X.K X.mg X.base CX0 k f fd ps (pureSp C)) (hr : Room k X.A) (hm : X.mg x = some (.ref f)) (hk : PySem.W.keepIn X.K (.ref f) = true) (hb : Binds X.K fd ps []) (ha : PA X (e :: es) (liftA B ta)) (hg : Gl X x := by rfl)
    (hdb : (x == ("__debug__" : Str)) = false := by decide) (he : starEach (e :: es) X.env = (false, eval e X.env) :: starEach es X.env := by rfl) (hpl : (backTo pos (starEach es X.env)).any (·.1) = false := by rfl) :
    PE X (.Call (.Name x p) (e :: es) [] pos) (lift B (dCall C ta)) :=
  PE.imp (pe_call F hr hg hm hk hb .nil pass0 ha hdb he hpl) fun σ H Q ⟨S, δ, P, R0, h, k⟩ => ⟨S, δ, _, R0, h, fun ds δ1 S1 H1 vs q s1 R1 r1 => by
    show pureSp C (vs ++ []) H1 Q E0
    rw [List.append_nil]
    exact ⟨S1, ds, _, R1.ex, r1, q, fun d S2 H2 v q2 o r2 => k _ δ1 S2 H2 v q2 (s1.trans o.s1) (R1.out o) r2⟩⟩
theorem de_callF (i : Nat) (F : FnOk X.prog X.w X.K X.mg X.base CX0 k f fd ps (feedSp C)) (hr : Room k X.A) (hm : X.mg x = some (.ref f)) (hk : PySem.W.keepIn X.K (.ref f) = true) (hb : Binds X.K fd ps []) (ha : PA X es (liftA B ta)) (hN : X.N[i]? = some y := by rfl) (hg : Gl X x := by rfl)
    (hv : Vis X.env.scope y := by first | exact Or.inl rfl | exact Or.inr (Or.inl rfl) | exact Or.inr (Or.inr rfl)) (hd : (y == ("__debug__" : Str)) = false := by decide) (hcd : (y == ("__classdict__" : Str)) = false := by decide)
    (hdb : (x == ("__debug__" : Str)) = false := by decide) (he : starEach (.Name y py :: es) X.env = (false, eval (.Name y py) X.env) :: starEach es X.env := by rfl) (hpl : (backTo pos (starEach es X.env)).any (·.1) = false := by rfl) :
    PE X (.Call (.Name x p) (.Name y py :: es) [] pos) (lift B (dCallF i C ta)) :=
  PE.imp (pe_call F hr hg hm hk hb .nil pass0 (pa_cons (pv i hN hv hd hcd) ha he) hdb he hpl) fun σ H Q ⟨S, δ, P, R0, ⟨hf, h⟩, k⟩ => by
    obtain ⟨v, e1, fa, e2, e3, _⟩ := R0.at_ i _ hf
    subst e2
    refine ⟨.ref fa, e1, S, δ, _, R0, h, fun ds δ1 S1 H1 vs q s1 R1 r1 => ?_⟩
    obtain ⟨hf1, q⟩ := q
    show feedSp C ((.ref fa :: vs) ++ []) H1 Q E0
    rw [List.append_nil]
    obtain ⟨v', e1', fb, e2', e3', g0⟩ := R1.at_ i _ hf1
    rw [e1] at e1'
    cases e1'
    cases e2'
    exact ⟨S1, fa, vs, ds, _, rfl, R1.ex, (R1.fed fa e3).2.1, g0, r1, q, fun d S2 H2 v q2 t1 t2 g2 k2 n2 r2 => k _ δ1 S2 H2 v q2 (s1.trans t1) (R1.turned hf1 e1 t1 t2 g2 k2 n2) r2⟩
/-- from a def that may raise -/
theorem de_callX {Cl : Addr} {xc : V → V → Prop} (F : FnOk X.prog X.w X.K X.mg X.base (L2.CX X.prog X.w) k f fd ps (pureSpX Cl CXx)) (hr : Room k X.A) (hm : X.mg x = some (.ref f)) (hk : PySem.W.keepIn X.K (.ref f) = true) (hb : Binds X.K fd ps []) (hx : Passes (L2.CX X.prog X.w) X (EofC Cl B.H0 xc)) (hB : B.f = none) (ha : PA X (e :: es) (liftA B ta)) (hg : Gl X x := by rfl)
    (hdb : (x == ("__debug__" : Str)) = false := by decide) (he : starEach (e :: es) X.env = (false, eval e X.env) :: starEach es X.env := by rfl) (hpl : (backTo pos (starEach es X.env)).any (·.1) = false := by rfl) :
    PE X (.Call (.Name x p) (e :: es) [] pos) (lift B (dCallX CXx xc ta)) :=
  PE.imp (pe_call F hr hg hm hk hb .nil hx ha hdb he hpl) fun σ H Q ⟨S, δ, P, R0, h, k⟩ => ⟨S, δ, _, R0, h, fun ds δ1 S1 H1 vs q s1 R1 r1 => by
    show pureSpX Cl CXx (vs ++ []) H1 Q _
    rw [List.append_nil]
    exact ⟨S1, ds, _, xc, R1.ex, r1, q, fun d S2 H2 v q2 o r2 => k _ δ1 S2 H2 v q2 (s1.trans o.s1) (R1.out o) r2, fun cls d H' ⟨z1, z2, z3⟩ => ⟨z1, (fun a o q' => z2 a o (R1.keep a o q' (by rw [hB]; intro y; cases y))), z3⟩⟩⟩
/-- NotUsable.__init__ -/
def spInit (Cl : Addr) : Sp := fun vs H Q _ => ∃ (a : Addr) (w z : V), vs = [.ref a, w, z] ∧ H a = some (exo a Cl none) ∧ ∀ d, H d = none → d ≠ a → Q .non (upd (upd (upd H d (exd d [("word", w)])) a (exo a Cl (some d))) d (exd d [("at", z), ("word", w)]))
theorem ds_raise {Cl fI : Addr} {fdI : FuncData} {xc : V → V → Prop} {W : WX} (hc : X.calm = true) (tk : Takes X W) (hW : ∀ cls d σ H, EofC Cl B.H0 xc cls d H → W cls d σ H) (T : OexC X.K Cl) (iC : PySem.W.findIn X.K (.ref Cl) "__init__" = some (some (.ref fI))) (tI : PySem.W.typeIn X.K (.ref fI) = some (.type "function"))
    (F : FnOk X.prog X.w X.K X.mg X.base CX0 k fI fdI ["self", "word", "at"] (spInit Cl)) (hr : Room (k + 1) X.A) (hb : Binds X.K fdI ["self", "word", "at"] []) (hB : B.f = none) (hm : X.mg x = some (.ref Cl)) (ha : PA X (e :: es) (liftA B ta)) (hg : Gl X x := by rfl)
    (hdb : (x == ("__debug__" : Str)) = false := by decide) (he : starEach (e :: es) X.env = (false, eval e X.env) :: starEach es X.env := by rfl) (hpl : (backTo pos (starEach es X.env)).any (·.1) = false := by rfl) :
    PS X (.Raise (some (.Call (.Name x p) (e :: es) [] pos)) none py) (liftS B (dRaise xc ta)) :=
  PS.imp (ps_raise hc tk (pmk_oex T iC tI F hr hb .nil (fun _ _ _ _ _ _ _ h => h.elim) hg hm ha hdb he hpl)) fun D σ H ⟨S, δ, P, R0, h, k⟩ => ⟨S, δ, _, R0, h, fun ds δ1 S1 H1 vs q s1 R1 r1 => by
    obtain ⟨w, i, rfl, q0⟩ : ∃ w i, ds = [.str w, .int i] ∧ xc (.str w) (.int i) := by
      split at q
      · exact ⟨_, _, rfl, q⟩
      · exact q.elim
    cases r1 with
    | cons c1 c2 =>
      cases c1
      cases c2 with
      | cons c3 c4 =>
        cases c3
        cases c4
        refine ⟨(by decide : 2 ≤ 1000), fun a hna => ⟨a, .str w, .int i, rfl, upd_same, fun d hd hda => ⟨rfl, d, [("at", .int i), ("word", .str w)], ?_, upd_same, ?_, ?_⟩⟩⟩
        · rw [upd_ne (Ne.symm hda), upd_same]
        · rw [upd_ne hda] at hd
          exact hd
        · have hd1 : H1 d = none := by rw [upd_ne hda] at hd; exact hd
          refine hW _ _ _ _ ⟨rfl, fun b o qb => ?_, d, .str w, .int i, rfl, upd_same, q0⟩
          have hb1 := R1.keep b o qb (by rw [hB]; intro y; cases y)
          have nd : b ≠ d := ne_of_none hb1 hd1
          have na : b ≠ a := ne_of_none hb1 hna
          rw [upd_ne nd, del_ne na, upd_ne nd, upd_ne na, upd_ne nd, upd_ne na]
          exact hb1⟩
end
/-! ### defs by their bodies -/
def startD (N : List Str) (ds : List D) : En := ds.map (fun d => some (Cell.dat d)) ++ List.replicate (N.length - ds.length) none
def startF (N : List Str) (ds : List D) : En := some Cell.feed :: startD (N.drop 1) ds
def retE (P : D → Prop) : DEnds := { nx := fun _ => P .non, rt := fun d _ => P d, bk := fun _ => False, ct := fun _ => False }
section
variable {S H : Hp} {N : List Str}
theorem start_get {vs : List V} {ds : List D} (r : Reps S vs ds) (hN : ds.length ≤ N.length) : (L2.start N vs).length = (startD N ds).length ∧ ∀ (i : Nat) c, (startD N ds)[i]? = some (some c) → ∃ v d, (L2.start N vs)[i]? = some (some v) ∧ c = .dat d ∧ Rep S v d := by
  have hl := r.len
  refine ⟨by simp [L2.start, startD, hl], fun i c q => ?_⟩
  unfold startD at q
  by_cases hi : i < ds.length
  · rw [List.getElem?_append_left (by simpa using hi), List.getElem?_map, List.getElem?_eq_getElem hi] at q
    simp only [Option.map_some, Option.some.injEq] at q
    subst q
    obtain ⟨v, e1, e2⟩ := r.get (List.getElem?_eq_getElem hi)
    refine ⟨v, _, ?_, rfl, e2⟩
    unfold L2.start
    rw [List.getElem?_append_left (by simpa [hl] using hi), List.getElem?_map, e1]
    rfl
  · rw [List.getElem?_append_right (by simpa using Nat.le_of_not_lt hi)] at q
    have := List.getElem?_eq_some_iff.mp q
    obtain ⟨_, q2⟩ := this
    simp at q2
theorem rst_start {vs : List V} {ds : List D} (s : Same S H) (r : Reps S vs ds) (hN : ds.length ≤ N.length) : Rst ⟨S, H, none⟩ S H (L2.start N vs) (startD N ds) where
  ex := s
  gr := Same.refl S
  new := fun a o q => .inl q
  keep := fun a o q _ => q
  fed := fun a q => by cases q
  len := (start_get r hN).1
  at_ := fun i c q => by
    obtain ⟨v, d, e1, e2, e3⟩ := (start_get r hN).2 i c q
    subst e2
    exact ⟨v, e1, e3⟩
  sep := fun i j a ds' es hij h1 h2 h3 h4 => by
    obtain ⟨v, d, e1, e2, e3⟩ := (start_get r hN).2 i _ h1
    cases e2
theorem rst_startF {f : Addr} {vs : List V} {ds : List D} {n0 : Str} (s : Same S H) (hf : S f = none) (g : FeedAt S H f) (r : Reps S vs ds) (hN : ds.length ≤ N.length) : Rst ⟨S, H, some f⟩ S H (L2.start (n0 :: N) (.ref f :: vs)) (startF (n0 :: N) ds) := by
  have e : L2.start (n0 :: N) (.ref f :: vs) = some (.ref f) :: L2.start N vs := by simp [L2.start]
  have e2 : startF (n0 :: N) ds = some Cell.feed :: startD N ds := rfl
  rw [e, e2]
  obtain ⟨m, p, g', ns, g1, g2, g3⟩ := g
  refine ⟨s, Same.refl S, fun a o q => .inl q, fun a o q _ => q, fun a q => ?_, by simp [(start_get r hN).1], fun i c q => ?_, fun i j a ds' es hij h1 h2 h3 h4 => ?_⟩
  · cases q
    refine ⟨?_, hf, ?_⟩
    · show H f ≠ none
      rw [g1]; exact fun y => by cases y
    · rw [g1]; exact fun y => by cases y
  · cases i with
    | zero =>
      cases q
      exact ⟨.ref f, rfl, f, rfl, rfl, m, p, g', ns, g1, g2, g3⟩
    | succ i =>
      obtain ⟨v, d, e1, e2, e3⟩ := (start_get r hN).2 i c (by simpa using q)
      subst e2
      exact ⟨v, by simpa using e1, e3⟩
  · cases i with
    | zero => cases h1
    | succ i =>
      obtain ⟨v, d, e1, e2, e3⟩ := (start_get r hN).2 i _ (by simpa using h1)
      cases e2
end
section
variable {P : Program} {w : World} {K : PySem.W.Frag} {mg : Str → Option Value} {base : Heap} {x qual : Str} {params : Arguments} {body : List Stmt} {scope : Scope} {f : Addr} {fd : FuncData} {N ps : List Str} {k : Nat}
theorem fn_pure {C : DC} {t : DTS} (F : FunD K x qual params body scope [] [] f fd) (Sc : FnScope N ps scope) (hl : ∀ ds Q, C ds Q → ds.length = ps.length) (hps : ps.length ≤ N.length)
    (hb : ∀ (cdv : Value) (A : Around) (outer : List Env) (s : Shared) (H : Hp) (E : XK), Room k (A.deeper (envOfC qual scope s.heap.objs.size f cdv)) → ∀ B : Ent, PSs (cxOf CX0 P w K mg base N qual scope f cdv A outer s H E).nox body (liftS B t))
    (hC : ∀ ds Q, C ds Q → t (retE Q) (startD N ds)) : FnOk P w K mg base CX0 (k + 1) f fd ps (pureSp C) :=
  F.ok Sc (fun vs H Q E ⟨S, ds, P', s, r, c, _⟩ => r.len.trans (hl ds P' c)) fun cdv A outer s H vs Q E hr ⟨S, ds, P', s', r, c, k'⟩ => ⟨liftS ⟨S, H, none⟩ t, PSs.nox (hb cdv A outer s H E hr _), S, startD N ds, retE P', rst_start s' r (by rw [hl ds P' c]; exact hps), hC ds P' c,
    ⟨fun δ' S' H' σ' q s1 R1 => k' .non S' H' .non q ⟨R1.gr, R1.ex, fun a o q => R1.keep a o q (fun z => by cases z), R1.new⟩ .non,
     fun d δ' S' H' σ' v q s1 R1 r1 => k' d S' H' v q ⟨R1.gr, R1.ex, fun a o q => R1.keep a o q (fun z => by cases z), R1.new⟩ r1, fun δ' S' H' σ' q s1 R1 => q.elim, fun δ' S' H' σ' q s1 R1 => q.elim⟩⟩
theorem fn_feed {C : DC} {t : DTS} {n0 : Str} (F : FunD K x qual params body scope [] [] f fd) (Sc : FnScope (n0 :: N) ps scope) (hl : ∀ ds Q, C ds Q → ds.length + 1 = ps.length) (hps : ps.length ≤ N.length + 1)
    (hb : ∀ (cdv : Value) (A : Around) (outer : List Env) (s : Shared) (H : Hp) (E : XK), Room k (A.deeper (envOfC qual scope s.heap.objs.size f cdv)) → ∀ B : Ent, PSs (cxOf CX0 P w K mg base (n0 :: N) qual scope f cdv A outer s H E).nox body (liftS B t))
    (hC : ∀ ds Q, C ds Q → t { nx := fun δ => δ[0]? = some (some .feed) ∧ Q .non, rt := fun d δ => δ[0]? = some (some .feed) ∧ Q d, bk := fun _ => False, ct := fun _ => False } (startF (n0 :: N) ds)) : FnOk P w K mg base CX0 (k + 1) f fd ps (feedSp C) :=
  F.ok Sc (fun vs H Q E ⟨S, f', us, ds, P', e, s, hf, g, r, c, _⟩ => by rw [e, List.length_cons, r.len]; exact hl ds P' c) fun cdv A outer s H vs Q E hr ⟨S, f', us, ds, P', e, s', hf, g, r, c, k'⟩ => by
    subst e
    have fin : ∀ d δ' S' H' σ' v, δ'[0]? = some (some .feed) → P' d → Same S S' → Rst ⟨S, H, some f'⟩ S' H' σ' δ' → Rep S' v d → Q v H' := fun d δ' S' H' σ' v q0 q s1 R1 r1 => by
      obtain ⟨u, z1, fa, z2, z3, z4⟩ := R1.at_ 0 _ q0
      cases z3
      exact k' d S' H' v q s1 R1.ex z4 (fun a o ha q' => R1.keep a o q' (fun z => ha (Option.some.inj z).symm)) R1.new r1
    exact ⟨liftS ⟨S, H, some f'⟩ t, PSs.nox (hb cdv A outer s H E hr _), S, startF (n0 :: N) ds, _, rst_startF s' hf g r (by have := hl ds P' c; omega), hC ds P' c,
      ⟨fun δ' S' H' σ' q s1 R1 => fin .non δ' S' H' σ' .non q.1 q.2 s1 R1 .non, fun d δ' S' H' σ' v q s1 R1 r1 => fin d δ' S' H' σ' v q.1 q.2 s1 R1 r1, fun δ' S' H' σ' q s1 R1 => q.elim, fun δ' S' H' σ' q s1 R1 => q.elim⟩⟩
/-- a def that may raise NotUsable; xc: what is wished of it -/
theorem fn_pureX {Cl : Addr} {C : DCX} {t : (V → V → Prop) → DTS} (F : FunD K x qual params body scope [] [] f fd) (Sc : FnScope N ps scope) (hl : ∀ ds Q xc, C ds Q xc → ds.length = ps.length) (hps : ps.length ≤ N.length)
    (hb : ∀ (cdv : Value) (A : Around) (outer : List Env) (s : Shared) (H : Hp) (E : XK), Room k (A.deeper (envOfC qual scope s.heap.objs.size f cdv)) → ∀ (B : Ent) (xc : V → V → Prop), B.f = none → Passes (L2.CX P w) (cxOf (L2.CX P w) P w K mg base N qual scope f cdv A outer s H E) (EofC Cl B.H0 xc) →
      (∀ cls d (σ : L2.St) H', EofC Cl B.H0 xc cls d H' → E cls d H') → PSs (cxOf (L2.CX P w) P w K mg base N qual scope f cdv A outer s H E) body (liftS B (t xc)))
    (hC : ∀ ds Q xc, C ds Q xc → t xc (retE Q) (startD N ds)) : FnOk P w K mg base (L2.CX P w) (k + 1) f fd ps (pureSpX Cl C) :=
  F.ok Sc (fun vs H Q E ⟨S, ds, P', xc, s, r, c, _⟩ => r.len.trans (hl ds P' xc c)) fun cdv A outer s H vs Q E hr ⟨S, ds, P', xc, s', r, c, k', hE⟩ => by
    have tk : Takes (cxOf (L2.CX P w) P w K mg base N qual scope f cdv A outer s H E) (fun cls d _ H => E cls d H) := takes_of rfl rfl rfl rfl
    refine ⟨liftS ⟨S, H, none⟩ (t xc), hb cdv A outer s H E hr _ xc rfl (passes_call tk fun cls d σ H' z => hE cls d H' z) (fun cls d _ H' z => hE cls d H' z), S, startD N ds, retE P', rst_start s' r (by rw [hl ds P' xc c]; exact hps), hC ds P' xc c,
    ⟨fun δ' S' H' σ' q s1 R1 => k' .non S' H' .non q ⟨R1.gr, R1.ex, fun a o q => R1.keep a o q (fun z => by cases z), R1.new⟩ .non,
     fun d δ' S' H' σ' v q s1 R1 r1 => k' d S' H' v q ⟨R1.gr, R1.ex, fun a o q => R1.keep a o q (fun z => by cases z), R1.new⟩ r1, fun δ' S' H' σ' q s1 R1 => q.elim, fun δ' S' H' σ' q s1 R1 => q.elim⟩⟩
end
end DL
end
section
set_option Elab.async false
set_option linter.all false
set_option maxRecDepth 100000
set_option maxHeartbeats 2000000
/-! rules of the machine that the layer lacks: enumerate of a tuple, set of a list of ints, math.lcm -/
namespace DLM
open PySem
/-- enumerate of one argument -/
theorem new_enum {v : Value} {o : Obj} {H : Heap → Prop} (B : Begins v o H) :
    Meets (Builtin.«enumerate.__new__» ⟨[.type "enumerate", v], []⟩) (fun _ R s => H s.heap ∧ R (.ok (.ret (.ref (s.heap.push o).objs.size)))
      { s with heap := (s.heap.push o).push { cls := .type "enumerate", data := .fields #[.none, .bool false, .ref s.heap.objs.size, rawInt 0, .none, .none] } }) :=
  .of_wp fun prog w A R s h => by
    obtain ⟨hp, g, d, tk, os⟩ := s
    obtain ⟨h1, h⟩ := h
    have hsub := sub_enumerate
    have walks : ∀ {A' : Around} {E Q : Value → Shared → Prop}, Q (.ref hp.objs.size) ⟨hp.push o, g, d, tk, os⟩ → wpAny (model prog w) A' (pyIter v) Q E ⟨hp, g, d, tk, os⟩ := fun q => B.iter prog w _ _ _ _ h1 q
    wp_walk using walks
    refine wpAny_stack_any fun st => wpAny_pure ?_
    split
    · rename_i c _ _ _ _ _
      cases (c == Value.type "enumerate") <;> (wp_walk using walks; exact ⟨_, rfl, h⟩)
    · wp_walk using walks
      exact ⟨_, rfl, h⟩
section
variable {prog : Program} {w : World} {A : Around} {E : Value → Shared → Prop} {s : Shared}
theorem call_enum {v : Value} {o : Obj} {H : Heap → Prop} {Q : Value → Shared → Prop} (B : Begins v o H) (h1 : H s.heap)
    (h : ∀ h', IsEnum h' (s.heap.objs.size + 1) s.heap.objs.size 0 .none → h'.get? s.heap.objs.size = some o → (∀ b u, s.heap.get? b = some u → h'.get? b = some u) → Q (.ref (s.heap.objs.size + 1)) { s with heap := h' }) :
    wpAny (model prog w) A (call (.type "enumerate") [v]) Q E s := by
  refine callType_new F.called_enumerate (by decide) (F.typeCall_enumerate_1 _) (F.newCall_enumerate_1 _) (fun obj => F.args_object_init_2 obj _) F.entry_enumerate_new (new_enum B) ⟨h1, ?_⟩
  let en : Obj := { cls := .type "enumerate", data := .fields #[.none, .bool false, .ref s.heap.objs.size, rawInt 0, .none, .none] }
  have hz : (s.heap.push o).objs.size = s.heap.objs.size + 1 := Heap.size_push ..
  show _ ∧ _
  rw [hz]
  have he : IsEnum ((s.heap.push o).push en) (s.heap.objs.size + 1) s.heap.objs.size 0 .none := by
    have q := Heap.get?_push_size (s.heap.push o) (o := en) rfl
    rw [hz] at q
    exact q
  exact ⟨⟨_, he, rfl⟩, h _ he (Heap.get?_push_of_some _ (Heap.get?_push_size _ B.free)) fun b u x => Heap.get?_push_of_some _ (Heap.get?_push_of_some _ x)⟩
end
end DLM
namespace DL
open PySem PySem.Spec PyProof.Rows L2
theorem itu {h : Heap} {a : Addr} {its : Array Value} (p : IsTup h a its) : h.IsTuple a its := let ⟨o, e1, e2, n, e3⟩ := p; ⟨o, e1, e2, n, e3⟩
/-- the tuple at a, each item in a new pair -/
def Iet (K : PySem.W.Frag) (a : Addr) : It :=
  ⟨fun i H => ∃ xs x, SqT K H a xs ∧ xs[i]? = some x, fun i H v H' => ∃ T x, v = .ref T ∧ H T = none ∧ H' = upd H T (.tup [.int (i : Nat), x]) ∧ ∀ xs, SqT K H a xs → xs[i]? = some x, fun i H => ∃ xs : List V, SqT K H a xs ∧ xs.length = i⟩
theorem turn_et {P : Program} {w : World} {K : PySem.W.Frag} {elts : List Expr} {kk : Nat} {tpos : Pos} (a e it : Addr) (hae : a ≠ it) (hae2 : a ≠ e) :
    Turn P w K (.Tuple elts kk tpos) (Iet K a) [e, it] e (fun i h => (∃ old, IsEnum h e it ((i : Nat) : Int) old) ∧ h.IsTupleIter it a i ∧ e ≠ it) where
  mem := List.mem_cons_self
  obj := fun i h st b hb => by
    obtain ⟨⟨old, he⟩, ⟨o, ho, hc, hd⟩, _⟩ := st
    rcases List.mem_cons.mp hb with z | z
    · rw [z]
      exact ⟨_, he, fun v q => nomatch q⟩
    · rw [List.mem_singleton.mp z]
      exact ⟨o, ho, fun v q => by rw [hd] at q; cases q⟩
  keep := fun i h h' st k => ⟨let ⟨old, he⟩ := st.1; ⟨old, k e (by simp) _ he⟩, st.2.1.at fun o q => k it (by simp) o q, st.2.2⟩
  item := fun X hP hw hK hc i pins s σ H E I hf st hg => by
    subst hP hw hK
    obtain ⟨⟨old, he⟩, hit, hne⟩ := st
    obtain ⟨xs, x, hq, hx⟩ := hg
    obtain ⟨its, rv, p, hz⟩ := I.tuple hq
    obtain ⟨u, hu, ru⟩ := rv.get hx
    have hel : e < s.heap.objs.size := Heap.lt_size he
    have hil : it < s.heap.objs.size := by obtain ⟨_, q, _⟩ := hit; exact Heap.lt_size q
    have hlt : i < its.toArray.size := by
      have := (List.getElem?_eq_some_iff.mp hu).1
      simpa using this
    have hea : e ∉ [it, a] := by
      intro z
      rcases List.mem_cons.mp z with z | z
      · exact hne z
      · exact hae2 (List.mem_singleton.mp z).symm
    refine wpAny_pyNext_enum_itemD (Draws.tuple (A := X.A.in1) (by rw [show X.A.in1.handled = X.A.handled from rfl]; exact I.ok.hd hc) it a hae its.toArray) he ⟨hit, (itu p)⟩ hlt hne hea fun y h' tk hy ho hst hT hsz hk => ?_
    have ey : y = u := by
      have h1 : its.toArray[i]? = some y := hy
      have h2 : its.toArray[i]? = some u := by simpa using hu
      rw [h1] at h2
      exact Option.some.inj h2
    subst ey
    refine ⟨_, rfl, wpAny_letOwnedTupleGo_enum (s := { s with heap := h', toks := tk + 1 }) ho fun h'' he' sb => ?_⟩
    have hT2 : h''.get? s.heap.objs.size = some { cls := .type "tuple", data := .seq #[.int i tk, y] } := (sb.2 _ (Nat.ne_of_gt hel)).trans hT
    have new : ObjOk X.prog X.w (upd H s.heap.objs.size (.tup [.int (i : Nat), x])) h'' s.heap.objs.size (.tup [.int (i : Nat), x]) :=
      ⟨(by decide : 2 ≤ sizeLine), [.int i tk, y], .cons ⟨_, rfl⟩ (.cons ru .nil), _, hT2, rfl, _, rfl⟩
    have I1 : Inv X pins σ (upd H s.heap.objs.size (.tup [.int (i : Nat), x])) { s with heap := h'', toks := tk + 1 } :=
      I.turnedNew (ch := [e, it]) (fun b ob hb q => by
        have b1 : b ≠ e := fun z => hb (by simp [z])
        have b2 : b ≠ it := fun z => hb (by simp [z])
        exact (sb.2 b b1).trans (hk b ob b1 b2 q)) hf (Nat.le_refl _) new
    refine ⟨.ref s.heap.objs.size, _, I1, rfl, ⟨_, x, rfl, I.hok.fresh (Nat.le_refl _), rfl, fun ys hy' => by rw [I.tuple_inj hy' hq]; exact hx⟩, ⟨⟨y, ?_⟩, hst.1.at fun o q => (sb.2 it (Ne.symm hne)).trans q, hne⟩, fun b hb => ?_⟩
    · rw [show ((i + 1 : Nat) : Int) = (i : Int) + 1 from by omega]
      exact he'
    · have hb' : b < s.heap.objs.size := by
        rcases List.mem_cons.mp hb with z | z
        · rw [z]; exact hel
        · rw [List.mem_singleton.mp z]; exact hil
      rw [upd_ne (Nat.ne_of_lt hb')]
      exact (hf b hb).1
  done := fun X hP hw hK hc i pins s σ H E I hf st hg => by
    subst hP hw hK
    obtain ⟨⟨old, he⟩, hit, hne⟩ := st
    obtain ⟨xs, hq, hx⟩ := hg
    obtain ⟨its, rv, p, hz⟩ := I.tuple hq
    obtain ⟨f0, f1, f2, f3, f4, f5⟩ := hf it (by simp)
    have hl := rv.length
    have hsz : its.toArray.size = i := by simp; omega
    refine wpAny_pyNext_enum_endD (Draws.tuple (A := X.A.in1) (by rw [show X.A.in1.handled = X.A.handled from rfl]; exact I.ok.hd hc) it a hae its.toArray) he ⟨by rw [hsz]; exact hit, (itu p)⟩ fun h' eb => ⟨rfl, I.turned (t' := s.toks) (fun b o hb q => eb b o hb q) f0 f1 f3 f4 f5⟩
  self := fun A i s Q E st h => let ⟨⟨_, he⟩, _⟩ := st; wpAny_pyIter_enum he h
def iEnumT (K : PySem.W.Frag) (ta : TA) : TI := fun σ H R => ta σ H fun vs H1 => ∃ a xs, vs = [.ref a] ∧ SqT K H1 a xs ∧ R (Iet K a) H1
theorem pi_enumT {X : Cx} {e : Expr} {ta : TA} {p pos tpos : Pos} {elts : List Expr} {kk : Nat} (hg : Gl X "enumerate") (hm : X.mg "enumerate" = none) (ha : PA X [e] ta) (hs : starEach [e] X.env = [(false, eval e X.env)] := by rfl) :
    PI X (.Tuple elts kk tpos) (.Call (.Name "enumerate" p) [e] [] pos) (iEnumT X.K ta) :=
  ⟨fun pins s σ H R I h => Call_ (ld_blt I hg hm boot_enumerate (PyProof.Rows.callWith_type1 (thn (ha.run pos pins s σ H _ I h) fun us s1 ⟨vs, H1, I1, r1, a, xs, ex, hq, q⟩ => by
    subst ex
    rw [Vals.ref1 r1]
    obtain ⟨its, rv, p', hz⟩ := I1.tuple hq
    have hal : a < s1.heap.objs.size := p'.lt
    refine DLM.call_enum (begins_tuple a its.toArray) (itu p') fun h' he hit hk => wpAny_pyIter_enum he ?_
    refine ⟨s1.heap.objs.size + 1, [s1.heap.objs.size + 1, s1.heap.objs.size], _, _, H1, rfl, I1.kept (t' := s1.toks) hk, turn_et a (s1.heap.objs.size + 1) s1.heap.objs.size (Nat.ne_of_lt hal) (Nat.ne_of_lt (Nat.lt_succ_of_lt hal)), ⟨⟨.none, he⟩, ⟨_, hit, rfl, rfl⟩, Nat.succ_ne_self _⟩, fun b hb => ?_, q⟩
    have hle : s1.heap.objs.size ≤ b := by
      rcases List.mem_cons.mp hb with z | z
      · rw [z]; exact Nat.le_succ _
      · rw [List.mem_singleton.mp z]; exact Nat.le_refl _
    exact I1.fpOk hle (I1.hok.fresh hle)) hs rfl))⟩
/-! ### math.lcm -/
theorem cr_lcm {X : Cx} : CallR X (.builtin "math.lcm") (fun vs H Q => ∃ a b : Int, vs = [.int a, .int b] ∧ a.natAbs < 2 ^ 64 ∧ b.natAbs < 2 ^ 64 ∧ Q (.int ((a.natAbs.lcm b.natAbs : Nat) : Int)) H) := fun pins s σ H xs us Q I r h => by
  obtain ⟨a, b, rfl, h1, h2, q⟩ := h
  obtain ⟨t, u, rfl⟩ := Vals.int2 r
  exact PySem.W.mc_lcm h1 h2 fun _ => ⟨.int _, H, I.tok _, ⟨_, rfl⟩, q⟩
end DL
end
section
set_option Elab.async false
set_option linter.all false
set_option maxRecDepth 100000
set_option maxHeartbeats 4000000
/-! set of a list of ints -/
namespace DLM
open PySem PySem.Spec PyProof.Rows L2
/-- the set object as it is made -/
abbrev nso (w : World) : Obj := { cls := .type "set", dict := none, data := .set #[] 0 (.fresh 0 0 (!w.params.followText "set-order")) }
section
variable {P : Program} {w : World} {A : Around} {E : Value → Shared → Prop} {s : Shared}
theorem set_of_list {l : Addr} {items : Array Value} (ns : List Int) {Q : Value → Shared → Prop} (hh : A.handled = none) (hl : s.heap.IsList l items) (hit : IntsAre items.toList ns) (hb : ns.length + 1 < scanBound)
    (h : ∀ (h' : Heap) (tk c : Nat), SetR w h' s.heap.objs.size (fun j => decide (j ∈ ns)) c → c ≤ ns.length → (∀ b o, s.heap.get? b = some o → h'.get? b = some o) → Q (.ref s.heap.objs.size) { s with heap := h', toks := tk }) :
    wpAny (model P w) A (call (.type "set") [.ref l]) Q E s := by
  have hn : items.size = ns.length := by
    have z := IntsAre.length hit
    rwa [Array.length_toList] at z
  obtain ⟨c0, tl, hmro⟩ := F.called_set.mro
  have hmade := F.called_set.made
  have hsub := F.called_set.sub
  refine wpAny_call (codeAny_of_tree ?_)
  show wpAny _ _ (callAny (.type "set") _) _ _ _
  refine wpAny_pure ⟨Code.quiet_builtin _ (by decide +kernel), codeAny_builtin F.entry_type_call ?_⟩
  rw [Around.under_plain (weight_type_call_type "set" [.ref l] []) rfl]
  have k1 := F.called_set.notType
  have k2 := F.called_set.canCreate
  have k3 := F.typeCall_set_1 (.ref l)
  repeat (any_goals (first | assumption | wp_step))
  refine codeAny_mono (code_set_led1 (.ref l) (E := E) (Q₁ := fun obj s₁ => obj = .ref s.heap.objs.size ∧ s₁ = { s with heap := s.heap.push (nso w) }) ⟨rfl, rfl⟩) fun r s₁ hr => ?_
  cases r with
  | error e => exact hr
  | ok fl =>
    cases fl with
    | ret obj =>
      obtain ⟨rfl, rfl⟩ := hr
      have hS : (s.heap.push (nso w)).get? s.heap.objs.size = some (nso w) := Heap.get?_push_size _ rfl
      have hT : Shared.TypeIs { s with heap := s.heap.push (nso w) } (.ref s.heap.objs.size) "set" := ⟨_, hS, rfl⟩
      have i1 := F.called_set.init.lookup
      have i2 := F.called_set.init.bind (.ref s.heap.objs.size)
      repeat (any_goals (first | assumption | wp_step))
      refine codeAny_mono (codeAny_call_builtin (R := wants (fun r s₂ => r = .none ∧ ∃ h' tk c, s₂ = { s with heap := h', toks := tk } ∧ SetR w h' s.heap.objs.size (fun j => decide (j ∈ ns)) c ∧ c ≤ ns.length ∧
          (∀ b o, s.heap.get? b = some o → h'.get? b = some o)) E) F.called_set.init.plain F.entry_set_init (check_set_init_1 hT ?_)) fun r₂ s₂ hr₂ => ?_
      · obtain ⟨ol, hol, hcl, nl, hdl⟩ := hl
        obtain ⟨ocls, odict, odata, oslots⟩ := ol
        simp only at hcl hdl
        subst hcl
        subst hdl
        have hol' : (s.heap.push (nso w)).get? l = some { cls := .type "list", dict := odict, data := .seq items nl, slots := oslots } := Heap.get?_push_of_some _ hol
        have j1 := F.sub_list_set
        have j2 := F.sub_list_frozenset
        have j3 : (Value.type "list" == Value.type "dict") = false := by decide
        have hl1 : (s.heap.push (nso w)).IsList l items := ⟨_, hol', rfl, nl, rfl⟩
        unfold Builtin.«set.__init__» noKeywords Builtin.Frozenset.updateFrom
        generalize hPI : pyIter = PI
        wp_walk
        subst hPI
        refine wpAny_pyIter_list hl1 ?_
        refine wpAny_bind (wpAny_runValue ?_)
        have hlS : l < s.heap.objs.size := Heap.lt_size hol
        have hh3 : A.in1.in1.in1.handled = none := by simp [hh]
        have hz : (s.heap.push (nso w)).objs.size = s.heap.objs.size + 1 := Heap.size_push ..
        have ne1 : l ≠ (s.heap.push (nso w)).objs.size := by rw [hz]; exact Nat.ne_of_lt (Nat.lt_succ_of_lt hlS)
        have ne2 : s.heap.objs.size ∉ [(s.heap.push (nso w)).objs.size, l] := by
          rw [hz]
          simp only [List.mem_cons, List.not_mem_nil, or_false, not_or]
          exact ⟨Nat.ne_of_lt (Nat.lt_succ_self _), Nat.ne_of_gt hlS⟩
        have hval : ∀ (i : Nat) (v : Value), items[i]? = some v → ∃ k t, ns[i]? = some k ∧ v = .int k t := fun i v hv => by
          have hi : i < ns.length := by rw [← hn]; exact (Array.getElem?_eq_some_iff.mp hv).1
          obtain ⟨t, e⟩ := PyProof.Rows.IntsAre.int_at hit i v (by rw [Array.getElem?_toList]; exact hv)
          refine ⟨ns[i], t, List.getElem?_eq_getElem hi, ?_⟩
          rw [e, List.getD_eq_getElem?_getD, List.getElem?_eq_getElem hi]
          rfl
        refine set_update_ints ((Walks.list hh3 _ l ne1 items).toS) s.heap.objs.size ne2 ns hn hb hval (items.size - 0) 0 _ (by omega) (Nat.zero_le _) ⟨⟨_, Heap.get?_push_size _ rfl, rfl, rfl⟩, hl1.push _⟩ ?start ?fin
        case start =>
          exact ⟨0, Nat.le_refl 0, setR_new_at (Heap.get?_push_of_some _ hS)⟩
        case fin =>
          intro s' c' hm hc' hS'
          obtain ⟨h', g2, d', tk', os'⟩ := s'
          have eg : g2 = s.gens := hm.gens
          have ed : d' = s.drawn := hm.drawn
          have eo : os' = s.os := hm.os
          subst eg
          subst ed
          subst eo
          show wpAny _ _ _ _ _ _
          refine wpAny_pure ?_
          show wpAny _ _ (ret Value.none) _ _ _
          rw [hn] at hc'
          refine wpAny_pure ⟨rfl, h', tk', c', rfl, hS', hc', fun b o e => ?_⟩
          have hb0 : b < s.heap.objs.size := Heap.lt_size e
          have hb2 : b ≠ (s.heap.push (nso w)).objs.size := by rw [hz]; exact Nat.ne_of_lt (Nat.lt_succ_of_lt hb0)
          refine hm.heap b o ?_ (Heap.get?_push_of_some _ (Heap.get?_push_of_some _ e))
          simp only [List.mem_cons, List.not_mem_nil, or_false, not_or]
          exact ⟨Nat.ne_of_lt hb0, hb2⟩
      · cases r₂ with
        | error e => exact hr₂
        | ok fl₂ =>
          cases fl₂ with
          | ret r =>
            obtain ⟨rfl, h', tk, c', rfl, hS', hc', hk'⟩ := hr₂
            repeat (any_goals (first | assumption | wp_step))
            exact h _ _ _ hS' hc' hk'
          | _ => exact hr₂.elim
    | _ => exact hr.elim
end
end DLM
end
section
set_option Elab.async false
set_option linter.all false
set_option maxRecDepth 100000
set_option maxHeartbeats 4000000
/-! sorted, lcm, enumerate over plain data -/
namespace DL
open PySem PySem.Spec PyProof.Rows L2
theorem cr_setL {X : Cx} (hc : X.calm = true) : CallR X (.type "set") (fun vs H Q => ∃ (a : Addr) (ns : List Int), vs = [.ref a] ∧ SqL X.K H a (ns.map V.int) ∧ ns.length ≤ 1000 ∧ ∀ p c, H p = none → c ≤ ns.length → Q (.ref p) (upd H p (SetO X.w p (fun j => decide (j ∈ ns)) c))) := fun pins s σ H xs us Q I r h => by
  obtain ⟨a, ns, rfl, hq, hl, q⟩ := h
  rw [Vals.ref1 r]
  obtain ⟨its, rv, p', hz⟩ := I.list hq
  refine DLM.set_of_list ns (I.ok.hd hc) p'.isList (by simpa using Vals.ints rv) (by unfold scanBound; omega) fun h' tk c R hc' k => ?_
  have hn : H s.heap.objs.size = none := I.hok.fresh (Nat.le_refl _)
  exact ⟨.ref s.heap.objs.size, _, I.laid (t' := tk) k (Nat.le_refl _) (setO_new R), rfl, q _ c hn hc'⟩
/-- sorted(set(xs)), xs ints -/
def fSortSet : FL := fun r δ Q => ∃ ns : List Int, lstOf r δ = some (ns.map D.int) ∧ ns.length < 64 ∧ ∀ out : List Int, out.Pairwise (· < ·) → (∀ k, k ∈ out ↔ k ∈ ns) → Q (out.map D.int) δ
section
variable {X : Cx} {B : Ent} {S H : Hp} {σ : L2.St} {δ : En} {v : V} {r : R} {e a b : Expr} {es : List Expr} {te ta tb : DTE} {tr : DTA} {pos p p2 pos2 : Pos}
theorem dl_sortSet (hc : X.calm = true) (hm : X.mg "sorted" = none) (hm2 : X.mg "set" = none) (ha : PE X a (lift B ta)) (hg : Gl X "sorted" := by rfl) (hg2 : Gl X "set" := by rfl)
    (hs : starEach [a] X.env = (false, eval a X.env) :: starEach [] X.env := by rfl) (hs2 : starEach [.Call (.Name "set" p2) [a] [] pos2] X.env = (false, eval (.Call (.Name "set" p2) [a] [] pos2) X.env) :: starEach [] X.env := by rfl) :
    PE X (.Call (.Name "sorted" p) [.Call (.Name "set" p2) [a] [] pos2] [] pos) (liftL B (dUL fSortSet ta)) :=
  PE.imp (pe_callB (cr_sortedSet hc) hg hm (by decide +kernel) (pa_cons (pe_callTy (cr_setL hc) hg2 hm2 (by decide +kernel) (pa_cons ha pa_nil hs) (he := hs) (hpl := rfl)) pa_nil hs2) (he := hs2) (hpl := rfl)) fun σ H Q h => by
    refine lift_oneL (r := fun vs H Q => ∃ (a : Addr) (ns : List Int), vs = [V.ref a] ∧ SqL X.K H a (ns.map V.int) ∧ ns.length ≤ 1000 ∧ ∀ p c, H p = none → c ≤ ns.length → rSortedSet X.w [V.ref p] (upd H p (SetO X.w p (fun j => decide (j ∈ ns)) c)) Q) h fun S H δ v rr P Q R1 r1 q k => ?_
    obtain ⟨ns, hl, h64, q⟩ := q
    obtain ⟨a1, xs, rfl, r3, e3⟩ := lst_ok R1 r1 hl
    have e4 := Reps.ints r3
    subst e4
    refine ⟨a1, ns, rfl, SqL.of e3, by omega, fun p c hp hc' => ?_⟩
    refine ⟨p, _, c, rfl, upd_same, by omega, fun out p' h1 h2 h3 hp' => ?_⟩
    have hm : ∀ k, k ∈ out ↔ k ∈ ns := fun k => by rw [h2 k, decide_eq_true_eq]
    have R2 : Rst B S (upd H p (SetO X.w p (fun j => decide (j ∈ ns)) c)) σ δ := R1.junk hp
    obtain ⟨R4, F4⟩ := fresh_new (xs := out.map V.int) R2 hp'
    exact k _ δ _ _ _ _ (q out h1 hm) (Same.refl S) R4 F4 Reps.of_ints
/-- sorted of a list of pairs of ints -/
theorem reps_pairs {ps : List (Int × Int)} : ∀ {xs : List V}, Reps S xs (ps.map prD) → ∀ x ∈ xs, ∃ t i j, x = .ref t ∧ S t = some (.tup [.int i, .int j]) := by
  induction ps with
  | nil => intro xs h x hx; cases h; cases hx
  | cons q qs ih =>
    intro xs h x hx
    cases h with
    | cons h1 h2 =>
      rcases List.mem_cons.mp hx with rfl | hx
      · obtain ⟨t, e1, e2⟩ := rep_pair h1
        exact ⟨t, _, _, e1, e2⟩
      · exact ih h2 x hx
def keyP (S : Hp) : V → Int × Int
  | .ref t => (match S t with
    | some (.tup [.int i, .int j]) => (i, j)
    | _ => (0, 0))
  | _ => (0, 0)
theorem keyP_of {t : Addr} {i j : Int} (h : S t = some (.tup [.int i, .int j])) : keyP S (.ref t) = (i, j) := by
  show (match S t with
    | some (.tup [.int i, .int j]) => (i, j)
    | _ => (0, 0)) = _
  rw [h]
theorem reps_keys {ps : List (Int × Int)} : ∀ {xs : List V}, Reps S xs (ps.map prD) → xs.map (keyP S) = ps := by
  induction ps with
  | nil => intro xs h; cases h; rfl
  | cons q qs ih =>
    intro xs h
    cases h with
    | cons h1 h2 =>
      obtain ⟨t, rfl, e2⟩ := rep_pair h1
      rw [List.map_cons, ih h2, keyP_of e2]
theorem reps_of_keys : ∀ {xs : List V}, (∀ x ∈ xs, ∃ t i j, x = .ref t ∧ S t = some (.tup [.int i, .int j])) → Reps S xs ((xs.map (keyP S)).map prD)
  | [], _ => .nil
  | x :: xs, h => by
    obtain ⟨t, i, j, rfl, e⟩ := h x (List.mem_cons_self)
    refine .cons ?_ (reps_of_keys fun y hy => h y (List.mem_cons_of_mem _ hy))
    rw [keyP_of e]
    exact .tup e (.cons (.int i) (.cons (.int j) .nil))
theorem dl_sortP (hm : X.mg "sorted" = none) (ha : PE X a (lift B ta)) (hg : Gl X "sorted" := by rfl) (hs : starEach [a] X.env = (false, eval a X.env) :: starEach [] X.env := by rfl) : PE X (.Call (.Name "sorted" p) [a] [] pos) (liftL B (dUL fSortP ta)) :=
  PE.imp (pe_callB cr_sortedPO hg hm (by decide +kernel) (pa_cons ha pa_nil hs) (he := hs) (hpl := rfl)) fun σ H Q h => lift_oneL h fun S H δ v rr P Q R1 r1 q k => by
    obtain ⟨ps, hl, q⟩ := q
    obtain ⟨a1, xs, rfl, r3, e3⟩ := lst_ok R1 r1 hl
    have hx := reps_pairs r3
    refine ⟨a1, xs, keyP S, rfl, SqL.of e3, fun x hm => ?_, fun ys p' hs hb hp' => ?_⟩
    · obtain ⟨t, i, j, rfl, e⟩ := hx x hm
      refine ⟨t, rfl, ?_⟩
      rw [keyP_of e]
      exact R1.ex _ _ e
    · have hy : ∀ y ∈ ys, ∃ t i j, y = V.ref t ∧ S t = some (.tup [.int i, .int j]) := fun y hm => hx y (hb.perm.mem_iff.mp hm)
      have r5 := reps_of_keys hy
      have hperm : (ys.map (keyP S)).Perm ps := by
        have z := hb.perm.map (keyP S)
        rwa [reps_keys r3] at z
      have hsort : (ys.map (keyP S)).Pairwise lexLe := by
        rw [List.pairwise_map]
        have hs' : ys.Pairwise (fun x y => SrtO.lexB (keyP S y) (keyP S x) = false) := hs
        refine hs'.imp fun {x y} hxy => ?_
        have z := SrtO.lexB_no.mp hxy
        unfold lexLe
        omega
      obtain ⟨R4, F4⟩ := fresh_new (xs := ys) R1 hp'
      exact k _ δ _ _ _ _ (q _ hperm hsort) (Same.refl S) R4 F4 r5
/-- lcm of two ints -/
def dLcm (ta : DTA) : DTE := fun δ Q => ta δ fun ds δ1 => match ds with
  | [.int i, .int j] => (i.natAbs < 2 ^ 64 ∧ j.natAbs < 2 ^ 64) ∧ Q (.dat (.int ((Nat.lcm i.natAbs j.natAbs : Nat) : Int))) δ1
  | _ => False
theorem de_lcm (hm : X.mg "lcm" = some (.builtin "math.lcm")) (ha : PA X (a :: es) (liftA B tr)) (hg : Gl X "lcm" := by rfl) (he : starEach (a :: es) X.env = (false, eval a X.env) :: starEach es X.env := by rfl) (hpl : (backTo pos (starEach es X.env)).any (·.1) = false := by rfl) : PE X (.Call (.Name "lcm" p) (a :: es) [] pos) (lift B (dLcm tr)) :=
  PE.imp (pe_callBfun cr_lcm hg hm ha (he := he) (hpl := hpl)) fun σ H Q ⟨S, δ, P, R0, h, k⟩ => ⟨S, δ, _, R0, h, fun ds δ1 S1 H1 vs q s1 R1 r1 => by
    obtain ⟨i, j, rfl, q0⟩ := two_inv (P := fun i j => (i.natAbs < 2 ^ 64 ∧ j.natAbs < 2 ^ 64) ∧ P (.dat (.int ((Nat.lcm i.natAbs j.natAbs : Nat) : Int))) δ1) q
    cases r1 with
    | cons a b =>
      cases a
      cases b with
      | cons a b =>
        cases a
        cases b
        exact ⟨i, j, rfl, q0.1.1, q0.1.2, k _ δ1 S1 H1 _ q0.2 s1 R1 (.int _)⟩⟩
/-! ### enumerate -/
def enD : Nat → List D → List D
  | _, [] => []
  | n, d :: ds => .tup [.int (n : Int), d] :: enD (n + 1) ds
theorem enD_len : ∀ (ds : List D) (n : Nat), (enD n ds).length = ds.length
  | [], _ => rfl
  | d :: ds, n => by rw [enD, List.length_cons, enD_len, List.length_cons]
theorem enD_get : ∀ (ds : List D) (n i : Nat), (enD n ds)[i]? = (ds[i]?).map fun d => D.tup [.int ((n + i : Nat) : Int), d]
  | [], _, _ => by simp [enD]
  | d :: ds, n, 0 => by simp [enD]
  | d :: ds, n, i + 1 => by
    rw [enD, List.getElem?_cons_succ, enD_get ds (n + 1) i, List.getElem?_cons_succ]
    have e : n + 1 + i = n + (i + 1) := by omega
    rw [e]
theorem src_en {K : PySem.W.Frag} {a1 : Addr} {xs : List V} {ds : List D} (ha : S a1 = some (.tup xs)) (r : Reps S xs ds) : Src S (enD 0 ds) (Iet K a1) where
  go := fun i H s hi => by
    rw [enD_len] at hi
    have hl : i < xs.length := by rw [r.len]; exact hi
    exact ⟨xs, xs[i], SqT.of (s _ _ ha), List.getElem?_eq_getElem hl⟩
  stop := fun H s => ⟨xs, SqT.of (s _ _ ha), by rw [enD_len]; exact r.len⟩
  yld := fun i H x H' S1 s s1 y d hd => by
    obtain ⟨T, z, rfl, hT, rfl, y2⟩ := y
    rw [enD_get] at hd
    cases hdi : ds[i]? with
    | none => rw [hdi] at hd; cases hd
    | some d0 =>
      rw [hdi] at hd
      cases hd
      obtain ⟨v, h1, h2⟩ := r.get hdi
      have h3 := y2 xs (SqT.of (s1 _ _ (s _ _ ha)))
      rw [h1] at h3
      cases h3
      have hn : S1 T = none := same_back s1 hT
      have s2 : Same S1 (upd S1 T (.tup [.int (i : Nat), z])) := same_upd hn
      refine ⟨upd S1 T (.tup [.int (i : Nat), z]), s2, same_upd2 s1, same_upd hT, fun a o q => ?_, .tup upd_same (.cons ?_ (.cons (Rep.up h2 (s.trans s2)) .nil))⟩
      · by_cases e : a = T
        · subst e; exact .inr hT
        · rw [upd_ne e] at q; exact .inl q
      · rw [Nat.zero_add]; exact .int _
def dEnumT (te : DTE) : DTA := fun δ Q => te δ fun r δ1 => match r with
  | .dat (.tup ds) => Q (enD 0 ds) δ1
  | _ => False
theorem di_enumT {elts : List Expr} {kk : Nat} {tpos : Pos} (hm : X.mg "enumerate" = none) (he : PE X e (lift B te)) (hg : Gl X "enumerate" := by rfl) (hs : starEach [e] X.env = [(false, eval e X.env)] := by rfl) : PI X (.Tuple elts kk tpos) (.Call (.Name "enumerate" p) [e] [] pos) (liftI B (dEnumT te)) :=
  PI.imp (pi_enumT hg hm (pa_cons he pa_nil hs) hs) fun σ H R ⟨S, δ, P, R0, h, k⟩ => ⟨S, δ, _, R0, h, fun r δ1 S1 H1 v q s1 R1 r1 => by
    obtain ⟨ds, rfl, q0⟩ : ∃ ds, r = .dat (.tup ds) ∧ P (enD 0 ds) δ1 := by
      split at q
      · exact ⟨_, rfl, q⟩
      · exact q.elim
    cases r1 with
    | tup h1 h2 => exact ⟨_, _, rfl, SqT.of (R1.ex _ _ h1), k _ δ1 S1 H1 _ q0 s1 R1 (src_en h1 h2)⟩⟩
end
end DL
end
section
set_option Elab.async false
set_option linter.all false
set_option maxRecDepth 100000
set_option maxHeartbeats 4000000
/-! what the derivations use: calls as facts, the top's names, insert, a walk over a list of one's own -/
namespace DL
open PySem PySem.Spec PyProof.Rows L2
/-- the module's x is a def that keeps the promise -/
def Cal (P : Program) (w : World) (K : PySem.W.Frag) (mg : Str → Option Value) (base : Heap) (CXx : CXT) (k : Nat) (x : Str) (ps : List Str) (sp : Sp) : Prop :=
  ∃ f fd, FnOk P w K mg base CXx k f fd ps sp ∧ mg x = some (.ref f) ∧ PySem.W.keepIn K (.ref f) = true ∧ Binds K fd ps []
structure Txt (K : PySem.W.Frag) (mg : Str → Option Value) : Prop where
  bool_ : mg "bool" = none
  enumerate_ : mg "enumerate" = none
  int_ : mg "int" = none
  isinstance_ : mg "isinstance" = none
  len_ : mg "len" = none
  list_ : mg "list" = none
  max_ : mg "max" = none
  min_ : mg "min" = none
  range_ : mg "range" = none
  set_ : mg "set" = none
  sorted_ : mg "sorted" = none
  str_ : mg "str" = none
  tuple_ : mg "tuple" = none
  gcd_ : mg "gcd" = some (.builtin "math.gcd")
  lcm_ : mg "lcm" = some (.builtin "math.lcm")
structure TxtX (P : Program) (w : World) (K : PySem.W.Frag) (mg : Str → Option Value) (base : Heap) (Cl : Addr) : Prop extends Txt K mg where
  nu : mg "NotUsable" = some (.ref Cl)
  oex : OexC K Cl
  ini : ∃ fI fdI, PySem.W.findIn K (.ref Cl) "__init__" = some (some (.ref fI)) ∧ PySem.W.typeIn K (.ref fI) = some (.type "function") ∧ FnOk P w K mg base CX0 1 fI fdI ["self", "word", "at"] (spInit Cl) ∧ Binds K fdI ["self", "word", "at"] []
theorem hu65 {k : Nat} {A : Around} (hr : Room k A) : A.units + 65 < cLine := by have := hr.un; omega
def retF (P : D → Prop) : DEnds := { nx := fun δ => δ[0]? = some (some .feed) ∧ P .non, rt := fun d δ => δ[0]? = some (some .feed) ∧ P d, bk := fun _ => False, ct := fun _ => False }
section
variable {X : Cx} {B : Ent} {S H : Hp} {σ : L2.St} {δ : En} {v : V} {r : R} {e a : Expr} {es : List Expr} {te : DTE} {ta : DTA} {pos p py : Pos} {k : Nat} {ps : List Str} {x y : Str} {C : DC} {CXx : DCX}
theorem de_callC (c : Cal X.prog X.w X.K X.mg X.base CX0 k x ps (pureSp C)) (hr : Room k X.A) (ha : PA X (e :: es) (liftA B ta)) (hg : Gl X x := by rfl)
    (hdb : (x == ("__debug__" : Str)) = false := by decide) (he : starEach (e :: es) X.env = (false, eval e X.env) :: starEach es X.env := by rfl) (hpl : (backTo pos (starEach es X.env)).any (·.1) = false := by rfl) :
    PE X (.Call (.Name x p) (e :: es) [] pos) (lift B (dCall C ta)) := by
  obtain ⟨f, fd, F, hm, hk, hb⟩ := c
  exact de_call F hr hm hk hb ha hg hdb he hpl
theorem de_callFC (i : Nat) (c : Cal X.prog X.w X.K X.mg X.base CX0 k x ps (feedSp C)) (hr : Room k X.A) (ha : PA X es (liftA B ta)) (hN : X.N[i]? = some y := by rfl) (hg : Gl X x := by rfl)
    (hv : Vis X.env.scope y := by first | exact Or.inl rfl | exact Or.inr (Or.inl rfl) | exact Or.inr (Or.inr rfl)) (hd : (y == ("__debug__" : Str)) = false := by decide) (hcd : (y == ("__classdict__" : Str)) = false := by decide)
    (hdb : (x == ("__debug__" : Str)) = false := by decide) (he : starEach (.Name y py :: es) X.env = (false, eval (.Name y py) X.env) :: starEach es X.env := by rfl) (hpl : (backTo pos (starEach es X.env)).any (·.1) = false := by rfl) :
    PE X (.Call (.Name x p) (.Name y py :: es) [] pos) (lift B (dCallF i C ta)) := by
  obtain ⟨f, fd, F, hm, hk, hb⟩ := c
  exact de_callF i F hr hm hk hb ha hN hg hv hd hcd hdb he hpl
theorem de_callXC {Cl : Addr} {xc : V → V → Prop} (c : Cal X.prog X.w X.K X.mg X.base (L2.CX X.prog X.w) k x ps (pureSpX Cl CXx)) (hr : Room k X.A) (hx : Passes (L2.CX X.prog X.w) X (EofC Cl B.H0 xc)) (hB : B.f = none) (ha : PA X (e :: es) (liftA B ta)) (hg : Gl X x := by rfl)
    (hdb : (x == ("__debug__" : Str)) = false := by decide) (he : starEach (e :: es) X.env = (false, eval e X.env) :: starEach es X.env := by rfl) (hpl : (backTo pos (starEach es X.env)).any (·.1) = false := by rfl) :
    PE X (.Call (.Name x p) (e :: es) [] pos) (lift B (dCallX CXx xc ta)) := by
  obtain ⟨f, fd, F, hm, hk, hb⟩ := c
  exact de_callX F hr hm hk hb hx hB ha hg hdb he hpl
theorem ds_raiseC {Cl : Addr} {xc : V → V → Prop} {W : WX} (hc : X.calm = true) (tk : Takes X W) (hW : ∀ cls d (σ : L2.St) H, EofC Cl B.H0 xc cls d H → W cls d σ H) (T : TxtX X.prog X.w X.K X.mg X.base Cl) (hr : Room 2 X.A) (hB : B.f = none) (ha : PA X (e :: es) (liftA B ta)) (hg : Gl X "NotUsable" := by rfl)
    (he : starEach (e :: es) X.env = (false, eval e X.env) :: starEach es X.env := by rfl) (hpl : (backTo pos (starEach es X.env)).any (·.1) = false := by rfl) :
    PS X (.Raise (some (.Call (.Name "NotUsable" p) (e :: es) [] pos)) none py) (liftS B (dRaise xc ta)) := by
  obtain ⟨fI, fdI, h1, h2, F, hb⟩ := T.ini
  exact ds_raise hc tk hW T.oex h1 h2 F hr hb hB T.nu ha hg (by decide) he hpl
/-! ### insert -/
def insD (ds : List D) (k : Int) (d : D) : List D := ds.take k.toNat ++ d :: ds.drop k.toNat
def dIns (i : Nat) (ta : DTA) : DTS := fun P δ => (∃ ds, δ[i]? = some (some (.own ds))) ∧ ta δ fun as δ1 => match as, δ1[i]? with
  | [.int k, d], some (some (.own ds)) => (ds.length < 100000 ∧ 0 ≤ k ∧ k ≤ 100000) ∧ P.nx (δ1.set i (some (.own (insD ds k d))))
  | _, _ => False
theorem ds_ins {i : Nat} {px apos cpos : Pos} (hN0 : X.N[i]? = some x := by rfl) (ha : PA X (e :: es) (liftA B ta)) (hv : Vis X.env.scope x := by first | exact Or.inl rfl | exact Or.inr (Or.inl rfl) | exact Or.inr (Or.inr rfl)) (hd : (x == ("__debug__" : Str)) = false := by decide)
    (hcd : (x == ("__classdict__" : Str)) = false := by decide)
    (hbase : attributeBase (.Name x px) "insert" X.env (eval (.Name x px) X.env) = eval (.Name x px) X.env := by rfl)
    (hfew : ((backTo cpos (starEach (e :: es) X.env)).all (fun x => !x.1) && (backToKw cpos (keywordEach [] X.env)).all (fun x => x.1.isSome)
      && decide ((e :: es).length + ([] : List Keyword).length + (if ([] : List Keyword).isEmpty then 0 else 1) < 30)) = true := by rfl)
    (hline : (apos.endLine == cpos.line) = true := by rfl) (hs : starEach (e :: es) X.env = (false, eval e X.env) :: starEach es X.env := by rfl) (hplain : (backTo cpos (starEach es X.env)).any (·.1) = false := by rfl)
    (hsw : swapsWith (.Call (.Attribute (.Name x px) "insert" apos) (e :: es) [] cpos) none pos.line X.env = pure false := by rfl) :
    PS X (.Expr (.Call (.Attribute (.Name x px) "insert" apos) (e :: es) [] cpos) pos) (liftS B (dIns i ta)) :=
  PS.imp (ps_expr (pe_bm PySem.F.plainAttrs_list PySem.F.slot_list_insert PySem.F.type_list_insert mt_insert (pv i hN0 hv hd hcd) ha hbase hfew hline hs hplain) hsw) fun D σ H ⟨S, δ, P, R0, ⟨⟨ds0, h0⟩, h⟩, k⟩ => by
    obtain ⟨p, xs, e1, e2, e3⟩ := own_at R0 h0
    refine ⟨.ref p, e1, .inl ⟨rfl, xs, SqL.of e2⟩, S, δ, _, R0, h, fun as δ1 S1 H1 vs q s1 R1 r1 => ?_⟩
    split at q
    · rename_i kk d ds hd'
      obtain ⟨p', xs', e1', e2', e3'⟩ := own_at R1 hd'
      rw [e1] at e1'
      cases e1'
      cases r1 with
      | cons c1 c2 =>
        cases c1
        cases c2 with
        | cons c3 c4 =>
          cases c4
          refine ⟨p, xs', kk, _, rfl, rfl, e2', by rw [e3'.len]; exact size5l q.1.1, q.1.2.1, by have := q.1.2.2; omega, ?_⟩
          refine k.nx _ S1 _ σ q.2 s1 (R1.write hd' e1 ?_)
          rw [List.append_assoc]
          exact Reps.app (Reps.take _ e3') (Reps.app (.cons c3 .nil) (Reps.drop _ e3'))
    · exact q.elim
/-! ### for over a list of one's own: within, its place is lent out -/
def dForO (i : Nat) (g : DTG) (tb : DTS) : DTS := fun P δ => match δ[i]? with
  | some (some (.own ds)) => ∀ a : Addr, dForL g tb ds { nx := fun δ2 => δ2[i]? = some (some (.pin a)) ∧ P.nx (δ2.set i (some (.own ds))), rt := fun _ _ => False, bk := fun _ => False, ct := fun _ => False } (δ.set i (some (.pin a)))
  | _ => False
theorem Rst.lend {i : Nat} {ds : List D} {p : Addr} {xs : List V} (R0 : Rst B S H σ δ) (hi : δ[i]? = some (some (.own ds))) (e1 : σ[i]? = some (some (.ref p))) (h1 : S p = none) (h2 : H p = some (.lst xs)) (h3 : B.H0 p = none) :
    Rst (pinE B p xs) S H σ (δ.set i (some (.pin p))) := by
  have R1 : Rst B S H σ (δ.set i (some (.pin p))) := by
    refine ⟨R0.ex, R0.gr, R0.new, R0.keep, R0.fed, by simp [R0.len], fun j c q => ?_, fun j k a ds' es hjk q1 q2 q3 q4 => ?_⟩
    · rcases get_set q with ⟨e, z⟩ | ⟨e, z⟩
      · cases z
        subst e
        exact ⟨.ref p, e1, rfl⟩
      · exact R0.at_ j c z
    · rcases get_set q1 with ⟨_, z⟩ | ⟨_, z1⟩
      · cases z
      rcases get_set q2 with ⟨_, z⟩ | ⟨_, z2⟩
      · cases z
      exact R0.sep j k a ds' es hjk z1 z2 q3 q4
  refine R1.pin h1 h2 (fun z => (R0.fed p z).1 h3) fun j c q z => ?_
  rcases get_set q with ⟨_, w⟩ | ⟨w1, w2⟩
  · cases w
  · exact R0.sep i j p _ _ w1 hi w2 e1 z
theorem Rst.unlend {i : Nat} {ds : List D} {p : Addr} {xs : List V} (R0 : Rst (pinE B p xs) S H σ δ) (h0 : B.S0 p = none) (h1 : B.H0 p = none) (h3 : B.f ≠ some p) (hi : δ[i]? = some (some (.pin p))) (hr : Reps S xs ds) : Rst B S H σ (δ.set i (some (.own ds))) := by
  obtain ⟨R1, z1, z2, z3⟩ := R0.unpin h0 h1 h3
  obtain ⟨v, e1, e2⟩ := R1.at_ i _ hi
  have e3 : v = .ref p := e2
  subst e3
  refine ⟨R1.ex, R1.gr, R1.new, R1.keep, R1.fed, by simp [R1.len], fun j c q => ?_, fun j k a ds' es hjk q1 q2 q3 q4 => ?_⟩
  · rcases get_set q with ⟨e, z⟩ | ⟨e, z⟩
    · cases z
      subst e
      exact ⟨.ref p, e1, p, xs, rfl, z1, z2, hr, h1⟩
    · exact R1.at_ j c z
  · rcases get_set q1 with ⟨y1, _⟩ | ⟨y1, w1⟩
    · rcases get_set q2 with ⟨y2, _⟩ | ⟨y2, w2⟩
      · exact hjk (y1.symm.trans y2)
      · subst y1
        rw [e1] at q3
        cases q3
        exact z3 k _ w2 q4
    · rcases get_set q2 with ⟨y2, _⟩ | ⟨y2, w2⟩
      · subst y2
        rw [e1] at q4
        cases q4
        exact z3 j _ w1 q3
      · exact R1.sep j k a ds' es hjk w1 w2 q3 q4
theorem ds_forO {i : Nat} {tg : Expr} {g : DTG} {t : DTS} {body : List Stmt} {px : Pos} (hp : PassesOwn (model X.prog X.w) X.A X.env X.xe) (hc : X.calm = true) (hg : ∀ B, PG X tg (liftG B g)) (hb : ∀ B, PSs X body (liftS B t)) (hN0 : X.N[i]? = some x := by rfl) (hv : Vis X.env.scope x := by first | exact Or.inl rfl | exact Or.inr (Or.inl rfl) | exact Or.inr (Or.inr rfl)) (hd : (x == ("__debug__" : Str)) = false := by decide)
    (hcd : (x == ("__classdict__" : Str)) = false := by decide) (hs : ∀ y, foldedSetIterable (.Name x px) X.env y = pure y := by intro _; rfl) :
    PS X (.For tg (.Name x px) body [] pos) (liftS B (dForO i g t)) := by
  have pg : PG X tg (fun v σ H Q => ∃ B, liftG B g v σ H Q) := ⟨fun pins s σ H v u Q I r ⟨B, q⟩ => (hg B).run pins s σ H v u Q I r q⟩
  have pb : PSs X body (fun D σ H => ∃ B, liftS B t D σ H) := ⟨fun pins s σ H D I ⟨B, q⟩ => (hb B).run pins s σ H D I q⟩
  refine PS.imp (ps_for hp hc (pi_list (pv i hN0 hv hd hcd)) pg pb hs) fun D σ H ⟨S, δ, P, R0, h, k⟩ => ?_
  unfold dForO at h
  split at h
  · rename_i ds hi
    obtain ⟨v, e1, a, xs, e2, e3, e4, e5, e6⟩ := R0.at_ i _ hi
    subst e2
    have nf : B.f ≠ some a := fun z => (R0.fed a z).1 e6
    have n0 : B.S0 a = none := same_back R0.gr e3
    have hl := e5.len
    refine ⟨.ref a, e1, a, rfl, ⟨xs, SqL.of e4⟩, ?_⟩
    have h1 := h a
    refine ⟨fun j m σ H => m = ds.length - j ∧ j ≤ ds.length ∧ ∃ S2 δ2, Same S S2 ∧ Rst (pinE B a xs) S2 H σ δ2 ∧ dForL g t (ds.drop j) { nx := fun δ2 => δ2[i]? = some (some (.pin a)) ∧ P.nx (δ2.set i (some (.own ds))), rt := fun _ _ => False, bk := fun _ => False, ct := fun _ => False } δ2, ⟨_, rfl, Nat.zero_le _, S, _, Same.refl _, R0.lend hi e1 e3 e4 e6, h1⟩, ?_⟩
    rintro j m σ' H' ⟨hm, hj, S2, δ2, s2, R2, q2⟩
    have hx : H' a = some (.lst xs) := R2.keep a _ upd_same nf
    by_cases e : j = ds.length
    · subst e
      rw [List.drop_length] at q2
      obtain ⟨q3, q4⟩ : δ2[i]? = some (some (.pin a)) ∧ P.nx (δ2.set i (some (.own ds))) := q2
      exact .inl ⟨⟨xs, SqL.of hx, Nat.le_of_eq hl⟩, k.nx _ S2 H' σ' q4 s2 (R2.unlend n0 e6 nf q3 (Reps.up e5 s2))⟩
    · have hlt : j < ds.length := by omega
      have hxl : j < xs.length := by rw [hl]; exact hlt
      have hd' : ds.drop j = ds[j] :: ds.drop (j + 1) := List.drop_eq_getElem_cons hlt
      rw [hd'] at q2
      refine .inr ⟨⟨xs, xs[j], SqL.of hx, List.getElem?_eq_getElem hxl⟩, fun σ'' H'' => ∃ S2 δ2, Same S S2 ∧ Rst (pinE B a xs) S2 H'' σ'' δ2 ∧ dForL g t (ds.drop (j + 1)) { nx := fun δ2 => δ2[i]? = some (some (.pin a)) ∧ P.nx (δ2.set i (some (.own ds))), rt := fun _ _ => False, bk := fun _ => False, ct := fun _ => False } δ2, fun σ'' H'' z => ⟨ds.length - (j + 1), by omega, rfl, by omega, z⟩, fun y H'' hy => ?_⟩
      obtain ⟨rfl, hy2⟩ := hy
      have hy3 := hy2 xs (SqL.of hx)
      obtain ⟨w, w1, w2⟩ := e5.get (List.getElem?_eq_getElem hlt)
      rw [w1] at hy3
      cases hy3
      refine ⟨pinE B a xs, S2, δ2, _, _, R2, Rep.up w2 s2, q2, fun δ4 S4 H4 σ4 q4 s4 R4 => ?_⟩
      have s14 : Same S S4 := s2.trans s4
      exact ⟨pinE B a xs, S4, δ4, _, R4, q4, ⟨fun δ5 S5 H5 σ5 q5 s5 R5 => ⟨S5, δ5, s14.trans s5, R5, q5⟩, fun d δ5 S5 H5 σ5 v q5 s5 R5 r5 => q5.elim, fun δ5 S5 H5 σ5 q5 s5 R5 => by
        obtain ⟨q3, q6⟩ : δ5[i]? = some (some (.pin a)) ∧ P.nx (δ5.set i (some (.own ds))) := q5
        exact k.nx _ S5 H5 σ5 q6 (s14.trans s5) (R5.unlend n0 e6 nf q3 (Reps.up e5 (s14.trans s5))), fun δ5 S5 H5 σ5 q5 s5 R5 => ⟨S5, δ5, s14.trans s5, R5, q5⟩⟩⟩
  · exact h.elim
end
end DL
end
section
set_option Elab.async false
set_option linter.all false
set_option maxRecDepth 100000
set_option maxHeartbeats 1000000
/-! what readings over plain data evaluate to -/
namespace DL
open PySem PySem.Spec PyProof.Rows L2
def Ev (te : DTE) (δ : En) (r : R) (δ' : En) : Prop := ∀ Q : R → En → Prop, Q r δ' → te δ Q
def EvA (ta : DTA) (δ : En) (ds : List D) (δ' : En) : Prop := ∀ Q : List D → En → Prop, Q ds δ' → ta δ Q
def EvT (t : DTT) (δ : En) (b : Bool) (δ' : En) : Prop := ∀ Q : Bool → En → Prop, Q b δ' → t δ Q
def EvO (t : DTO) (δ : En) (o : Option Int) (δ' : En) : Prop := ∀ Q : Option Int → En → Prop, Q o δ' → t δ Q
section
variable {δ δ1 δ2 δ3 δ' : En} {te ta tb : DTE} {tr tl : DTA} {t u : DTT} {r r1 r2 : R} {d e : D} {ds es : List D} {i j : Int} {k n : Nat} {b c : Bool} {lo hi : DTO} {l h : Option Int}
theorem ev_is (h : Ev te δ r δ') (e : r = r1) : Ev te δ r1 δ' := e ▸ h
theorem ev_isD (h : Ev te δ (.dat d) δ') (e1 : d = e) : Ev te δ (.dat e) δ' := e1 ▸ h
theorem ev_var (h : δ[k]? = some (some (.dat d))) : Ev (dVar k) δ (.dat d) δ := fun Q q => by unfold dVar; rw [h]; exact q
theorem ev_box (h : δ[k]? = some (some (.own ds))) : Ev (dVar k) δ (.box k) δ := fun Q q => by unfold dVar; rw [h]; exact q
theorem ev_c : Ev (dC d) δ (.dat d) δ := fun Q q => q
theorem ea_nil : EvA dNil δ [] δ := fun Q q => q
theorem ea_cons (ha : Ev te δ (.dat d) δ1) (hr : EvA tr δ1 ds δ2) : EvA (dCons te tr) δ (d :: ds) δ2 := fun Q q => ha _ (hr _ q)
/-- a list of one's own is let go -/
theorem ea_own (h : δ[k]? = some (some (.own es))) (hr : EvA tr (δ.set k (some (.dat (.lst es)))) ds δ2) : EvA (dCons (dVar k) tr) δ (.lst es :: ds) δ2 := fun Q q => by
  unfold dCons
  refine ev_box h _ ?_
  unfold val
  simp only [h]
  exact hr _ q
theorem ev_tup (h : EvA tr δ ds δ1) (hl : ds.length ≤ 1000) : Ev (dTup tr) δ (.dat (.tup ds)) δ1 := fun Q q => h _ ⟨hl, q⟩
theorem el_lst (h : EvA tr δ ds δ1) (hl : ds.length ≤ 1000) : EvA (dLst tr) δ ds δ1 := fun Q q => h _ ⟨hl, q⟩
theorem ev_frz (h : EvA tl δ ds δ1) : Ev (dFrz tl) δ (.dat (.lst ds)) δ1 := fun Q q => h _ q
theorem ev_bin {f : F2} (ha : Ev ta δ r1 δ1) (hb : Ev tb δ1 r2 δ2) (hf : ∀ Q, Q r δ2 → f r1 r2 δ2 Q) : Ev (dBin f ta tb) δ r δ2 := fun Q q => ha _ (hb _ (hf _ q))
theorem ev_un {f : F1} (ha : Ev ta δ r1 δ1) (hf : ∀ Q, Q r δ1 → f r1 δ1 Q) : Ev (dUn f ta) δ r δ1 := fun Q q => ha _ (hf _ q)
theorem el_un {f : FL} (ha : Ev ta δ r1 δ1) (hf : ∀ Q : List D → En → Prop, Q ds δ1 → f r1 δ1 Q) : EvA (dUL f ta) δ ds δ1 := fun Q q => ha _ (hf _ q)
theorem ev_0 {g : Int → Int → D} (ha : Ev ta δ (.dat (.int i)) δ1) (hb : Ev tb δ1 (.dat (.int j)) δ2) : Ev (dBin (f0 g) ta tb) δ (.dat (g i j)) δ2 := ev_bin ha hb fun Q q => q
theorem ev_I {C : Int → Int → Prop} {g : Int → Int → D} (ha : Ev ta δ (.dat (.int i)) δ1) (hb : Ev tb δ1 (.dat (.int j)) δ2) (hc : C i j) : Ev (dBin (fI C g) ta tb) δ (.dat (g i j)) δ2 := ev_bin ha hb fun Q q => ⟨hc, q⟩
theorem ev_add (ha : Ev ta δ (.dat (.int i)) δ1) (hb : Ev tb δ1 (.dat (.int j)) δ2) : Ev (dBin fAdd ta tb) δ (.dat (.int (i + j))) δ2 := ev_0 ha hb
theorem ev_sub (ha : Ev ta δ (.dat (.int i)) δ1) (hb : Ev tb δ1 (.dat (.int j)) δ2) : Ev (dBin fSub ta tb) δ (.dat (.int (i - j))) δ2 := ev_0 ha hb
theorem ev_lt (ha : Ev ta δ (.dat (.int i)) δ1) (hb : Ev tb δ1 (.dat (.int j)) δ2) : Ev (dBin fLt ta tb) δ (.dat (.bl (decide (i < j)))) δ2 := ev_0 ha hb
theorem ev_le (ha : Ev ta δ (.dat (.int i)) δ1) (hb : Ev tb δ1 (.dat (.int j)) δ2) : Ev (dBin fLe ta tb) δ (.dat (.bl (decide (i ≤ j)))) δ2 := ev_0 ha hb
theorem ev_gt (ha : Ev ta δ (.dat (.int i)) δ1) (hb : Ev tb δ1 (.dat (.int j)) δ2) : Ev (dBin fGt ta tb) δ (.dat (.bl (decide (j < i)))) δ2 := ev_0 ha hb
theorem ev_ge (ha : Ev ta δ (.dat (.int i)) δ1) (hb : Ev tb δ1 (.dat (.int j)) δ2) : Ev (dBin fGe ta tb) δ (.dat (.bl (decide (j ≤ i)))) δ2 := ev_0 ha hb
theorem ev_and2 (ha : Ev ta δ (.dat (.int i)) δ1) (hb : Ev tb δ1 (.dat (.int j)) δ2) : Ev (dBin fAnd ta tb) δ (.dat (.int (Builtin.bitAnd i j))) δ2 := ev_0 ha hb
theorem ev_or2 (ha : Ev ta δ (.dat (.int i)) δ1) (hb : Ev tb δ1 (.dat (.int j)) δ2) : Ev (dBin fOr ta tb) δ (.dat (.int (Builtin.bitOr i j))) δ2 := ev_0 ha hb
theorem ev_mul (ha : Ev ta δ (.dat (.int i)) δ1) (hb : Ev tb δ1 (.dat (.int j)) δ2) (hc : CM i j) : Ev (dBin fMul ta tb) δ (.dat (.int (i * j))) δ2 := ev_I ha hb hc
theorem ev_div (ha : Ev ta δ (.dat (.int i)) δ1) (hb : Ev tb δ1 (.dat (.int j)) δ2) (hc : CD i j) : Ev (dBin fDiv ta tb) δ (.dat (.int (i / j))) δ2 := ev_I ha hb hc
theorem ev_mod (ha : Ev ta δ (.dat (.int i)) δ1) (hb : Ev tb δ1 (.dat (.int j)) δ2) (hc : 0 < j) : Ev (dBin fMod ta tb) δ (.dat (.int (i % j))) δ2 := ev_I ha hb hc
theorem ev_shl (ha : Ev ta δ (.dat (.int i)) δ1) (hb : Ev tb δ1 (.dat (.int j)) δ2) (hc : CS i j) : Ev (dBin fShl ta tb) δ (.dat (.int (i * 2 ^ j.toNat))) δ2 := ev_I ha hb hc
theorem ev_eqI (ha : Ev ta δ (.dat (.int i)) δ1) (hb : Ev tb δ1 (.dat (.int j)) δ2) : Ev (dBin fEq ta tb) δ (.dat (.bl (decide (i = j)))) δ2 := ev_bin ha hb fun Q q => q
theorem ev_neI (ha : Ev ta δ (.dat (.int i)) δ1) (hb : Ev tb δ1 (.dat (.int j)) δ2) : Ev (dBin fNe ta tb) δ (.dat (.bl (!decide (i = j)))) δ2 := ev_bin ha hb fun Q q => q
theorem ev_eqB (ha : Ev ta δ (.dat (.bl b)) δ1) (hb : Ev tb δ1 (.dat (.bl c)) δ2) : Ev (dBin fEq ta tb) δ (.dat (.bl (decide (b = c)))) δ2 := ev_bin ha hb fun Q q => q
theorem ev_eqS {x y : Str} (ha : Ev ta δ (.dat (.str x)) δ1) (hb : Ev tb δ1 (.dat (.str y)) δ2) : Ev (dBin fEq ta tb) δ (.dat (.bl (decide (x = y)))) δ2 := ev_bin ha hb fun Q q => q
theorem ev_neS {x y : Str} (ha : Ev ta δ (.dat (.str x)) δ1) (hb : Ev tb δ1 (.dat (.str y)) δ2) : Ev (dBin fNe ta tb) δ (.dat (.bl (!decide (x = y)))) δ2 := ev_bin ha hb fun Q q => q
theorem ev_eqP {i j k l : Int} (ha : Ev ta δ (.dat (.tup [.int i, .int j])) δ1) (hb : Ev tb δ1 (.dat (.tup [.int k, .int l])) δ2) : Ev (dBin fEqP ta tb) δ (.dat (.bl (decide (i = k) && decide (j = l)))) δ2 := ev_bin ha hb fun Q q => q
theorem ev_catT (ha : Ev ta δ (.dat (.tup ds)) δ1) (hb : Ev tb δ1 (.dat (.tup es)) δ2) (hl : ds.length + es.length ≤ 1000) : Ev (dBin fCatT ta tb) δ (.dat (.tup (ds ++ es))) δ2 := ev_bin ha hb fun Q q => ⟨hl, q⟩
theorem ev_ix (ha : Ev ta δ r1 δ1) (hb : Ev tb δ1 (.dat (.int i)) δ2) (h : seqOf r1 δ2 = some ds) (hi : atI ds i = some d) : Ev (dBin fIx ta tb) δ (.dat d) δ2 := ev_bin ha hb fun Q q => by
  unfold fIx
  simp only [h, hi]
  exact q
theorem ev_ixT (ha : Ev ta δ (.dat (.tup ds)) δ1) (hb : Ev tb δ1 (.dat (.int i)) δ2) (hi : atI ds i = some d) : Ev (dBin fIx ta tb) δ (.dat d) δ2 := ev_ix ha hb rfl hi
theorem ev_ixL (ha : Ev ta δ (.dat (.lst ds)) δ1) (hb : Ev tb δ1 (.dat (.int i)) δ2) (hi : atI ds i = some d) : Ev (dBin fIx ta tb) δ (.dat d) δ2 := ev_ix ha hb rfl hi
theorem ev_ixO (h : δ[k]? = some (some (.own ds))) (hb : Ev tb δ (.dat (.int i)) δ) (hi : atI ds i = some d) : Ev (dBin fIx (dVar k) tb) δ (.dat d) δ := ev_ix (ev_box h) hb (by show (match δ[k]? with | some (some (.own ds)) => some ds | some (some (.dat (.lst ds))) => some ds | _ => none) = _; rw [h]) hi
theorem ev_neg (ha : Ev ta δ (.dat (.int i)) δ1) : Ev (dUn fNeg ta) δ (.dat (.int (-i))) δ1 := ev_un ha fun Q q => q
theorem ev_len (ha : Ev ta δ r1 δ1) (h : seqOf r1 δ1 = some ds) : Ev (dUn fLen ta) δ (.dat (.int ds.length)) δ1 := ev_un ha fun Q q => by
  unfold fLen
  simp only [h]
  exact q
theorem ev_lenT (ha : Ev ta δ (.dat (.tup ds)) δ1) : Ev (dUn fLen ta) δ (.dat (.int ds.length)) δ1 := ev_len ha rfl
theorem ev_lenL (ha : Ev ta δ (.dat (.lst ds)) δ1) : Ev (dUn fLen ta) δ (.dat (.int ds.length)) δ1 := ev_len ha rfl
theorem ev_lenO (h : δ[k]? = some (some (.own ds))) : Ev (dUn fLen (dVar k)) δ (.dat (.int ds.length)) δ := ev_len (ev_box h) (by show (match δ[k]? with | some (some (.own ds)) => some ds | some (some (.dat (.lst ds))) => some ds | _ => none) = _; rw [h])
theorem ev_int (ha : Ev ta δ (.dat (.int i)) δ1) : Ev (dUn fInt ta) δ (.dat (.int i)) δ1 := ev_un ha fun Q q => q
theorem ev_bits (ha : Ev ta δ (.dat (.int i)) δ1) : Ev (dUn fBits ta) δ (.dat (.int (Builtin.Int.intBits i : Nat))) δ1 := ev_un ha fun Q q => q
theorem ev_isi {f : D → Bool} (ha : Ev ta δ (.dat d) δ1) : Ev (dUn (fIsi f) ta) δ (.dat (.bl (f d))) δ1 := ev_un ha fun Q q => q
theorem ev_isN (ha : Ev ta δ (.dat d) δ1) : Ev (dUn (fD fIsN) ta) δ (.dat (.bl (R.dat d).isN)) δ1 := ev_un ha fun Q q => q
theorem ev_notN (ha : Ev ta δ (.dat d) δ1) : Ev (dUn (fD fNotN) ta) δ (.dat (.bl (!(R.dat d).isN))) δ1 := ev_un ha fun Q q => q
theorem ev_notV (ha : Ev ta δ (.dat (.bl b)) δ1) : Ev (dUn fNotV ta) δ (.dat (.bl (!b))) δ1 := ev_un ha fun Q q => q
theorem ev_tupOf (ha : Ev ta δ r1 δ1) (h : seqOf r1 δ1 = some ds) : Ev (dUn fTupOf ta) δ (.dat (.tup ds)) δ1 := ev_un ha fun Q q => by
  unfold fTupOf
  simp only [h]
  exact q
theorem ev_tupOfO (h : δ[k]? = some (some (.own ds))) : Ev (dUn fTupOf (dVar k)) δ (.dat (.tup ds)) δ := ev_tupOf (ev_box h) (by show (match δ[k]? with | some (some (.own ds)) => some ds | some (some (.dat (.lst ds))) => some ds | _ => none) = _; rw [h])
theorem el_listOf (ha : Ev ta δ r1 δ1) (h : seqOf r1 δ1 = some ds) : EvA (dUL fListOf ta) δ ds δ1 := el_un ha fun Q q => by
  unfold fListOf
  simp only [h]
  exact q
theorem ev_c2 {g : Int → Int → Int} (ha : EvA tr δ [.int i, .int j] δ1) : Ev (dC2 g tr) δ (.dat (.int (g i j))) δ1 := fun Q q => ha _ q
theorem ev_lcm (ha : EvA tr δ [.int i, .int j] δ1) (h1 : i.natAbs < 2 ^ 64 ∧ j.natAbs < 2 ^ 64) : Ev (dLcm tr) δ (.dat (.int ((Nat.lcm i.natAbs j.natAbs : Nat) : Int))) δ1 := fun Q q => ha _ ⟨h1, q⟩
theorem ev_call {C : DC} (ha : EvA tr δ ds δ1) (hC : ∀ Q : D → Prop, Q d → C ds Q) : Ev (dCall C tr) δ (.dat d) δ1 := fun Q q => ha _ (hC _ q)
theorem eo_none : EvO dNoPart δ none δ := fun Q q => q
theorem eo_some (ha : Ev ta δ (.dat (.int i)) δ1) : EvO (dPart ta) δ (some i) δ1 := fun Q q => ha _ q
theorem ev_slT (ha : Ev ta δ (.dat (.tup ds)) δ1) (h1 : EvO lo δ1 l δ2) (h2 : EvO hi δ2 h δ3) : Ev (dSlT ta lo hi) δ (.dat (.tup (cut ds l h))) δ3 := fun Q q => ha _ (h1 _ (h2 _ q))
theorem el_slL (ha : Ev ta δ r1 δ1) (h1 : EvO lo δ1 l δ2) (h2 : EvO hi δ2 h δ3) (hs : lstOf r1 δ3 = some ds) : EvA (dSlL ta lo hi) δ (cut ds l h) δ3 := fun Q q => ha _ (h1 _ (h2 _ (by simp only [hs]; exact q)))
theorem el_cat (ha : Ev ta δ r1 δ1) (hb : Ev tb δ1 r2 δ2) (h1 : lstOf r1 δ2 = some ds) (h2 : lstOf r2 δ2 = some es) (hl : ds.length + es.length ≤ 100000) : EvA (dCatL ta tb) δ (ds ++ es) δ2 := fun Q q => ha _ (hb _ (by simp only [h1, h2]; exact ⟨hl, q⟩))
/-! ### and, or, not; tests -/
theorem ev_andV (ha : Ev ta δ (.dat (.bl b)) δ1) (hb : b = true → Ev tb δ1 (.dat (.bl c)) δ1) : Ev (dAndV ta tb) δ (.dat (.bl (b && c))) δ1 := fun Q q => ha _ (by
  cases b with
  | true => exact hb rfl _ q
  | false => exact q)
theorem ev_orV (ha : Ev ta δ (.dat (.bl b)) δ1) (hb : b = false → Ev tb δ1 (.dat (.bl c)) δ1) : Ev (dOrV ta tb) δ (.dat (.bl (b || c))) δ1 := fun Q q => ha _ (by
  cases b with
  | false => exact hb rfl _ q
  | true => exact q)
theorem et_tst (ha : Ev ta δ (.dat (.bl b)) δ1) : EvT (dTst ta) δ b δ1 := fun Q q => ha _ q
theorem et_and (ha : EvT t δ b δ1) (hb : b = true → EvT u δ1 c δ1) : EvT (dAnd t u) δ (b && c) δ1 := fun Q q => ha _ (by
  cases b with
  | true => exact hb rfl _ q
  | false => exact q)
theorem et_or (ha : EvT t δ b δ1) (hb : b = false → EvT u δ1 c δ1) : EvT (dOr t u) δ (b || c) δ1 := fun Q q => ha _ (by
  cases b with
  | false => exact hb rfl _ q
  | true => exact q)
theorem et_not (ha : EvT t δ b δ1) : EvT (dNot t) δ (!b) δ1 := fun Q q => ha _ q
theorem et_is (h : EvT t δ b δ1) (e : b = c) : EvT t δ c δ1 := e ▸ h
end
/-! ### statements -/
section
variable {P : DEnds} {δ δ1 δ2 : En} {te ti : DTE} {tr : DTA} {t u v : DTS} {c : DTT} {r : R} {d : D} {ds : List D} {i : Nat} {b : Bool} {g : DTG}
theorem g_seq (h : t { P with nx := u P } δ) : dSeq t u P δ := h
theorem g_set (he : Ev te δ (.dat d) δ1) (h : P.nx (δ1.set i (some (.dat d)))) : dAsg te (dgName i) P δ := he _ h
theorem q_set (he : Ev te δ (.dat d) δ1) (h : u P (δ1.set i (some (.dat d)))) : dSeq (dAsg te (dgName i)) u P δ := he _ h
theorem q_asg (he : Ev te δ (.dat d) δ1) (h : g d δ1 (u P)) : dSeq (dAsg te g) u P δ := he _ h
theorem g_setL (he : EvA tr δ ds δ1) (h : P.nx (δ1.set i (some (.own ds)))) : dAsgL i tr P δ := he _ h
theorem q_setL (he : EvA tr δ ds δ1) (h : u P (δ1.set i (some (.own ds)))) : dSeq (dAsgL i tr) u P δ := he _ h
theorem g_ret (he : Ev te δ (.dat d) δ1) (h : P.rt d δ1) : dRet te P δ := he _ h
theorem g_drop (he : Ev te δ r δ1) (h : P.nx δ1) : dDrop te P δ := he _ h
theorem g_if (hc : EvT c δ b δ1) (h1 : b = true → t P δ1) (h2 : b = false → u P δ1) : dIf c t u P δ := hc _ (by
  cases b with
  | true => exact h1 rfl
  | false => exact h2 rfl)
theorem q_if (hc : EvT c δ b δ1) (h1 : b = true → t { P with nx := v P } δ1) (h2 : b = false → u { P with nx := v P } δ1) : dSeq (dIf c t u) v P δ := g_if (P := { P with nx := v P }) hc h1 h2
theorem g_app (h0 : δ[i]? = some (some (.own ds))) (he : Ev te δ (.dat d) δ) (hl : ds.length < 100000) (h : P.nx (δ.set i (some (.own (ds ++ [d]))))) : dApp i te P δ := ⟨⟨ds, h0⟩, he _ (by
  show match δ[i]? with
    | some (some (.own ds)) => ds.length < 100000 ∧ P.nx (δ.set i (some (.own (ds ++ [d]))))
    | _ => False
  rw [h0]
  exact ⟨hl, h⟩)⟩
theorem g_setI {k : Int} {j : Nat} (he : Ev te δ (.dat d) δ1) (h0 : δ1[i]? = some (some (.own ds))) (hi : Ev ti δ1 (.dat (.int k)) δ1) (hj : ixN ds.length k = some j) (h : P.nx (δ1.set i (some (.own (ds.set j d))))) : dSetI i te ti P δ := he _ ⟨⟨ds, h0⟩, hi _ (by
  show match R.dat (D.int k), δ1[i]? with
    | .dat (.int k), some (some (.own ds)) => (match ixN ds.length k with
      | some j => P.nx (δ1.set i (some (.own (ds.set j d))))
      | none => False)
    | _, _ => False
  rw [h0]
  show match ixN ds.length k with
      | some j => P.nx (δ1.set i (some (.own (ds.set j d))))
      | none => False
  rw [hj]
  exact h)⟩
theorem g_aug {k n : Int} (h0 : δ[i]? = some (some (.dat (.int k)))) (he : Ev te δ (.dat (.int n)) δ1) (h : P.nx (δ1.set i (some (.dat (.int (k + n)))))) : dAug i te P δ := by
  unfold dAug
  rw [h0]
  exact he _ h
theorem q_setI {k : Int} {j : Nat} (he : Ev te δ (.dat d) δ1) (h0 : δ1[i]? = some (some (.own ds))) (hi : Ev ti δ1 (.dat (.int k)) δ1) (hj : ixN ds.length k = some j) (h : u P (δ1.set i (some (.own (ds.set j d))))) : dSeq (dSetI i te ti) u P δ := g_setI (P := { P with nx := u P }) he h0 hi hj h
theorem q_app (h0 : δ[i]? = some (some (.own ds))) (he : Ev te δ (.dat d) δ) (hl : ds.length < 100000) (h : u P (δ.set i (some (.own (ds ++ [d]))))) : dSeq (dApp i te) u P δ := g_app (P := { P with nx := u P }) h0 he hl h
theorem q_aug {k n : Int} (h0 : δ[i]? = some (some (.dat (.int k)))) (he : Ev te δ (.dat (.int n)) δ1) (h : u P (δ1.set i (some (.dat (.int (k + n)))))) : dSeq (dAug i te) u P δ := g_aug (P := { P with nx := u P }) h0 he h
theorem q_drop (he : Ev te δ r δ1) (h : u P δ1) : dSeq (dDrop te) u P δ := he _ h
theorem q_par {j : Nat} {e : D} (he : EvA tr δ [d, e] δ1) (h : u P ((δ1.set i (some (.dat d))).set j (some (.dat e)))) : dSeq (dPar i j tr) u P δ := he _ h
theorem g_ins {k : Int} (h0 : δ[i]? = some (some (.own ds))) (he : EvA tr δ [.int k, d] δ) (hl : ds.length < 100000) (h1 : 0 ≤ k) (h2 : k ≤ 100000) (h : P.nx (δ.set i (some (.own (insD ds k d))))) : dIns i tr P δ := ⟨⟨ds, h0⟩, he _ (by
  show match [D.int k, d], δ[i]? with
    | [.int k, d], some (some (.own ds)) => (ds.length < 100000 ∧ 0 ≤ k ∧ k ≤ 100000) ∧ P.nx (δ.set i (some (.own (insD ds k d))))
    | _, _ => False
  rw [h0]
  exact ⟨⟨hl, h1, h2⟩, h⟩)⟩
/-- for: an invariant of the items gone through -/
theorem g_for {ti : DTA} {tb : DTS} (I : Nat → En → Prop) (hi : EvA ti δ ds δ1) (h0 : I 0 δ1)
    (hs : ∀ n d δ2 (N : En → Prop), ds[n]? = some d → I n δ2 → (∀ x, I (n + 1) x → N x) → g d δ2 fun δ3 => tb { nx := N, rt := P.rt, bk := P.nx, ct := N } δ3)
    (hd : ∀ δ2, I ds.length δ2 → P.nx δ2) : dFor ti g tb P δ := hi _ (by
  have main : ∀ (l : List D) (n : Nat) δ2, n + l.length = ds.length → (∀ m, l[m]? = ds[n + m]?) → I n δ2 → dForL g tb l P δ2 := by
    intro l
    induction l with
    | nil => intro n δ2 hn _ hI; exact hd δ2 (by have : n = ds.length := by simpa using hn
                                                 rw [← this]; exact hI)
    | cons d l ih =>
      intro n δ2 hn hm hI
      have next : ∀ x, I (n + 1) x → dForL g tb l P x := fun x hx => ih (n + 1) x (by simp at hn; omega) (fun m => by have := hm (m + 1); simpa [Nat.add_assoc, Nat.add_comm 1] using this) hx
      exact hs n d δ2 _ (by have := hm 0; simpa using this.symm) hI next
  exact main ds 0 δ1 (by simp) (fun m => by simp) h0)
theorem map_get {α : Type} {xs : List α} {dn : α → D} {n : Nat} {d : D} (h : (xs.map dn)[n]? = some d) : ∃ x, xs[n]? = some x ∧ d = dn x := by
  rw [List.getElem?_map] at h
  cases q : xs[n]? with
  | none => rw [q] at h; cases h
  | some x => rw [q] at h; cases h; exact ⟨x, rfl, rfl⟩
/-- typed items, one name -/
theorem q_forN {α : Type} {ti : DTA} {tb : DTS} (xs : List α) (dn : α → D) (I : Nat → En → Prop) (hi : EvA ti δ (xs.map dn) δ1) (h0 : I 0 δ1)
    (hs : ∀ n x δ2 (N : En → Prop), xs[n]? = some x → I n δ2 → (∀ y, I (n + 1) y → N y) → tb { nx := N, rt := P.rt, bk := u P, ct := N } (δ2.set i (some (.dat (dn x)))))
    (hd : ∀ δ2, I xs.length δ2 → u P δ2) : dSeq (dFor ti (dgName i) tb) u P δ :=
  g_for (P := { P with nx := u P }) I hi h0 (fun n d δ2 N hn hI hN => by
    obtain ⟨x, h1, rfl⟩ := map_get hn
    exact hs n x δ2 N h1 hI hN) fun δ2 h => hd δ2 (by simpa using h)
/-- a range -/
theorem q_forR {ti : DTA} {tb : DTS} (lo : Int) (m : Nat) (I : Nat → En → Prop) (hi : EvA ti δ (intsD lo m) δ1) (h0 : I 0 δ1)
    (hs : ∀ n δ2 (N : En → Prop), n < m → I n δ2 → (∀ y, I (n + 1) y → N y) → tb { nx := N, rt := P.rt, bk := u P, ct := N } (δ2.set i (some (.dat (.int (lo + (n : Int)))))))
    (hd : ∀ δ2, I m δ2 → u P δ2) : dSeq (dFor ti (dgName i) tb) u P δ :=
  q_forN (List.range m) (fun k => D.int (lo + (k : Int))) I hi h0 (fun n x δ2 N hn hI hN => by
    have hl := lt_get hn
    rw [List.length_range] at hl
    rw [List.getElem?_range hl] at hn
    cases hn
    exact hs n δ2 N hl hI hN) fun δ2 h => hd δ2 (by simpa using h)
theorem er_1 {k : Int} (he : EvA tr δ [.int k] δ1) (h : -1000000000000000000 ≤ k ∧ k ≤ 1000000000000000000) : EvA (dRng1 tr) δ (intsD 0 k.toNat) δ1 := fun Q q => he _ ⟨h, q⟩
theorem er_2 {k m : Int} (he : EvA tr δ [.int k, .int m] δ1) (h : -1000000000000000000 ≤ k ∧ k ≤ 1000000000000000000 ∧ -1000000000000000000 ≤ m ∧ m ≤ 1000000000000000000) : EvA (dRng2 tr) δ (intsD k (m - k).toNat) δ1 := fun Q q => he _ ⟨h, q⟩
theorem er_T (he : Ev te δ (.dat (.tup ds)) δ1) : EvA (dSrcT te) δ ds δ1 := fun Q q => he _ q
theorem er_L (he : Ev te δ (.dat (.lst ds)) δ1) : EvA (dSrcL te) δ ds δ1 := fun Q q => he _ q
theorem er_O {k : Nat} (h : δ[k]? = some (some (.own ds))) : EvA (dSrcL (dVar k)) δ ds (δ.set k (some (.dat (.lst ds)))) := fun Q q => by
  unfold dSrcL
  refine ev_box h _ ?_
  unfold val
  simp only [h]
  exact q
theorem er_E (he : Ev te δ (.dat (.tup ds)) δ1) : EvA (dEnumT te) δ (enD 0 ds) δ1 := fun Q q => he _ q
/-- displays by a block -/
theorem lcL_map {α : Type} {tt : DTT} {te : DTE} {δ0 : En} (dn out : α → D) (p : α → Bool) (Q : List D → Prop) : ∀ (xs : List α) (acc : List D), acc.length + xs.length ≤ 100000 →
    (∀ x, x ∈ xs → EvT tt (δ0.set i (some (.dat (dn x)))) (p x) (δ0.set i (some (.dat (dn x)))) ∧ (p x = true → Ev te (δ0.set i (some (.dat (dn x)))) (.dat (out x)) (δ0.set i (some (.dat (dn x)))))) →
    Q (acc ++ (xs.filter p).map out) → lcL (dgName i) tt te δ0 (xs.map dn) acc Q
  | [], acc, _, _, q => by
    show Q acc
    simpa using q
  | x :: xs, acc, hl, h, q => by
    obtain ⟨h1, h2⟩ := h x (List.mem_cons_self ..)
    have hl2 : acc.length + (xs.length + 1) ≤ 100000 := by simpa using hl
    show dgName i (dn x) δ0 _
    refine h1 _ ⟨rfl, ?_⟩
    cases hp : p x with
    | true =>
      rw [if_pos rfl]
      refine h2 hp _ ⟨rfl, by omega, lcL_map dn out p Q xs _ (by simp; omega) (fun y hy => h y (List.mem_cons_of_mem _ hy)) ?_⟩
      rw [List.filter_cons, if_pos hp, List.map_cons] at q
      simpa using q
    | false =>
      rw [if_neg (by decide)]
      refine lcL_map dn out p Q xs _ (by omega) (fun y hy => h y (List.mem_cons_of_mem _ hy)) ?_
      rw [List.filter_cons, if_neg (by simp [hp])] at q
      exact q
theorem el_fil {α : Type} {ti : DTA} {tt : DTT} {te : DTE} {vs : List Nat} (xs : List α) (dn out : α → D) (p : α → Bool) (hi : EvA ti δ (xs.map dn) δ1) (hm : noMut δ1 vs = true) (hl : xs.length ≤ 100000)
    (h : ∀ x, x ∈ xs → EvT tt ((wipeD δ1 vs).set i (some (.dat (dn x)))) (p x) ((wipeD δ1 vs).set i (some (.dat (dn x)))) ∧ (p x = true → Ev te ((wipeD δ1 vs).set i (some (.dat (dn x)))) (.dat (out x)) ((wipeD δ1 vs).set i (some (.dat (dn x)))))) :
    EvA (dLc ti (dgName i) tt te vs) δ ((xs.filter p).map out) δ1 := fun Q q => hi _ ⟨hm, lcL_map dn out p _ xs [] (by simpa using hl) h (by simpa using q)⟩
theorem et_yes : EvT dYes δ true δ := fun Q q => q
theorem el_map {α : Type} {ti : DTA} {te : DTE} {vs : List Nat} (xs : List α) (dn out : α → D) (hi : EvA ti δ (xs.map dn) δ1) (hm : noMut δ1 vs = true) (hl : xs.length ≤ 100000)
    (h : ∀ x, x ∈ xs → Ev te ((wipeD δ1 vs).set i (some (.dat (dn x)))) (.dat (out x)) ((wipeD δ1 vs).set i (some (.dat (dn x))))) :
    EvA (dLc ti (dgName i) dYes te vs) δ (xs.map out) δ1 := by
  have := el_fil (tt := dYes) xs dn out (fun _ => true) hi hm hl fun x hx => ⟨et_yes, fun _ => h x hx⟩
  rw [List.filter_eq_self.mpr (fun _ _ => rfl)] at this
  exact this
/-- a pair of names -/
theorem el_mapP {α : Type} {ti : DTA} {te : DTE} {vs : List Nat} {j : Nat} (xs : List α) (d1 d2 out : α → D) (hi : EvA ti δ (xs.map fun x => .tup [d1 x, d2 x]) δ1) (hm : noMut δ1 vs = true) (hl : xs.length ≤ 100000)
    (h : ∀ x, x ∈ xs → Ev te (((wipeD δ1 vs).set i (some (.dat (d1 x)))).set j (some (.dat (d2 x)))) (.dat (out x)) (((wipeD δ1 vs).set i (some (.dat (d1 x)))).set j (some (.dat (d2 x))))) :
    EvA (dLc ti (dgTup 2 (dgCons (dgName i) (dgCons (dgName j) dgNil))) dYes te vs) δ (xs.map out) δ1 := fun Q q => hi _ ⟨hm, by
  have main : ∀ (xs : List α) (acc : List D), acc.length + xs.length ≤ 100000 → (∀ x, x ∈ xs → Ev te (((wipeD δ1 vs).set i (some (.dat (d1 x)))).set j (some (.dat (d2 x)))) (.dat (out x)) (((wipeD δ1 vs).set i (some (.dat (d1 x)))).set j (some (.dat (d2 x))))) → Q (acc ++ xs.map out) δ1 →
      lcL (dgTup 2 (dgCons (dgName i) (dgCons (dgName j) dgNil))) dYes te (wipeD δ1 vs) (xs.map fun x => D.tup [d1 x, d2 x]) acc fun out => Q out δ1 := by
    intro xs
    induction xs with
    | nil => intro acc _ _ q; show Q acc δ1; simpa using q
    | cons x xs ih =>
      intro acc hl h q
      have hl2 : acc.length + (xs.length + 1) ≤ 100000 := by simpa using hl
      refine ⟨rfl, rfl, ?_⟩
      rw [if_pos rfl]
      exact h x (List.mem_cons_self ..) _ ⟨rfl, by omega, ih _ (by simp; omega) (fun y hy => h y (List.mem_cons_of_mem _ hy)) (by simpa using q)⟩
  exact main xs [] (by simpa using hl) h (by simpa using q)⟩
end
end DL
end
section
set_option Elab.async false
set_option linter.all false
set_option maxRecDepth 100000
set_option maxHeartbeats 1000000
/-! a reading over plain data, gone through step by step -/
namespace DL
open PySem PySem.Spec PyProof.Rows L2
def kB (P : Bool → Prop) (r : R) : Prop := match r with
  | .dat (.bl c) => P c
  | _ => False
def kI (P : Int → Prop) (r : R) : Prop := match r with
  | .dat (.int c) => P c
  | _ => False
def kT (P : List D → Prop) (r : R) : Prop := match r with
  | .dat (.tup c) => P c
  | _ => False
def kL (P : List D → Prop) (d : D) : Prop := match d with
  | .lst c => P c
  | _ => False
def kO (P : List D → Prop) (o : Option (List D)) : Prop := match o with
  | some ds => P ds
  | none => False
def k1 (P : Int → Prop) (ds : List D) : Prop := match ds with
  | [.int i] => P i
  | _ => False
def k2 (P : Int → Int → Prop) (ds : List D) : Prop := match ds with
  | [.int i, .int j] => P i j
  | _ => False
def k2D (P : D → D → Prop) (ds : List D) : Prop := match ds with
  | [i, j] => P i j
  | _ => False
def kCut (P : List D → Prop) (ds : List D) : Prop := P ds
def kCat (P : List D → List D → Prop) (o o2 : Option (List D)) : Prop := match o, o2 with
  | some ds, some es => P ds es
  | _, _ => False
def kOwn (P : List D → Prop) (o : Option (Option Cell)) : Prop := match o with
  | some (some (.own ds)) => P ds
  | _ => False
def kSet (P : Int → List D → Prop) (r : R) (o : Option (Option Cell)) : Prop := match r, o with
  | .dat (.int k), some (some (.own ds)) => P k ds
  | _, _ => False
def kIx (P : Nat → Prop) (o : Option Nat) : Prop := match o with
  | some j => P j
  | none => False
section
variable {δ δ1 : En} {te ta tb : DTE} {tr tl ti : DTA} {c c2 : DTT} {d d2 e : D} {ds es : List D} {i j : Int} {k n : Nat} {b : Bool} {lo hi : DTO} {l h : Option Int} {Q : R → En → Prop} {QA : List D → En → Prop} {QT : Bool → En → Prop} {QO : Option Int → En → Prop} {QD : D → En → Prop} {r r1 r2 : R}
theorem c_var (h : δ[k]? = some (some (.dat d))) (q : Q (.dat d) δ) : dVar k δ Q := ev_var h Q q
theorem c_box (h : δ[k]? = some (some (.own ds))) (q : Q (.box k) δ) : dVar k δ Q := ev_box h Q q
theorem c_c (q : Q (.dat d) δ) : dC d δ Q := q
theorem c_nil (q : QA [] δ) : dNil δ QA := q
theorem c_cons (q : te δ fun r δ1 => val r δ1 fun d δ2 => tr δ2 fun ds δ3 => QA (d :: ds) δ3) : dCons te tr δ QA := q
theorem c_valD (q : QD d δ) : val (.dat d) δ QD := q
theorem c_valO (h : δ[k]? = some (some (.own ds))) (q : QD (.lst ds) (δ.set k (some (.dat (.lst ds))))) : val (.box k) δ QD := by
  unfold val
  simp only [h]
  exact q
theorem c_tup (q : tr δ fun ds δ1 => ds.length ≤ 1000 ∧ Q (.dat (.tup ds)) δ1) : dTup tr δ Q := q
theorem c_lst (q : tr δ fun ds δ1 => ds.length ≤ 1000 ∧ QA ds δ1) : dLst tr δ QA := q
theorem c_frz (q : tl δ fun ds δ1 => Q (.dat (.lst ds)) δ1) : dFrz tl δ Q := q
theorem c_bin {f : F2} (q : ta δ fun r δ1 => tb δ1 fun r2 δ2 => f r r2 δ2 Q) : dBin f ta tb δ Q := q
theorem c_un {f : F1} (q : ta δ fun r δ1 => f r δ1 Q) : dUn f ta δ Q := q
theorem c_ul {f : FL} (q : ta δ fun r δ1 => f r δ1 QA) : dUL f ta δ QA := q
theorem c_add (q : Q (.dat (.int (i + j))) δ) : fAdd (.dat (.int i)) (.dat (.int j)) δ Q := q
theorem c_sub (q : Q (.dat (.int (i - j))) δ) : fSub (.dat (.int i)) (.dat (.int j)) δ Q := q
theorem c_mul (hc : CM i j) (q : Q (.dat (.int (i * j))) δ) : fMul (.dat (.int i)) (.dat (.int j)) δ Q := ⟨hc, q⟩
theorem c_div (hc : CD i j) (q : Q (.dat (.int (i / j))) δ) : fDiv (.dat (.int i)) (.dat (.int j)) δ Q := ⟨hc, q⟩
theorem c_mod (hc : 0 < j) (q : Q (.dat (.int (i % j))) δ) : fMod (.dat (.int i)) (.dat (.int j)) δ Q := ⟨hc, q⟩
theorem c_shl (hc : CS i j) (q : Q (.dat (.int (i * 2 ^ j.toNat))) δ) : fShl (.dat (.int i)) (.dat (.int j)) δ Q := ⟨hc, q⟩
theorem c_band (q : Q (.dat (.int (Builtin.bitAnd i j))) δ) : fAnd (.dat (.int i)) (.dat (.int j)) δ Q := q
theorem c_bor (q : Q (.dat (.int (Builtin.bitOr i j))) δ) : fOr (.dat (.int i)) (.dat (.int j)) δ Q := q
theorem c_lt (q : Q (.dat (.bl (decide (i < j)))) δ) : fLt (.dat (.int i)) (.dat (.int j)) δ Q := q
theorem c_le (q : Q (.dat (.bl (decide (i ≤ j)))) δ) : fLe (.dat (.int i)) (.dat (.int j)) δ Q := q
theorem c_gt (q : Q (.dat (.bl (decide (j < i)))) δ) : fGt (.dat (.int i)) (.dat (.int j)) δ Q := q
theorem c_ge (q : Q (.dat (.bl (decide (j ≤ i)))) δ) : fGe (.dat (.int i)) (.dat (.int j)) δ Q := q
theorem c_eqI (q : Q (.dat (.bl (decide (i = j)))) δ) : fEq (.dat (.int i)) (.dat (.int j)) δ Q := q
theorem c_neI (q : Q (.dat (.bl (!decide (i = j)))) δ) : fNe (.dat (.int i)) (.dat (.int j)) δ Q := q
theorem c_eqB {x y : Bool} (q : Q (.dat (.bl (decide (x = y)))) δ) : fEq (.dat (.bl x)) (.dat (.bl y)) δ Q := q
theorem c_eqS {x y : Str} (q : Q (.dat (.bl (decide (x = y)))) δ) : fEq (.dat (.str x)) (.dat (.str y)) δ Q := q
theorem c_neS {x y : Str} (q : Q (.dat (.bl (!decide (x = y)))) δ) : fNe (.dat (.str x)) (.dat (.str y)) δ Q := q
theorem c_eqP {i j k l : Int} (h1 : d = .tup [.int i, .int j]) (h2 : e = .tup [.int k, .int l]) (q : Q (.dat (.bl (decide (i = k) && decide (j = l)))) δ) : fEqP (.dat d) (.dat e) δ Q := by subst h1; subst h2; exact q
theorem c_notInI (ns : List Int) (h : seqOf r δ = some (ns.map D.int)) (q : Q (.dat (.bl (!decide (i ∈ ns)))) δ) : fNotInI (.dat (.int i)) r δ Q := by
  unfold fNotInI
  simp only [h]
  exact ⟨ns, rfl, q⟩
theorem c_notInP (ps : List (Int × Int)) (h : lstOf r δ = some (ps.map prD)) (q : Q (.dat (.bl (!decide ((i, j) ∈ ps)))) δ) : fNotInP (.dat (.tup [.int i, .int j])) r δ Q := by
  unfold fNotInP
  simp only [h]
  exact ⟨ps, rfl, q⟩
theorem c_catT (h1 : d = .tup ds) (h2 : e = .tup es) (hl : ds.length + es.length ≤ 1000) (q : Q (.dat (.tup (ds ++ es))) δ) : fCatT (.dat d) (.dat e) δ Q := by subst h1; subst h2; exact ⟨hl, q⟩
theorem c_ix (h : seqOf r δ = some ds) (hi : atI ds i = some d) (q : Q (.dat d) δ) : fIx r (.dat (.int i)) δ Q := by
  unfold fIx
  simp only [h, hi]
  exact q
theorem c_isN (q : Q (.dat (.bl (R.dat d).isN)) δ) : fD fIsN (.dat d) δ Q := q
theorem c_notN (q : Q (.dat (.bl (!(R.dat d).isN))) δ) : fD fNotN (.dat d) δ Q := q
theorem c_neg (q : Q (.dat (.int (-i))) δ) : fNeg (.dat (.int i)) δ Q := q
theorem c_notV (q : Q (.dat (.bl (!b))) δ) : fNotV (.dat (.bl b)) δ Q := q
theorem c_isi {f : D → Bool} (q : Q (.dat (.bl (f d))) δ) : fIsi f (.dat d) δ Q := q
theorem c_len (h : seqOf r δ = some ds) (q : Q (.dat (.int ds.length)) δ) : fLen r δ Q := by
  unfold fLen
  simp only [h]
  exact q
theorem c_int (q : Q (.dat (.int i)) δ) : fInt (.dat (.int i)) δ Q := q
theorem c_bits (q : Q (.dat (.int (Builtin.Int.intBits i : Nat))) δ) : fBits (.dat (.int i)) δ Q := q
theorem c_tupOf (h : seqOf r δ = some ds) (q : Q (.dat (.tup ds)) δ) : fTupOf r δ Q := by
  unfold fTupOf
  simp only [h]
  exact q
theorem c_listOf (h : seqOf r δ = some ds) (q : QA ds δ) : fListOf r δ QA := by
  unfold fListOf
  simp only [h]
  exact q
theorem c_sortP (ps : List (Int × Int)) (h : lstOf r δ = some (ps.map prD)) (q : ∀ qs : List (Int × Int), qs.Perm ps → qs.Pairwise lexLe → QA (qs.map prD) δ) : fSortP r δ QA := ⟨ps, h, q⟩
theorem c_sortSet (ns : List Int) (h : lstOf r δ = some (ns.map D.int)) (hl : ns.length < 64) (q : ∀ out : List Int, out.Pairwise (· < ·) → (∀ k, k ∈ out ↔ k ∈ ns) → QA (out.map D.int) δ) : fSortSet r δ QA := ⟨ns, h, hl, q⟩
theorem c_maxL (ns : List Int) (h : lstOf r δ = some (ns.map D.int)) (hl : 0 < ns.length) (q : ∀ m, m ∈ ns → (∀ y, y ∈ ns → y ≤ m) → Q (.dat (.int m)) δ) : fMaxL r δ Q := ⟨ns, h, hl, q⟩
theorem c_andV (q : ta δ fun r δ1 => kB (fun c => if c = true then tb δ1 Q else Q (.dat (.bl false)) δ1) r) : dAndV ta tb δ Q := q
theorem c_orV (q : ta δ fun r δ1 => kB (fun c => if c = true then Q (.dat (.bl true)) δ1 else tb δ1 Q) r) : dOrV ta tb δ Q := q
theorem c_bl {P : Bool → Prop} (q : P b) : kB P (.dat (.bl b)) := q
theorem c_oi {P : Int → Prop} (q : P i) : kI P (.dat (.int i)) := q
theorem c_tst (q : te δ fun r δ1 => kB (fun c => QT c δ1) r) : dTst te δ QT := q
theorem c_and (q : c δ fun x δ1 => if x = true then c2 δ1 QT else QT false δ1) : dAnd c c2 δ QT := q
theorem c_or (q : c δ fun x δ1 => if x = true then QT true δ1 else c2 δ1 QT) : dOr c c2 δ QT := q
theorem c_not (q : c δ fun x δ1 => QT (!x) δ1) : dNot c δ QT := q
theorem c_yes (q : QT true δ) : dYes δ QT := q
theorem c_noPart (q : QO none δ) : dNoPart δ QO := q
theorem c_part (q : te δ fun r δ1 => kI (fun i => QO (some i) δ1) r) : dPart te δ QO := q
theorem c_slT (q : te δ fun r δ1 => lo δ1 fun l δ2 => hi δ2 fun u δ3 => kT (fun ds => kCut (fun es => Q (.dat (.tup es)) δ3) (cut ds l u)) r) : dSlT te lo hi δ Q := q
theorem c_slT2 {P : List D → Prop} (h : d = .tup ds) (q : P ds) : kT P (.dat d) := by subst h; exact q
theorem c_cut {P : List D → Prop} (h : ds = es) (q : P es) : kCut P ds := by subst h; exact q
theorem c_slL (q : te δ fun r δ1 => lo δ1 fun l δ2 => hi δ2 fun u δ3 => kO (fun ds => QA (cut ds l u) δ3) (lstOf r δ3)) : dSlL te lo hi δ QA := q
theorem c_slL2 {P : List D → Prop} {o : Option (List D)} (h : o = some ds) (q : P ds) : kO P o := by subst h; exact q
theorem c_cat (q : ta δ fun r δ1 => tb δ1 fun r2 δ2 => kCat (fun ds es => ds.length + es.length ≤ 100000 ∧ QA (ds ++ es) δ2) (lstOf r δ2) (lstOf r2 δ2)) : dCatL ta tb δ QA := q
theorem c_cat2 {P : List D → List D → Prop} {o1 o2 : Option (List D)} (h1 : o1 = some ds) (h2 : o2 = some es) (hl : ds.length + es.length ≤ 100000) (q : P ds es) : kCat (fun ds es => ds.length + es.length ≤ 100000 ∧ P ds es) o1 o2 := by subst h1; subst h2; exact ⟨hl, q⟩
theorem c_c2 {g : Int → Int → Int} (q : tr δ fun ds δ1 => k2 (fun i j => Q (.dat (.int (g i j))) δ1) ds) : dC2 g tr δ Q := q
theorem c_c22 {P : Int → Int → Prop} (q : P i j) : k2 P [.int i, .int j] := q
theorem c_lcm (q : tr δ fun ds δ1 => k2 (fun i j => (i.natAbs < 2 ^ 64 ∧ j.natAbs < 2 ^ 64) ∧ Q (.dat (.int ((Nat.lcm i.natAbs j.natAbs : Nat) : Int))) δ1) ds) : dLcm tr δ Q := q
theorem c_call {C : DC} (q : tr δ fun ds δ1 => C ds fun d => Q (.dat d) δ1) : dCall C tr δ Q := q
theorem c_callF {C : DC} (h : δ[k]? = some (some .feed)) (q : tr δ fun ds δ1 => δ1[k]? = some (some .feed) ∧ C ds fun d => Q (.dat d) δ1) : dCallF k C tr δ Q := ⟨h, q⟩
theorem c_fed {P : Prop} (h : δ[k]? = some (some .feed)) (q : P) : δ[k]? = some (some .feed) ∧ P := ⟨h, q⟩
theorem c_callX {C : DCX} {xc : V → V → Prop} (q : tr δ fun ds δ1 => C ds (fun d => Q (.dat d) δ1) xc) : dCallX C xc tr δ Q := q
theorem c_le1000 {P : Prop} (h : ds.length ≤ 1000) (q : P) : ds.length ≤ 1000 ∧ P := ⟨h, q⟩
/-! sources, blocks -/
theorem c_srcT (q : te δ fun r δ1 => kT (fun ds => QA ds δ1) r) : dSrcT te δ QA := q
theorem c_srcL (q : te δ fun r δ1 => val r δ1 fun d δ2 => kL (fun ds => QA ds δ2) d) : dSrcL te δ QA := q
theorem c_srcL2 {P : List D → Prop} (h : d = .lst ds) (q : P ds) : kL P d := by subst h; exact q
theorem c_rng1 (q : tr δ fun ds δ1 => k1 (fun n => (-1000000000000000000 ≤ n ∧ n ≤ 1000000000000000000) ∧ QA (intsD 0 n.toNat) δ1) ds) : dRng1 tr δ QA := q
theorem c_rng12 {P : Int → Prop} (q : P i) : k1 P [.int i] := q
theorem c_rng2 (q : tr δ fun ds δ1 => k2 (fun m n => (-1000000000000000000 ≤ m ∧ m ≤ 1000000000000000000 ∧ -1000000000000000000 ≤ n ∧ n ≤ 1000000000000000000) ∧ QA (intsD m (n - m).toNat) δ1) ds) : dRng2 tr δ QA := q
theorem c_rngOk {P : Prop} (h : -1000000000000000000 ≤ i ∧ i ≤ 1000000000000000000) (q : P) : (-1000000000000000000 ≤ i ∧ i ≤ 1000000000000000000) ∧ P := ⟨h, q⟩
theorem c_enT (q : te δ fun r δ1 => kT (fun ds => QA (enD 0 ds) δ1) r) : dEnumT te δ QA := q
theorem c_lc {g : DTG} {vs : List Nat} (q : ti δ fun ds δ1 => noMut δ1 vs = true ∧ lcL g c te (wipeD δ1 vs) ds [] fun out => QA out δ1) : dLc ti g c te vs δ QA := q
theorem c_map {α : Type} {vs : List Nat} {i : Nat} (xs : List α) (dn out : α → D) (hm : noMut δ vs = true) (hl : xs.length ≤ 100000)
    (h : ∀ x, x ∈ xs → Ev te ((wipeD δ vs).set i (some (.dat (dn x)))) (.dat (out x)) ((wipeD δ vs).set i (some (.dat (dn x))))) {QL : List D → Prop} (q : QL (xs.map out)) :
    noMut δ vs = true ∧ lcL (dgName i) dYes te (wipeD δ vs) (xs.map dn) [] QL :=
  ⟨hm, by
    have := lcL_map (tt := dYes) dn out (fun _ => true) QL xs [] (by simpa using hl) (fun x hx => ⟨et_yes, fun _ => h x hx⟩) (by rw [List.filter_eq_self.mpr (fun _ _ => rfl)]; simpa using q)
    exact this⟩
theorem c_fil {α : Type} {vs : List Nat} {i : Nat} (xs : List α) (dn out : α → D) (p : α → Bool) (hm : noMut δ vs = true) (hl : xs.length ≤ 100000)
    (h : ∀ x, x ∈ xs → EvT c ((wipeD δ vs).set i (some (.dat (dn x)))) (p x) ((wipeD δ vs).set i (some (.dat (dn x)))) ∧ (p x = true → Ev te ((wipeD δ vs).set i (some (.dat (dn x)))) (.dat (out x)) ((wipeD δ vs).set i (some (.dat (dn x)))))) {QL : List D → Prop} (q : QL ((xs.filter p).map out)) :
    noMut δ vs = true ∧ lcL (dgName i) c te (wipeD δ vs) (xs.map dn) [] QL :=
  ⟨hm, lcL_map dn out p QL xs [] (by simpa using hl) h (by simpa using q)⟩
theorem c_mapP {α : Type} {vs : List Nat} {i j : Nat} (xs : List α) (d1 d2 out : α → D) (hm : noMut δ vs = true) (hl : xs.length ≤ 100000)
    (h : ∀ x, x ∈ xs → Ev te (((wipeD δ vs).set i (some (.dat (d1 x)))).set j (some (.dat (d2 x)))) (.dat (out x)) (((wipeD δ vs).set i (some (.dat (d1 x)))).set j (some (.dat (d2 x))))) {QL : List D → Prop} (q : QL (xs.map out)) :
    noMut δ vs = true ∧ lcL (dgTup 2 (dgCons (dgName i) (dgCons (dgName j) dgNil))) dYes te (wipeD δ vs) (xs.map fun x => D.tup [d1 x, d2 x]) [] QL :=
  el_mapP (ti := fun δ Q => Q (xs.map fun x => D.tup [d1 x, d2 x]) δ) xs d1 d2 out (fun Q q => q) hm hl h (fun o _ => QL o) q
end
section
variable {P : DEnds} {δ δ1 : En} {te t1 : DTE} {tr ti : DTA} {t u : DTS} {c : DTT} {r r2 : R} {d e : D} {ds : List D} {i j : Nat} {k n : Int} {g : DTG} {tb : DTS}
theorem s_seq (q : t { nx := u P, rt := P.rt, bk := P.bk, ct := P.ct } δ) : dSeq t u P δ := q
theorem s_asg (q : te δ fun r δ1 => val r δ1 fun d δ2 => P.nx (δ2.set i (some (.dat d)))) : dAsg te (dgName i) P δ := q
theorem s_asgG (q : te δ fun r δ1 => val r δ1 fun d δ2 => g d δ2 P.nx) : dAsg te g P δ := q
theorem s_asgL (q : tr δ fun ds δ1 => P.nx (δ1.set i (some (.own ds)))) : dAsgL i tr P δ := q
theorem s_asg2 {a b : Nat} (q : te δ fun r δ1 => val r δ1 fun d δ2 => dgTup 2 (dgCons (dgName a) (dgCons (dgName b) dgNil)) d δ2 P.nx) : dAsg te (dgTup 2 (dgCons (dgName a) (dgCons (dgName b) dgNil))) P δ := q
theorem c_g2 {Q : En → Prop} {a b : Nat} {d1 : D} (h : d1 = .tup [d, e]) (q : Q ((δ.set a (some (.dat d))).set b (some (.dat e)))) : dgTup 2 (dgCons (dgName a) (dgCons (dgName b) dgNil)) d1 δ Q := by subst h; exact ⟨rfl, q⟩
theorem s_seqL {n : En → Prop} {rt : D → En → Prop} {b c : En → Prop} (q : t { nx := u ⟨n, rt, b, c⟩, rt := rt, bk := b, ct := c } δ) : dSeq t u ⟨n, rt, b, c⟩ δ := q
theorem abs {Q : R → En → Prop} (h : Ev te δ r δ1) (q : Q r δ1) : te δ Q := h Q q
theorem absA {Q : List D → En → Prop} (h : EvA tr δ ds δ1) (q : Q ds δ1) : tr δ Q := h Q q
theorem absT {b : Bool} {Q : Bool → En → Prop} (h : EvT c δ b δ1) (q : Q b δ1) : c δ Q := h Q q
theorem s_next (q : P.nx δ) : dNext P δ := q
theorem s_brk (q : P.bk δ) : dBrk P δ := q
theorem s_cont (q : P.ct δ) : dCont P δ := q
theorem s_ret (q : te δ fun r δ1 => val r δ1 fun d δ2 => P.rt d δ2) : dRet te P δ := q
theorem s_drop (q : te δ fun _ δ1 => P.nx δ1) : dDrop te P δ := q
theorem s_if (q : c δ fun b δ1 => if b = true then t P δ1 else u P δ1) : dIf c t u P δ := q
theorem s_for (q : ti δ fun ds δ1 => dForL g tb ds P δ1) : dFor ti g tb P δ := q
theorem s_par (q : tr δ fun ds δ1 => k2D (fun d e => P.nx ((δ1.set i (some (.dat d))).set j (some (.dat e)))) ds) : dPar i j tr P δ := q
theorem c_par2 {P : D → D → Prop} (q : P d e) : k2D P [d, e] := q
theorem s_app (h0 : δ[i]? = some (some (.own ds))) (q : te δ fun r δ1 => val r δ1 fun d δ2 => kOwn (fun ds => ds.length < 100000 ∧ P.nx (δ2.set i (some (.own (ds ++ [d]))))) δ2[i]?) : dApp i te P δ := ⟨⟨ds, h0⟩, q⟩
theorem c_app2 {P : List D → Prop} {o : Option (Option Cell)} (h0 : o = some (some (.own ds))) (hl : ds.length < 100000) (q : P ds) : kOwn (fun ds => ds.length < 100000 ∧ P ds) o := by subst h0; exact ⟨hl, q⟩
theorem s_setI (q : te δ fun r δ1 => val r δ1 fun d δ2 => (∃ ds, δ2[i]? = some (some (.own ds))) ∧ t1 δ2 fun r2 δ3 => kSet (fun k ds => kIx (fun j => P.nx (δ3.set i (some (.own (ds.set j d))))) (ixN ds.length k)) r2 δ3[i]?) : dSetI i te t1 P δ := q
theorem c_own {X : Prop} (h0 : δ[i]? = some (some (.own ds))) (q : X) : (∃ ds, δ[i]? = some (some (.own ds))) ∧ X := ⟨⟨ds, h0⟩, q⟩
theorem c_setI2 {P : Nat → List D → Prop} {o : Option (Option Cell)} (h0 : o = some (some (.own ds))) (hj : ixN ds.length k = some j) (q : P j ds) : kSet (fun k ds => kIx (fun j => P j ds) (ixN ds.length k)) (.dat (.int k)) o := by subst h0; show kIx _ (ixN ds.length k); rw [hj]; exact q
theorem s_aug (h0 : δ[i]? = some (some (.dat (.int k)))) (q : te δ fun r δ1 => kI (fun n => P.nx (δ1.set i (some (.dat (.int (k + n)))))) r) : dAug i te P δ := by
  unfold dAug
  simp only [h0]
  exact q
/-- loops -/
theorem l_N {α : Type} (xs : List α) (dn : α → D) (I : Nat → En → Prop) (h0 : I 0 δ)
    (hs : ∀ n x δ2 (N : En → Prop), xs[n]? = some x → I n δ2 → (∀ y, I (n + 1) y → N y) → tb { nx := N, rt := P.rt, bk := P.nx, ct := N } (δ2.set i (some (.dat (dn x)))))
    (hd : ∀ δ2, I xs.length δ2 → P.nx δ2) : dForL (dgName i) tb (xs.map dn) P δ :=
  g_for (ti := fun δ Q => Q (xs.map dn) δ) I (fun Q q => q) h0 (fun n d δ2 N hn hI hN => by
    obtain ⟨x, h1, rfl⟩ := map_get hn
    exact hs n x δ2 N h1 hI hN) fun δ2 h => hd δ2 (by simpa using h)
theorem l_R {lo : Int} {m : Nat} (I : Nat → En → Prop) (h0 : I 0 δ)
    (hs : ∀ n δ2 (N : En → Prop), n < m → I n δ2 → (∀ y, I (n + 1) y → N y) → tb { nx := N, rt := P.rt, bk := P.nx, ct := N } (δ2.set i (some (.dat (.int (lo + (n : Int)))))))
    (hd : ∀ δ2, I m δ2 → P.nx δ2) : dForL (dgName i) tb (intsD lo m) P δ :=
  l_N (List.range m) (fun k => D.int (lo + (k : Int))) I h0 (fun n x δ2 N hn hI hN => by
    have hl := lt_get hn
    rw [List.length_range] at hl
    rw [List.getElem?_range hl] at hn
    cases hn
    exact hs n δ2 N hl hI hN) fun δ2 h => hd δ2 (by simpa using h)
theorem l_L (I : Nat → En → Prop) (h0 : I 0 δ)
    (hs : ∀ n d δ2 (N : En → Prop), ds[n]? = some d → I n δ2 → (∀ y, I (n + 1) y → N y) → g d δ2 fun δ3 => tb { nx := N, rt := P.rt, bk := P.nx, ct := N } δ3)
    (hd : ∀ δ2, I ds.length δ2 → P.nx δ2) : dForL g tb ds P δ :=
  g_for (ti := fun δ Q => Q ds δ) I (fun Q q => q) h0 hs hd
theorem l_cons (q : g d δ fun δ1 => tb { nx := fun δ2 => dForL g tb ds P δ2, rt := P.rt, bk := P.nx, ct := fun δ2 => dForL g tb ds P δ2 } δ1) : dForL g tb (d :: ds) P δ := q
theorem l_nil (q : P.nx δ) : dForL g tb [] P δ := q
end
end DL
end
section
set_option Elab.async false
set_option linter.all false
set_option maxRecDepth 100000
/-! readings as equations, for simp from the outside in -/
namespace DL
open PySem PySem.Spec PyProof.Rows L2
def kAt (P : D → Prop) (o : Option D) : Prop := match o with
  | some d => P d
  | none => False
def kOb (o : Option (List D)) (F : List D → Option D) : Option D := match o with
  | some ds => F ds
  | none => none
section
variable {δ δ1 : En} {te ta tb : DTE} {tr tl ti : DTA} {c c2 : DTT} {d d2 e : D} {ds es : List D} {i j : Int} {b b1 : Bool} {lo hi : DTO} {l h : Option Int} {Q : R → En → Prop} {QA : List D → En → Prop} {QT : Bool → En → Prop} {QO : Option Int → En → Prop} {QD : D → En → Prop} {r r1 r2 : R}
theorem e_var0  : dVar 0 (some (.dat d) :: δ) Q = Q (.dat d) (some (.dat d) :: δ) := rfl
theorem e_box0  : dVar 0 (some (.own ds) :: δ) Q = Q (.box 0) (some (.own ds) :: δ) := rfl
theorem e_seq0  : seqOf (.box 0) (some (.own ds) :: δ) = some ds := rfl
theorem e_lst0  : lstOf (.box 0) (some (.own ds) :: δ) = some ds := rfl
theorem e_var1 {x0 : Option Cell} : dVar 1 (x0 :: some (.dat d) :: δ) Q = Q (.dat d) (x0 :: some (.dat d) :: δ) := rfl
theorem e_box1 {x0 : Option Cell} : dVar 1 (x0 :: some (.own ds) :: δ) Q = Q (.box 1) (x0 :: some (.own ds) :: δ) := rfl
theorem e_seq1 {x0 : Option Cell} : seqOf (.box 1) (x0 :: some (.own ds) :: δ) = some ds := rfl
theorem e_lst1 {x0 : Option Cell} : lstOf (.box 1) (x0 :: some (.own ds) :: δ) = some ds := rfl
theorem e_var2 {x0 x1 : Option Cell} : dVar 2 (x0 :: x1 :: some (.dat d) :: δ) Q = Q (.dat d) (x0 :: x1 :: some (.dat d) :: δ) := rfl
theorem e_box2 {x0 x1 : Option Cell} : dVar 2 (x0 :: x1 :: some (.own ds) :: δ) Q = Q (.box 2) (x0 :: x1 :: some (.own ds) :: δ) := rfl
theorem e_seq2 {x0 x1 : Option Cell} : seqOf (.box 2) (x0 :: x1 :: some (.own ds) :: δ) = some ds := rfl
theorem e_lst2 {x0 x1 : Option Cell} : lstOf (.box 2) (x0 :: x1 :: some (.own ds) :: δ) = some ds := rfl
theorem e_var3 {x0 x1 x2 : Option Cell} : dVar 3 (x0 :: x1 :: x2 :: some (.dat d) :: δ) Q = Q (.dat d) (x0 :: x1 :: x2 :: some (.dat d) :: δ) := rfl
theorem e_box3 {x0 x1 x2 : Option Cell} : dVar 3 (x0 :: x1 :: x2 :: some (.own ds) :: δ) Q = Q (.box 3) (x0 :: x1 :: x2 :: some (.own ds) :: δ) := rfl
theorem e_seq3 {x0 x1 x2 : Option Cell} : seqOf (.box 3) (x0 :: x1 :: x2 :: some (.own ds) :: δ) = some ds := rfl
theorem e_lst3 {x0 x1 x2 : Option Cell} : lstOf (.box 3) (x0 :: x1 :: x2 :: some (.own ds) :: δ) = some ds := rfl
theorem e_var4 {x0 x1 x2 x3 : Option Cell} : dVar 4 (x0 :: x1 :: x2 :: x3 :: some (.dat d) :: δ) Q = Q (.dat d) (x0 :: x1 :: x2 :: x3 :: some (.dat d) :: δ) := rfl
theorem e_box4 {x0 x1 x2 x3 : Option Cell} : dVar 4 (x0 :: x1 :: x2 :: x3 :: some (.own ds) :: δ) Q = Q (.box 4) (x0 :: x1 :: x2 :: x3 :: some (.own ds) :: δ) := rfl
theorem e_seq4 {x0 x1 x2 x3 : Option Cell} : seqOf (.box 4) (x0 :: x1 :: x2 :: x3 :: some (.own ds) :: δ) = some ds := rfl
theorem e_lst4 {x0 x1 x2 x3 : Option Cell} : lstOf (.box 4) (x0 :: x1 :: x2 :: x3 :: some (.own ds) :: δ) = some ds := rfl
theorem e_var5 {x0 x1 x2 x3 x4 : Option Cell} : dVar 5 (x0 :: x1 :: x2 :: x3 :: x4 :: some (.dat d) :: δ) Q = Q (.dat d) (x0 :: x1 :: x2 :: x3 :: x4 :: some (.dat d) :: δ) := rfl
theorem e_box5 {x0 x1 x2 x3 x4 : Option Cell} : dVar 5 (x0 :: x1 :: x2 :: x3 :: x4 :: some (.own ds) :: δ) Q = Q (.box 5) (x0 :: x1 :: x2 :: x3 :: x4 :: some (.own ds) :: δ) := rfl
theorem e_seq5 {x0 x1 x2 x3 x4 : Option Cell} : seqOf (.box 5) (x0 :: x1 :: x2 :: x3 :: x4 :: some (.own ds) :: δ) = some ds := rfl
theorem e_lst5 {x0 x1 x2 x3 x4 : Option Cell} : lstOf (.box 5) (x0 :: x1 :: x2 :: x3 :: x4 :: some (.own ds) :: δ) = some ds := rfl
theorem e_var6 {x0 x1 x2 x3 x4 x5 : Option Cell} : dVar 6 (x0 :: x1 :: x2 :: x3 :: x4 :: x5 :: some (.dat d) :: δ) Q = Q (.dat d) (x0 :: x1 :: x2 :: x3 :: x4 :: x5 :: some (.dat d) :: δ) := rfl
theorem e_box6 {x0 x1 x2 x3 x4 x5 : Option Cell} : dVar 6 (x0 :: x1 :: x2 :: x3 :: x4 :: x5 :: some (.own ds) :: δ) Q = Q (.box 6) (x0 :: x1 :: x2 :: x3 :: x4 :: x5 :: some (.own ds) :: δ) := rfl
theorem e_seq6 {x0 x1 x2 x3 x4 x5 : Option Cell} : seqOf (.box 6) (x0 :: x1 :: x2 :: x3 :: x4 :: x5 :: some (.own ds) :: δ) = some ds := rfl
theorem e_lst6 {x0 x1 x2 x3 x4 x5 : Option Cell} : lstOf (.box 6) (x0 :: x1 :: x2 :: x3 :: x4 :: x5 :: some (.own ds) :: δ) = some ds := rfl
theorem e_var7 {x0 x1 x2 x3 x4 x5 x6 : Option Cell} : dVar 7 (x0 :: x1 :: x2 :: x3 :: x4 :: x5 :: x6 :: some (.dat d) :: δ) Q = Q (.dat d) (x0 :: x1 :: x2 :: x3 :: x4 :: x5 :: x6 :: some (.dat d) :: δ) := rfl
theorem e_box7 {x0 x1 x2 x3 x4 x5 x6 : Option Cell} : dVar 7 (x0 :: x1 :: x2 :: x3 :: x4 :: x5 :: x6 :: some (.own ds) :: δ) Q = Q (.box 7) (x0 :: x1 :: x2 :: x3 :: x4 :: x5 :: x6 :: some (.own ds) :: δ) := rfl
theorem e_seq7 {x0 x1 x2 x3 x4 x5 x6 : Option Cell} : seqOf (.box 7) (x0 :: x1 :: x2 :: x3 :: x4 :: x5 :: x6 :: some (.own ds) :: δ) = some ds := rfl
theorem e_lst7 {x0 x1 x2 x3 x4 x5 x6 : Option Cell} : lstOf (.box 7) (x0 :: x1 :: x2 :: x3 :: x4 :: x5 :: x6 :: some (.own ds) :: δ) = some ds := rfl
theorem e_var8 {x0 x1 x2 x3 x4 x5 x6 x7 : Option Cell} : dVar 8 (x0 :: x1 :: x2 :: x3 :: x4 :: x5 :: x6 :: x7 :: some (.dat d) :: δ) Q = Q (.dat d) (x0 :: x1 :: x2 :: x3 :: x4 :: x5 :: x6 :: x7 :: some (.dat d) :: δ) := rfl
theorem e_box8 {x0 x1 x2 x3 x4 x5 x6 x7 : Option Cell} : dVar 8 (x0 :: x1 :: x2 :: x3 :: x4 :: x5 :: x6 :: x7 :: some (.own ds) :: δ) Q = Q (.box 8) (x0 :: x1 :: x2 :: x3 :: x4 :: x5 :: x6 :: x7 :: some (.own ds) :: δ) := rfl
theorem e_seq8 {x0 x1 x2 x3 x4 x5 x6 x7 : Option Cell} : seqOf (.box 8) (x0 :: x1 :: x2 :: x3 :: x4 :: x5 :: x6 :: x7 :: some (.own ds) :: δ) = some ds := rfl
theorem e_lst8 {x0 x1 x2 x3 x4 x5 x6 x7 : Option Cell} : lstOf (.box 8) (x0 :: x1 :: x2 :: x3 :: x4 :: x5 :: x6 :: x7 :: some (.own ds) :: δ) = some ds := rfl
theorem e_var9 {x0 x1 x2 x3 x4 x5 x6 x7 x8 : Option Cell} : dVar 9 (x0 :: x1 :: x2 :: x3 :: x4 :: x5 :: x6 :: x7 :: x8 :: some (.dat d) :: δ) Q = Q (.dat d) (x0 :: x1 :: x2 :: x3 :: x4 :: x5 :: x6 :: x7 :: x8 :: some (.dat d) :: δ) := rfl
theorem e_box9 {x0 x1 x2 x3 x4 x5 x6 x7 x8 : Option Cell} : dVar 9 (x0 :: x1 :: x2 :: x3 :: x4 :: x5 :: x6 :: x7 :: x8 :: some (.own ds) :: δ) Q = Q (.box 9) (x0 :: x1 :: x2 :: x3 :: x4 :: x5 :: x6 :: x7 :: x8 :: some (.own ds) :: δ) := rfl
theorem e_seq9 {x0 x1 x2 x3 x4 x5 x6 x7 x8 : Option Cell} : seqOf (.box 9) (x0 :: x1 :: x2 :: x3 :: x4 :: x5 :: x6 :: x7 :: x8 :: some (.own ds) :: δ) = some ds := rfl
theorem e_lst9 {x0 x1 x2 x3 x4 x5 x6 x7 x8 : Option Cell} : lstOf (.box 9) (x0 :: x1 :: x2 :: x3 :: x4 :: x5 :: x6 :: x7 :: x8 :: some (.own ds) :: δ) = some ds := rfl
theorem e_var10 {x0 x1 x2 x3 x4 x5 x6 x7 x8 x9 : Option Cell} : dVar 10 (x0 :: x1 :: x2 :: x3 :: x4 :: x5 :: x6 :: x7 :: x8 :: x9 :: some (.dat d) :: δ) Q = Q (.dat d) (x0 :: x1 :: x2 :: x3 :: x4 :: x5 :: x6 :: x7 :: x8 :: x9 :: some (.dat d) :: δ) := rfl
theorem e_box10 {x0 x1 x2 x3 x4 x5 x6 x7 x8 x9 : Option Cell} : dVar 10 (x0 :: x1 :: x2 :: x3 :: x4 :: x5 :: x6 :: x7 :: x8 :: x9 :: some (.own ds) :: δ) Q = Q (.box 10) (x0 :: x1 :: x2 :: x3 :: x4 :: x5 :: x6 :: x7 :: x8 :: x9 :: some (.own ds) :: δ) := rfl
theorem e_seq10 {x0 x1 x2 x3 x4 x5 x6 x7 x8 x9 : Option Cell} : seqOf (.box 10) (x0 :: x1 :: x2 :: x3 :: x4 :: x5 :: x6 :: x7 :: x8 :: x9 :: some (.own ds) :: δ) = some ds := rfl
theorem e_lst10 {x0 x1 x2 x3 x4 x5 x6 x7 x8 x9 : Option Cell} : lstOf (.box 10) (x0 :: x1 :: x2 :: x3 :: x4 :: x5 :: x6 :: x7 :: x8 :: x9 :: some (.own ds) :: δ) = some ds := rfl
theorem e_var11 {x0 x1 x2 x3 x4 x5 x6 x7 x8 x9 x10 : Option Cell} : dVar 11 (x0 :: x1 :: x2 :: x3 :: x4 :: x5 :: x6 :: x7 :: x8 :: x9 :: x10 :: some (.dat d) :: δ) Q = Q (.dat d) (x0 :: x1 :: x2 :: x3 :: x4 :: x5 :: x6 :: x7 :: x8 :: x9 :: x10 :: some (.dat d) :: δ) := rfl
theorem e_box11 {x0 x1 x2 x3 x4 x5 x6 x7 x8 x9 x10 : Option Cell} : dVar 11 (x0 :: x1 :: x2 :: x3 :: x4 :: x5 :: x6 :: x7 :: x8 :: x9 :: x10 :: some (.own ds) :: δ) Q = Q (.box 11) (x0 :: x1 :: x2 :: x3 :: x4 :: x5 :: x6 :: x7 :: x8 :: x9 :: x10 :: some (.own ds) :: δ) := rfl
theorem e_seq11 {x0 x1 x2 x3 x4 x5 x6 x7 x8 x9 x10 : Option Cell} : seqOf (.box 11) (x0 :: x1 :: x2 :: x3 :: x4 :: x5 :: x6 :: x7 :: x8 :: x9 :: x10 :: some (.own ds) :: δ) = some ds := rfl
theorem e_lst11 {x0 x1 x2 x3 x4 x5 x6 x7 x8 x9 x10 : Option Cell} : lstOf (.box 11) (x0 :: x1 :: x2 :: x3 :: x4 :: x5 :: x6 :: x7 :: x8 :: x9 :: x10 :: some (.own ds) :: δ) = some ds := rfl
theorem e_var12 {x0 x1 x2 x3 x4 x5 x6 x7 x8 x9 x10 x11 : Option Cell} : dVar 12 (x0 :: x1 :: x2 :: x3 :: x4 :: x5 :: x6 :: x7 :: x8 :: x9 :: x10 :: x11 :: some (.dat d) :: δ) Q = Q (.dat d) (x0 :: x1 :: x2 :: x3 :: x4 :: x5 :: x6 :: x7 :: x8 :: x9 :: x10 :: x11 :: some (.dat d) :: δ) := rfl
theorem e_box12 {x0 x1 x2 x3 x4 x5 x6 x7 x8 x9 x10 x11 : Option Cell} : dVar 12 (x0 :: x1 :: x2 :: x3 :: x4 :: x5 :: x6 :: x7 :: x8 :: x9 :: x10 :: x11 :: some (.own ds) :: δ) Q = Q (.box 12) (x0 :: x1 :: x2 :: x3 :: x4 :: x5 :: x6 :: x7 :: x8 :: x9 :: x10 :: x11 :: some (.own ds) :: δ) := rfl
theorem e_seq12 {x0 x1 x2 x3 x4 x5 x6 x7 x8 x9 x10 x11 : Option Cell} : seqOf (.box 12) (x0 :: x1 :: x2 :: x3 :: x4 :: x5 :: x6 :: x7 :: x8 :: x9 :: x10 :: x11 :: some (.own ds) :: δ) = some ds := rfl
theorem e_lst12 {x0 x1 x2 x3 x4 x5 x6 x7 x8 x9 x10 x11 : Option Cell} : lstOf (.box 12) (x0 :: x1 :: x2 :: x3 :: x4 :: x5 :: x6 :: x7 :: x8 :: x9 :: x10 :: x11 :: some (.own ds) :: δ) = some ds := rfl
theorem e_var13 {x0 x1 x2 x3 x4 x5 x6 x7 x8 x9 x10 x11 x12 : Option Cell} : dVar 13 (x0 :: x1 :: x2 :: x3 :: x4 :: x5 :: x6 :: x7 :: x8 :: x9 :: x10 :: x11 :: x12 :: some (.dat d) :: δ) Q = Q (.dat d) (x0 :: x1 :: x2 :: x3 :: x4 :: x5 :: x6 :: x7 :: x8 :: x9 :: x10 :: x11 :: x12 :: some (.dat d) :: δ) := rfl
theorem e_box13 {x0 x1 x2 x3 x4 x5 x6 x7 x8 x9 x10 x11 x12 : Option Cell} : dVar 13 (x0 :: x1 :: x2 :: x3 :: x4 :: x5 :: x6 :: x7 :: x8 :: x9 :: x10 :: x11 :: x12 :: some (.own ds) :: δ) Q = Q (.box 13) (x0 :: x1 :: x2 :: x3 :: x4 :: x5 :: x6 :: x7 :: x8 :: x9 :: x10 :: x11 :: x12 :: some (.own ds) :: δ) := rfl
theorem e_seq13 {x0 x1 x2 x3 x4 x5 x6 x7 x8 x9 x10 x11 x12 : Option Cell} : seqOf (.box 13) (x0 :: x1 :: x2 :: x3 :: x4 :: x5 :: x6 :: x7 :: x8 :: x9 :: x10 :: x11 :: x12 :: some (.own ds) :: δ) = some ds := rfl
theorem e_lst13 {x0 x1 x2 x3 x4 x5 x6 x7 x8 x9 x10 x11 x12 : Option Cell} : lstOf (.box 13) (x0 :: x1 :: x2 :: x3 :: x4 :: x5 :: x6 :: x7 :: x8 :: x9 :: x10 :: x11 :: x12 :: some (.own ds) :: δ) = some ds := rfl
theorem e_var14 {x0 x1 x2 x3 x4 x5 x6 x7 x8 x9 x10 x11 x12 x13 : Option Cell} : dVar 14 (x0 :: x1 :: x2 :: x3 :: x4 :: x5 :: x6 :: x7 :: x8 :: x9 :: x10 :: x11 :: x12 :: x13 :: some (.dat d) :: δ) Q = Q (.dat d) (x0 :: x1 :: x2 :: x3 :: x4 :: x5 :: x6 :: x7 :: x8 :: x9 :: x10 :: x11 :: x12 :: x13 :: some (.dat d) :: δ) := rfl
theorem e_box14 {x0 x1 x2 x3 x4 x5 x6 x7 x8 x9 x10 x11 x12 x13 : Option Cell} : dVar 14 (x0 :: x1 :: x2 :: x3 :: x4 :: x5 :: x6 :: x7 :: x8 :: x9 :: x10 :: x11 :: x12 :: x13 :: some (.own ds) :: δ) Q = Q (.box 14) (x0 :: x1 :: x2 :: x3 :: x4 :: x5 :: x6 :: x7 :: x8 :: x9 :: x10 :: x11 :: x12 :: x13 :: some (.own ds) :: δ) := rfl
theorem e_seq14 {x0 x1 x2 x3 x4 x5 x6 x7 x8 x9 x10 x11 x12 x13 : Option Cell} : seqOf (.box 14) (x0 :: x1 :: x2 :: x3 :: x4 :: x5 :: x6 :: x7 :: x8 :: x9 :: x10 :: x11 :: x12 :: x13 :: some (.own ds) :: δ) = some ds := rfl
theorem e_lst14 {x0 x1 x2 x3 x4 x5 x6 x7 x8 x9 x10 x11 x12 x13 : Option Cell} : lstOf (.box 14) (x0 :: x1 :: x2 :: x3 :: x4 :: x5 :: x6 :: x7 :: x8 :: x9 :: x10 :: x11 :: x12 :: x13 :: some (.own ds) :: δ) = some ds := rfl
theorem e_var15 {x0 x1 x2 x3 x4 x5 x6 x7 x8 x9 x10 x11 x12 x13 x14 : Option Cell} : dVar 15 (x0 :: x1 :: x2 :: x3 :: x4 :: x5 :: x6 :: x7 :: x8 :: x9 :: x10 :: x11 :: x12 :: x13 :: x14 :: some (.dat d) :: δ) Q = Q (.dat d) (x0 :: x1 :: x2 :: x3 :: x4 :: x5 :: x6 :: x7 :: x8 :: x9 :: x10 :: x11 :: x12 :: x13 :: x14 :: some (.dat d) :: δ) := rfl
theorem e_box15 {x0 x1 x2 x3 x4 x5 x6 x7 x8 x9 x10 x11 x12 x13 x14 : Option Cell} : dVar 15 (x0 :: x1 :: x2 :: x3 :: x4 :: x5 :: x6 :: x7 :: x8 :: x9 :: x10 :: x11 :: x12 :: x13 :: x14 :: some (.own ds) :: δ) Q = Q (.box 15) (x0 :: x1 :: x2 :: x3 :: x4 :: x5 :: x6 :: x7 :: x8 :: x9 :: x10 :: x11 :: x12 :: x13 :: x14 :: some (.own ds) :: δ) := rfl
theorem e_seq15 {x0 x1 x2 x3 x4 x5 x6 x7 x8 x9 x10 x11 x12 x13 x14 : Option Cell} : seqOf (.box 15) (x0 :: x1 :: x2 :: x3 :: x4 :: x5 :: x6 :: x7 :: x8 :: x9 :: x10 :: x11 :: x12 :: x13 :: x14 :: some (.own ds) :: δ) = some ds := rfl
theorem e_lst15 {x0 x1 x2 x3 x4 x5 x6 x7 x8 x9 x10 x11 x12 x13 x14 : Option Cell} : lstOf (.box 15) (x0 :: x1 :: x2 :: x3 :: x4 :: x5 :: x6 :: x7 :: x8 :: x9 :: x10 :: x11 :: x12 :: x13 :: x14 :: some (.own ds) :: δ) = some ds := rfl
theorem e_var16 {x0 x1 x2 x3 x4 x5 x6 x7 x8 x9 x10 x11 x12 x13 x14 x15 : Option Cell} : dVar 16 (x0 :: x1 :: x2 :: x3 :: x4 :: x5 :: x6 :: x7 :: x8 :: x9 :: x10 :: x11 :: x12 :: x13 :: x14 :: x15 :: some (.dat d) :: δ) Q = Q (.dat d) (x0 :: x1 :: x2 :: x3 :: x4 :: x5 :: x6 :: x7 :: x8 :: x9 :: x10 :: x11 :: x12 :: x13 :: x14 :: x15 :: some (.dat d) :: δ) := rfl
theorem e_box16 {x0 x1 x2 x3 x4 x5 x6 x7 x8 x9 x10 x11 x12 x13 x14 x15 : Option Cell} : dVar 16 (x0 :: x1 :: x2 :: x3 :: x4 :: x5 :: x6 :: x7 :: x8 :: x9 :: x10 :: x11 :: x12 :: x13 :: x14 :: x15 :: some (.own ds) :: δ) Q = Q (.box 16) (x0 :: x1 :: x2 :: x3 :: x4 :: x5 :: x6 :: x7 :: x8 :: x9 :: x10 :: x11 :: x12 :: x13 :: x14 :: x15 :: some (.own ds) :: δ) := rfl
theorem e_seq16 {x0 x1 x2 x3 x4 x5 x6 x7 x8 x9 x10 x11 x12 x13 x14 x15 : Option Cell} : seqOf (.box 16) (x0 :: x1 :: x2 :: x3 :: x4 :: x5 :: x6 :: x7 :: x8 :: x9 :: x10 :: x11 :: x12 :: x13 :: x14 :: x15 :: some (.own ds) :: δ) = some ds := rfl
theorem e_lst16 {x0 x1 x2 x3 x4 x5 x6 x7 x8 x9 x10 x11 x12 x13 x14 x15 : Option Cell} : lstOf (.box 16) (x0 :: x1 :: x2 :: x3 :: x4 :: x5 :: x6 :: x7 :: x8 :: x9 :: x10 :: x11 :: x12 :: x13 :: x14 :: x15 :: some (.own ds) :: δ) = some ds := rfl
theorem e_var17 {x0 x1 x2 x3 x4 x5 x6 x7 x8 x9 x10 x11 x12 x13 x14 x15 x16 : Option Cell} : dVar 17 (x0 :: x1 :: x2 :: x3 :: x4 :: x5 :: x6 :: x7 :: x8 :: x9 :: x10 :: x11 :: x12 :: x13 :: x14 :: x15 :: x16 :: some (.dat d) :: δ) Q = Q (.dat d) (x0 :: x1 :: x2 :: x3 :: x4 :: x5 :: x6 :: x7 :: x8 :: x9 :: x10 :: x11 :: x12 :: x13 :: x14 :: x15 :: x16 :: some (.dat d) :: δ) := rfl
theorem e_box17 {x0 x1 x2 x3 x4 x5 x6 x7 x8 x9 x10 x11 x12 x13 x14 x15 x16 : Option Cell} : dVar 17 (x0 :: x1 :: x2 :: x3 :: x4 :: x5 :: x6 :: x7 :: x8 :: x9 :: x10 :: x11 :: x12 :: x13 :: x14 :: x15 :: x16 :: some (.own ds) :: δ) Q = Q (.box 17) (x0 :: x1 :: x2 :: x3 :: x4 :: x5 :: x6 :: x7 :: x8 :: x9 :: x10 :: x11 :: x12 :: x13 :: x14 :: x15 :: x16 :: some (.own ds) :: δ) := rfl
theorem e_seq17 {x0 x1 x2 x3 x4 x5 x6 x7 x8 x9 x10 x11 x12 x13 x14 x15 x16 : Option Cell} : seqOf (.box 17) (x0 :: x1 :: x2 :: x3 :: x4 :: x5 :: x6 :: x7 :: x8 :: x9 :: x10 :: x11 :: x12 :: x13 :: x14 :: x15 :: x16 :: some (.own ds) :: δ) = some ds := rfl
theorem e_lst17 {x0 x1 x2 x3 x4 x5 x6 x7 x8 x9 x10 x11 x12 x13 x14 x15 x16 : Option Cell} : lstOf (.box 17) (x0 :: x1 :: x2 :: x3 :: x4 :: x5 :: x6 :: x7 :: x8 :: x9 :: x10 :: x11 :: x12 :: x13 :: x14 :: x15 :: x16 :: some (.own ds) :: δ) = some ds := rfl
theorem e_c  : dC d δ Q = Q (.dat d) δ := rfl
theorem e_nil  : dNil δ QA = QA [] δ := rfl
theorem e_cons  : dCons te tr δ QA = te δ fun r δ1 => val r δ1 fun d δ2 => tr δ2 fun ds δ3 => QA (d :: ds) δ3 := rfl
theorem e_val  : val (.dat d) δ QD = QD d δ := rfl
theorem e_tup  : dTup tr δ Q = tr δ fun ds δ1 => ds.length ≤ 1000 ∧ Q (.dat (.tup ds)) δ1 := rfl
theorem e_lstd  : dLst tr δ QA = tr δ fun ds δ1 => ds.length ≤ 1000 ∧ QA ds δ1 := rfl
theorem e_frz  : dFrz tl δ Q = tl δ fun ds δ1 => Q (.dat (.lst ds)) δ1 := rfl
theorem e_bin {f : F2} : dBin f ta tb δ Q = ta δ fun r δ1 => tb δ1 fun r2 δ2 => f r r2 δ2 Q := rfl
theorem e_un {f : F1} : dUn f ta δ Q = ta δ fun r δ1 => f r δ1 Q := rfl
theorem e_ul {f : FL} : dUL f ta δ QA = ta δ fun r δ1 => f r δ1 QA := rfl
theorem e_f0 {g : Int → Int → D} : f0 g (.dat (.int i)) (.dat (.int j)) δ Q = Q (.dat (g i j)) δ := rfl
theorem e_fI {C : Int → Int → Prop} {g : Int → Int → D} : fI C g (.dat (.int i)) (.dat (.int j)) δ Q = (C i j ∧ Q (.dat (g i j)) δ) := rfl
theorem e_eqI  : fEq (.dat (.int i)) (.dat (.int j)) δ Q = Q (.dat (.bl (decide (i = j)))) δ := rfl
theorem e_neI  : fNe (.dat (.int i)) (.dat (.int j)) δ Q = Q (.dat (.bl (!decide (i = j)))) δ := rfl
theorem e_eqB {x y : Bool} : fEq (.dat (.bl x)) (.dat (.bl y)) δ Q = Q (.dat (.bl (decide (x = y)))) δ := rfl
theorem e_eqS {x y : Str} : fEq (.dat (.str x)) (.dat (.str y)) δ Q = Q (.dat (.bl (decide (x = y)))) δ := rfl
theorem e_neS {x y : Str} : fNe (.dat (.str x)) (.dat (.str y)) δ Q = Q (.dat (.bl (!decide (x = y)))) δ := rfl
theorem e_eqP {k l : Int} : fEqP (.dat (.tup [.int i, .int j])) (.dat (.tup [.int k, .int l])) δ Q = Q (.dat (.bl (decide (i = k) && decide (j = l)))) δ := rfl
theorem e_catT  : fCatT (.dat (.tup ds)) (.dat (.tup es)) δ Q = (ds.length + es.length ≤ 1000 ∧ Q (.dat (.tup (ds ++ es))) δ) := rfl
theorem e_ix  : fIx r (.dat (.int i)) δ Q = kAt (fun d => Q (.dat d) δ) (kOb (seqOf r δ) fun ds => atI ds i) := by
  unfold fIx kAt kOb
  cases seqOf r δ <;> rfl
theorem e_kOb {F : List D → Option D} : kOb (some ds) F = F ds := rfl
theorem e_kAt {P : D → Prop} : kAt P (some d) = P d := rfl
theorem e_seqT  : seqOf (.dat (.tup ds)) δ = some ds := rfl
theorem e_seqL  : seqOf (.dat (.lst ds)) δ = some ds := rfl
theorem e_lstL  : lstOf (.dat (.lst ds)) δ = some ds := rfl
theorem e_at0 {α : Type} {a0 : α} {xs : List α} : atI (a0 :: xs) 0 = some a0 := by
  unfold atI ixN
  rw [if_pos (by omega), if_pos (by simp only [List.length_cons]; omega)]
  rfl
theorem e_at1 {α : Type} {a0 a1 : α} {xs : List α} : atI (a0 :: a1 :: xs) 1 = some a1 := by
  unfold atI ixN
  rw [if_pos (by omega), if_pos (by simp only [List.length_cons]; omega)]
  rfl
theorem e_at2 {α : Type} {a0 a1 a2 : α} {xs : List α} : atI (a0 :: a1 :: a2 :: xs) 2 = some a2 := by
  unfold atI ixN
  rw [if_pos (by omega), if_pos (by simp only [List.length_cons]; omega)]
  rfl
theorem e_at3 {α : Type} {a0 a1 a2 a3 : α} {xs : List α} : atI (a0 :: a1 :: a2 :: a3 :: xs) 3 = some a3 := by
  unfold atI ixN
  rw [if_pos (by omega), if_pos (by simp only [List.length_cons]; omega)]
  rfl
theorem e_at4 {α : Type} {a0 a1 a2 a3 a4 : α} {xs : List α} : atI (a0 :: a1 :: a2 :: a3 :: a4 :: xs) 4 = some a4 := by
  unfold atI ixN
  rw [if_pos (by omega), if_pos (by simp only [List.length_cons]; omega)]
  rfl
theorem e_at5 {α : Type} {a0 a1 a2 a3 a4 a5 : α} {xs : List α} : atI (a0 :: a1 :: a2 :: a3 :: a4 :: a5 :: xs) 5 = some a5 := by
  unfold atI ixN
  rw [if_pos (by omega), if_pos (by simp only [List.length_cons]; omega)]
  rfl
theorem e_at6 {α : Type} {a0 a1 a2 a3 a4 a5 a6 : α} {xs : List α} : atI (a0 :: a1 :: a2 :: a3 :: a4 :: a5 :: a6 :: xs) 6 = some a6 := by
  unfold atI ixN
  rw [if_pos (by omega), if_pos (by simp only [List.length_cons]; omega)]
  rfl
theorem e_at7 {α : Type} {a0 a1 a2 a3 a4 a5 a6 a7 : α} {xs : List α} : atI (a0 :: a1 :: a2 :: a3 :: a4 :: a5 :: a6 :: a7 :: xs) 7 = some a7 := by
  unfold atI ixN
  rw [if_pos (by omega), if_pos (by simp only [List.length_cons]; omega)]
  rfl
theorem e_isN  : fD fIsN (.dat d) δ Q = Q (.dat (.bl (R.dat d).isN)) δ := rfl
theorem e_notN  : fD fNotN (.dat d) δ Q = Q (.dat (.bl (!(R.dat d).isN))) δ := rfl
theorem e_neg  : fNeg (.dat (.int i)) δ Q = Q (.dat (.int (-i))) δ := rfl
theorem e_notV  : fNotV (.dat (.bl b)) δ Q = Q (.dat (.bl (!b))) δ := rfl
theorem e_isi {f : D → Bool} : fIsi f (.dat d) δ Q = Q (.dat (.bl (f d))) δ := rfl
theorem e_len  : fLen r δ Q = kO (fun ds => Q (.dat (.int ds.length)) δ) (seqOf r δ) := by
  unfold fLen kO
  cases seqOf r δ <;> rfl
theorem e_kO {P : List D → Prop} : kO P (some ds) = P ds := rfl
theorem e_int  : fInt (.dat (.int i)) δ Q = Q (.dat (.int i)) δ := rfl
theorem e_bits  : fBits (.dat (.int i)) δ Q = Q (.dat (.int (Builtin.Int.intBits i : Nat))) δ := rfl
theorem e_tupOf  : fTupOf r δ Q = kO (fun ds => Q (.dat (.tup ds)) δ) (seqOf r δ) := by
  unfold fTupOf kO
  cases seqOf r δ <;> rfl
theorem e_listOf  : fListOf r δ QA = kO (fun ds => QA ds δ) (seqOf r δ) := by
  unfold fListOf kO
  cases seqOf r δ <;> rfl
theorem e_andV  : dAndV ta tb δ Q = ta δ fun r δ1 => kB (fun c => if c = true then tb δ1 Q else Q (.dat (.bl false)) δ1) r := rfl
theorem e_orV  : dOrV ta tb δ Q = ta δ fun r δ1 => kB (fun c => if c = true then Q (.dat (.bl true)) δ1 else tb δ1 Q) r := rfl
theorem e_kB {P : Bool → Prop} : kB P (.dat (.bl b)) = P b := rfl
theorem e_kI {P : Int → Prop} : kI P (.dat (.int i)) = P i := rfl
theorem e_kT {P : List D → Prop} : kT P (.dat (.tup ds)) = P ds := rfl
theorem e_kL {P : List D → Prop} : kL P (.lst ds) = P ds := rfl
theorem e_k1 {P : Int → Prop} : k1 P [.int i] = P i := rfl
theorem e_k2 {P : Int → Int → Prop} : k2 P [.int i, .int j] = P i j := rfl
theorem e_tst  : dTst te δ QT = te δ fun r δ1 => kB (fun c => QT c δ1) r := rfl
theorem e_and  : dAnd c c2 δ QT = c δ fun x δ1 => if x = true then c2 δ1 QT else QT false δ1 := rfl
theorem e_or  : dOr c c2 δ QT = c δ fun x δ1 => if x = true then QT true δ1 else c2 δ1 QT := rfl
theorem e_not  : dNot c δ QT = c δ fun x δ1 => QT (!x) δ1 := rfl
theorem e_iteT  : (if b = true then QT b1 δ else QT false δ) = QT (b && b1) δ := by cases b <;> rfl
theorem e_iteF  : (if b = true then QT true δ else QT b1 δ) = QT (b || b1) δ := by cases b <;> rfl
theorem e_iteTV  : (if b = true then Q (.dat (.bl b1)) δ else Q (.dat (.bl false)) δ) = Q (.dat (.bl (b && b1))) δ := by cases b <;> rfl
theorem e_iteFV  : (if b = true then Q (.dat (.bl true)) δ else Q (.dat (.bl b1)) δ) = Q (.dat (.bl (b || b1))) δ := by cases b <;> rfl
theorem e_yes  : dYes δ QT = QT true δ := rfl
theorem e_noPart  : dNoPart δ QO = QO none δ := rfl
theorem e_part  : dPart te δ QO = te δ fun r δ1 => kI (fun i => QO (some i) δ1) r := rfl
theorem e_slT  : dSlT te lo hi δ Q = te δ fun r δ1 => lo δ1 fun l δ2 => hi δ2 fun u δ3 => kT (fun ds => Q (.dat (.tup (cut ds l u))) δ3) r := rfl
theorem e_slL  : dSlL te lo hi δ QA = te δ fun r δ1 => lo δ1 fun l δ2 => hi δ2 fun u δ3 => kO (fun ds => QA (cut ds l u) δ3) (lstOf r δ3) := rfl
theorem e_cat  : dCatL ta tb δ QA = ta δ fun r δ1 => tb δ1 fun r2 δ2 => kO (fun ds => kO (fun es => ds.length + es.length ≤ 100000 ∧ QA (ds ++ es) δ2) (lstOf r2 δ2)) (lstOf r δ2) := by
  unfold dCatL kO
  congr 1
  funext r δ1
  congr 1
  funext r2 δ2
  cases lstOf r δ2 <;> cases lstOf r2 δ2 <;> rfl
theorem e_c2 {g : Int → Int → Int} : dC2 g tr δ Q = tr δ fun ds δ1 => k2 (fun i j => Q (.dat (.int (g i j))) δ1) ds := rfl
theorem e_lcm  : dLcm tr δ Q = tr δ fun ds δ1 => k2 (fun i j => (i.natAbs < 2 ^ 64 ∧ j.natAbs < 2 ^ 64) ∧ Q (.dat (.int ((Nat.lcm i.natAbs j.natAbs : Nat) : Int))) δ1) ds := rfl
theorem e_call {C : DC} : dCall C tr δ Q = tr δ fun ds δ1 => C ds fun d => Q (.dat d) δ1 := rfl
theorem e_srcT  : dSrcT te δ QA = te δ fun r δ1 => kT (fun ds => QA ds δ1) r := rfl
theorem e_srcL  : dSrcL te δ QA = te δ fun r δ1 => val r δ1 fun d δ2 => kL (fun ds => QA ds δ2) d := rfl
theorem e_rng1  : dRng1 tr δ QA = tr δ fun ds δ1 => k1 (fun n => (-1000000000000000000 ≤ n ∧ n ≤ 1000000000000000000) ∧ QA (intsD 0 n.toNat) δ1) ds := rfl
theorem e_rng2  : dRng2 tr δ QA = tr δ fun ds δ1 => k2 (fun m n => (-1000000000000000000 ≤ m ∧ m ≤ 1000000000000000000 ∧ -1000000000000000000 ≤ n ∧ n ≤ 1000000000000000000) ∧ QA (intsD m (n - m).toNat) δ1) ds := rfl
theorem e_enT  : dEnumT te δ QA = te δ fun r δ1 => kT (fun ds => QA (enD 0 ds) δ1) r := rfl
theorem c_mapR {vs : List Nat} {i : Nat} {lo : Int} {m : Nat} (out : Nat → D) (hm : noMut δ vs = true) (hl : m ≤ 100000)
    (h : ∀ k, k < m → Ev te ((wipeD δ vs).set i (some (.dat (.int (lo + (k : Int)))))) (.dat (out k)) ((wipeD δ vs).set i (some (.dat (.int (lo + (k : Int))))))) {QL : List D → Prop} (q : QL ((List.range m).map out)) :
    noMut δ vs = true ∧ lcL (dgName i) dYes te (wipeD δ vs) (intsD lo m) [] QL :=
  c_map (List.range m) (fun k => D.int (lo + (k : Int))) out hm (by simpa using hl) (fun x hx => h x (List.mem_range.mp hx)) q
theorem c_filR {vs : List Nat} {i : Nat} {lo : Int} {m : Nat} (out : Nat → D) (p : Nat → Bool) (hm : noMut δ vs = true) (hl : m ≤ 100000)
    (h : ∀ k, k < m → EvT c ((wipeD δ vs).set i (some (.dat (.int (lo + (k : Int)))))) (p k) ((wipeD δ vs).set i (some (.dat (.int (lo + (k : Int)))))) ∧ (p k = true → Ev te ((wipeD δ vs).set i (some (.dat (.int (lo + (k : Int)))))) (.dat (out k)) ((wipeD δ vs).set i (some (.dat (.int (lo + (k : Int)))))))) {QL : List D → Prop} (q : QL (((List.range m).filter p).map out)) :
    noMut δ vs = true ∧ lcL (dgName i) c te (wipeD δ vs) (intsD lo m) [] QL :=
  c_fil (List.range m) (fun k => D.int (lo + (k : Int))) out p hm (by simpa using hl) (fun x hx => h x (List.mem_range.mp hx)) q
theorem c_ifT {a b : Prop} (q : a) : if true = true then a else b := by rw [if_pos rfl]; exact q
theorem c_ifF {a b : Prop} (q : b) : if false = true then a else b := by rw [if_neg (by decide)]; exact q
theorem c_gcons {g : DTG} {gs : DTGs} {Q : En → Prop} (q : g d δ fun δ1 => gs ds δ1 Q) : dgCons g gs (d :: ds) δ Q := q
theorem c_gname {i : Nat} {Q : En → Prop} (q : Q (δ.set i (some (.dat d)))) : dgName i d δ Q := q
theorem c_gnil {Q : En → Prop} (q : Q δ) : dgNil [] δ Q := q
theorem e_wipe0 : wipeD δ [] = δ := rfl
theorem e_wipe1 {v : Nat} {vs : List Nat} : wipeD δ (v :: vs) = (wipeD δ vs).set v none := rfl
theorem absB {Q : Bool → En → Prop} {b : Bool} (h : EvT c δ b δ1) (q : Q b δ1) : c δ Q := h Q q

end
end DL
end
section
set_option Elab.async false
set_option linter.all false
set_option maxHeartbeats 1000000
/-! plain data of this program: lists, stocks, pieces at ticks -/
namespace K28
open PySem L2 DL

/-- index of a list at data level -/
theorem atI_n {α : Type} (xs : List α) (n : Nat) : atI xs (n : Int) = xs[n]? := by
  unfold atI ixN
  by_cases h : n < xs.length
  · rw [if_pos (by omega), if_pos (by omega)]
    simp
  · rw [if_pos (by omega), if_neg (by omega)]
    rw [List.getElem?_eq_none (by omega)]
    rfl
theorem atI_z {α : Type} (xs : List α) (i : Int) (h : 0 ≤ i) : atI xs i = xs[i.toNat]? := by
  have e : i = (i.toNat : Int) := by omega
  conv => lhs; rw [e]
  exact atI_n xs i.toNat
theorem atI_0 {α : Type} (xs : List α) : atI xs 0 = xs[0]? := atI_n xs 0
theorem atI_1 {α : Type} (xs : List α) : atI xs 1 = xs[1]? := atI_n xs 1
theorem atI_2 {α : Type} (xs : List α) : atI xs 2 = xs[2]? := atI_n xs 2
theorem atI_3 {α : Type} (xs : List α) : atI xs 3 = xs[3]? := atI_n xs 3
theorem atI_4 {α : Type} (xs : List α) : atI xs 4 = xs[4]? := atI_n xs 4
theorem atI_5 {α : Type} (xs : List α) : atI xs 5 = xs[5]? := atI_n xs 5

/-- rows of sizes -/
structure Ls where
  w : List Int
  h : List Int
def rowD (r : List Int) : D := .tup (r.map D.int)
def lsD (l : Ls) : D := .tup [rowD l.w, rowD l.h]
/-- a quotient: X ticks of t in lowest terms -/
def gI (X t : Int) : Int := (Int.gcd X t : Int)
def qP (t X : Int) : Int × Int := (X / gI X t, t / gI X t)
def qD (t X : Int) : D := prD (qP t X)
/-- a stretch -/
def seD (t X Y : Int) : D := .tup [qD t X, qD t Y]
/-- a piece at ticks -/
structure Pc where
  a : Int
  b : Int
  s : Int
  h : Int
  x : Int
  y : Int
deriving DecidableEq
def pcD (t : Int) (p : Pc) : D := .tup [.int p.a, .int p.b, .int p.s, .int p.h, qD t p.x, qD t p.y]
def pcR (p : Pc) : D := .tup [.int p.a, .int p.b, .int p.s, .int p.h, .int p.x, .int p.y]
def shD (e : Int × Int × Int) : D := .tup [.int e.1, .int e.2.1, .int e.2.2]
def stD (st : List (Int × Int × Int)) : D := .tup (st.map shD)
def TOk (t : Int) : Prop := 1 ≤ t ∧ t ≤ 7
/-- kind (a, b) of the lists -/
def KOk (l : Ls) (a b : Int) : Prop := 0 ≤ a ∧ a < l.w.length ∧ 0 ≤ b ∧ b < l.h.length
def szW (l : Ls) (a : Int) : Int := l.w.getD a.toNat 0
def szH (l : Ls) (b : Int) : Int := l.h.getD b.toNat 0
/-- by side -/
def loS (p : Pc) (side : Int) : Int := if side = 0 then p.x else p.y
def szS (l : Ls) (p : Pc) (side : Int) : Int := if side = 0 then szW l p.a else szH l p.b
def hiS (l : Ls) (t : Int) (p : Pc) (side : Int) : Int := loS p side + szS l p side * t

/-! ### quotients -/
section
variable {t X Y : Int}
theorem gI_pos (ht : TOk t) : 0 < gI X t := by
  have h : 0 < Int.gcd X t := Int.gcd_pos_iff.mpr (.inr (by have := ht.1; omega))
  unfold gI; omega
theorem gI_dvd_l : gI X t ∣ X := Int.gcd_dvd_left ..
theorem gI_dvd_r : gI X t ∣ t := Int.gcd_dvd_right ..
theorem gI_le (ht : TOk t) : gI X t ≤ t := Int.le_of_dvd (by have := ht.1; omega) gI_dvd_r
theorem qP_mul1 : (qP t X).1 * gI X t = X := Int.ediv_mul_cancel gI_dvd_l
theorem qP_mul2 : (qP t X).2 * gI X t = t := Int.ediv_mul_cancel gI_dvd_r
theorem qP_den (ht : TOk t) : 1 ≤ (qP t X).2 ∧ (qP t X).2 ≤ 7 := by
  have g := gI_pos (X := X) ht
  have m := qP_mul2 (t := t) (X := X)
  have h1 := ht.1
  have h2 := ht.2
  constructor
  · by_cases c : 1 ≤ (qP t X).2
    · exact c
    · have : (qP t X).2 * gI X t ≤ 0 := Int.mul_nonpos_of_nonpos_of_nonneg (by omega) (by omega)
      omega
  · by_cases c : (qP t X).2 ≤ 7
    · exact c
    · have : 8 * 1 ≤ (qP t X).2 * gI X t := Int.mul_le_mul (by omega) (by omega) (by omega) (by omega)
      omega
/-- cross products compare the ticks -/
theorem qP_lt (ht : TOk t) : (qP t X).1 * (qP t Y).2 < (qP t Y).1 * (qP t X).2 ↔ X < Y := by
  have gx := gI_pos (X := X) ht
  have gy := gI_pos (X := Y) ht
  have ht1 := ht.1
  have e1 : (qP t X).1 * (qP t Y).2 * (gI X t * gI Y t) = X * t := by
    have h1 := qP_mul1 (t := t) (X := X)
    have h2 := qP_mul2 (t := t) (X := Y)
    calc (qP t X).1 * (qP t Y).2 * (gI X t * gI Y t) = ((qP t X).1 * gI X t) * ((qP t Y).2 * gI Y t) := by ac_rfl
      _ = X * t := by rw [h1, h2]
  have e2 : (qP t Y).1 * (qP t X).2 * (gI X t * gI Y t) = Y * t := by
    have h1 := qP_mul1 (t := t) (X := Y)
    have h2 := qP_mul2 (t := t) (X := X)
    calc (qP t Y).1 * (qP t X).2 * (gI X t * gI Y t) = ((qP t Y).1 * gI Y t) * ((qP t X).2 * gI X t) := by ac_rfl
      _ = Y * t := by rw [h1, h2]
  have gp : 0 < gI X t * gI Y t := Int.mul_pos gx gy
  constructor
  · intro h
    have h3 := Int.mul_lt_mul_of_pos_right h gp
    rw [e1, e2] at h3
    exact Int.lt_of_mul_lt_mul_right h3 (by omega)
  · intro h
    have h3 : X * t < Y * t := Int.mul_lt_mul_of_pos_right h (by omega)
    rw [← e1, ← e2] at h3
    exact Int.lt_of_mul_lt_mul_right h3 (by omega)
/-- k wholes further -/
theorem gI_add (k : Int) : gI (X + k * t) t = gI X t := by
  unfold gI
  rw [Int.gcd_comm, Int.gcd_comm X t]
  simp [Int.gcd_add_mul_right_right, Int.add_comm]
theorem qP_add (ht : TOk t) (k : Int) : qP t (X + k * t) = ((qP t X).1 + k * (qP t X).2, (qP t X).2) := by
  have g := gI_pos (X := X) ht
  have m1 := qP_mul1 (t := t) (X := X)
  have m2 := qP_mul2 (t := t) (X := X)
  unfold qP
  rw [gI_add]
  refine Prod.ext ?_ rfl
  show (X + k * t) / gI X t = X / gI X t + k * (t / gI X t)
  have e : X + k * t = (X / gI X t + k * (t / gI X t)) * gI X t := by
    rw [Int.add_mul, Int.ediv_mul_cancel gI_dvd_l, Int.mul_assoc, Int.ediv_mul_cancel gI_dvd_r]
  conv => lhs; rw [e]
  exact Int.mul_ediv_cancel _ (by omega)
theorem qP_zero (ht : TOk t) : qP t 0 = (0, 1) := by
  have h1 := ht.1
  have e : gI 0 t = t := by unfold gI; simp; omega
  unfold qP
  rw [e, Int.ediv_self (by omega)]
  simp
theorem qP_whole (ht : TOk t) (n : Int) : qP t (n * t) = (n, 1) := by
  have e : n * t = 0 + n * t := by omega
  rw [e, qP_add ht, qP_zero ht]
  simp
theorem qP_inj (ht : TOk t) (h : qP t X = qP t Y) : X = Y := by
  have h1 : ¬ X < Y := fun c => by
    have := (qP_lt (Y := Y) ht).mpr c
    rw [h] at this
    exact Int.lt_irrefl _ this
  have h2 : ¬ Y < X := fun c => by
    have := (qP_lt (X := Y) (Y := X) ht).mpr c
    rw [h] at this
    exact Int.lt_irrefl _ this
  omega
theorem qP_cop (ht : TOk t) : Nat.gcd (qP t X).1.natAbs (qP t X).2.natAbs = 1 := by
  have g := gI_pos (X := X) ht
  have h : Int.gcd (X / gI X t) (t / gI X t) = 1 := Int.gcd_ediv_gcd_ediv_gcd (by unfold gI at g; omega)
  exact h
theorem qP_nn (ht : TOk t) (h : 0 ≤ X) : 0 ≤ (qP t X).1 := Int.ediv_nonneg h (by have := gI_pos (X := X) ht; omega)
end
end K28
end
section
set_option linter.all false
/-! promises of the program's defs -/
namespace K28
open PySem L2 DL
/-! ### scenes -/
def rowsL : List (List Int) := [[1, 2], [1, 2, 4], [1, 3], [2, 4], [2, 6], [1, 2, 6], [1], [1, 3, 6]]
def ROk (r : List Int) : Prop := r ∈ rowsL
structure LOk (l : Ls) : Prop where
  w : ROk l.w
  h : ROk l.h
def bigN : Int := 999999999999
def SideOk (n : Int) : Prop := (1 ≤ n ∧ n ≤ 14) ∨ n = bigN
def EOk (e : Int × Int × Int) : Prop := SideOk e.1 ∧ SideOk e.2.1 ∧ 1 ≤ e.2.2 ∧ (e.1 ≤ 14 ∨ e.2.1 ≤ 14)
def StOk (st : List (Int × Int × Int)) : Prop := (∀ e, e ∈ st → EOk e) ∧ st.length ≤ 3
def ovS (l : Ls) (t : Int) (p o : Pc) (side : Int) : Bool := decide (loS p side < hiS l t o side) && decide (loS o side < hiS l t p side)
/-- the pieces have more than borders in common -/
def ovB (l : Ls) (t : Int) (p o : Pc) : Bool := (decide (p.s = o.s) && decide (p.h = o.h)) && (ovS l t p o 0 && ovS l t p o 1)
/-- p lies in the sheet -/
def InE (l : Ls) (t : Int) (e : Int × Int × Int) (p : Pc) : Prop := 0 ≤ p.x ∧ p.x + szW l p.a * t ≤ e.1 * t ∧ 0 ≤ p.y ∧ p.y + szH l p.b * t ≤ e.2.1 * t
structure POk (l : Ls) (st : List (Int × Int × Int)) (t : Int) (p : Pc) : Prop where
  k : KOk l p.a p.b
  s0 : 0 ≤ p.s
  e : ∃ e, st[p.s.toNat]? = some e ∧ 0 ≤ p.h ∧ p.h < e.2.2 ∧ InE l t e p
def Dis (l : Ls) (t : Int) (ps : List Pc) : Prop := ps.Pairwise fun p o => ovB l t p o = false
structure ScOk (l : Ls) (st : List (Int × Int × Int)) (t : Int) (ps : List Pc) : Prop where
  lk : LOk l
  tk : TOk t
  sk : StOk st
  pk : ∀ p, p ∈ ps → POk l st t p
  dk : Dis l t ps
  nk : ps.length ≤ 58
  ck : ∀ s h : Int, (ps.filter fun p => decide (p.s = s) && decide (p.h = h)).length ≤ 14
/-- a free place of kind (a, b) -/
structure FreeAt (l : Ls) (st : List (Int × Int × Int)) (t : Int) (ps : List Pc) (a b s h X Y : Int) : Prop where
  p : POk l st t ⟨a, b, s, h, X, Y⟩
  d : ∀ p, p ∈ ps → ovB l t ⟨a, b, s, h, X, Y⟩ p = false
def Free (l : Ls) (st : List (Int × Int × Int)) (t : Int) (ps : List Pc) (a b : Int) : Prop := ∃ s h X Y, FreeAt l st t ps a b s h X Y
/-- a spread argument that is to be refused -/
def BadEnt (l : Ls) (st : List (Int × Int × Int)) (t : Int) (e : D) : Prop := (∀ es, e = .tup es → es.length ≠ 6) ∨ ∃ p, e = pcD t p ∧ KOk l p.a p.b ∧ (st.length : Int) ≤ p.s ∧ 0 ≤ p.h ∧ 0 ≤ p.x ∧ 0 ≤ p.y
inductive BadSp (l : Ls) (st : List (Int × Int × Int)) (t : Int) : D → Prop
  | notT {d : D} : isTup d = false → BadSp l st t d
  | ent {ps : List Pc} {e : D} {rest : List D} : (∀ p, p ∈ ps → POk l st t p) → BadEnt l st t e → BadSp l st t (.tup (ps.map (pcD t) ++ e :: rest))
  | lap {ps : List Pc} : (∀ p, p ∈ ps → POk l st t p) → ps.length ≤ 100 → ¬ Dis l t ps → BadSp l st t (.tup (ps.map (pcD t)))
def spD (t : Int) (ps : List Pc) : D := .tup (ps.map (pcD t))
/-- gaps that stretches leave of 0 .. L -/
structure Gaps (L : Int) (ss : List (Int × Int)) (gs : List (Int × Int)) : Prop where
  ne : ∀ g, g ∈ gs → g.1 < g.2
  sep : gs.Pairwise fun g h => g.2 < h.1
  eq : ∀ c, (∃ g, g ∈ gs ∧ g.1 ≤ c ∧ c < g.2) ↔ (0 ≤ c ∧ c < L ∧ ∀ s, s ∈ ss → ¬ (s.1 ≤ c ∧ c < s.2))
def gapsD (t : Int) (gs : List (Int × Int)) : D := .tup (gs.map fun g => seD t g.1 g.2)
/-- the stretches of a sheet's pieces, by side -/
def onSh (s h : Int) (p : Pc) : Bool := decide (p.s = s) && decide (p.h = h)
def atSh (ps : List Pc) (s h : Int) (i : Nat) : Bool := match ps[i]? with
  | some p => onSh s h p
  | none => false
def strOf (l : Ls) (t : Int) (ps : List Pc) (s h side : Int) : List (Int × Int) := (ps.filter (onSh s h)).map fun p => (loS p side, hiS l t p side)
def eS (e : Int × Int × Int) (side : Int) : Int := if side = 0 then e.1 else e.2.1
/-- a number from 0 on, below many -/
def ixD (d : D) (many : Int) : Prop := ∃ i : Int, d = .int i ∧ 0 ≤ i ∧ i < many
def nnD : D → Bool
  | .int i => decide (0 ≤ i)
  | _ => false
def xcW (xc : V → V → Prop) (w : Str) : Prop := xc (.str w) (.int (-1))

/-! ### ground -/
def C_ends_of : DC := fun ds Q => ∃ t l p side, TOk t ∧ KOk l p.a p.b ∧ (side = 0 ∨ side = 1) ∧ ds = [lsD l, pcD t p, .int side] ∧ Q (seD t (loS p side) (hiS l t p side))
def C_is_below : DC := fun ds Q => ∃ t X Y, TOk t ∧ ds = [qD t X, qD t Y] ∧ Q (.bl (decide (X < Y)))
def C_greater_of : DC := fun ds Q => ∃ t X Y, TOk t ∧ ds = [qD t X, qD t Y] ∧ Q (qD t (if X < Y then Y else X))
def C_have_common : DC := fun ds Q => ∃ t X1 Y1 X2 Y2, TOk t ∧ ds = [seD t X1 Y1, seD t X2 Y2] ∧ Q (.bl (decide (X1 < Y2) && decide (X2 < Y1)))
def C_same_sheet : DC := fun ds Q => ∃ t p o, ds = [pcD t p, pcD t o] ∧ Q (.bl (decide (p.s = o.s) && decide (p.h = o.h)))
def C_do_overlap : DC := fun ds Q => ∃ t l p o, TOk t ∧ KOk l p.a p.b ∧ KOk l o.a o.b ∧ ds = [lsD l, pcD t p, pcD t o] ∧ Q (.bl (ovB l t p o))
def natD (n : Nat) : D := .int (n : Int)
def C_by_value : DC := fun ds Q => ∃ (t : Int) (Xs : List Int), TOk t ∧ Xs.length ≤ 100 ∧ ds = [.lst (Xs.map (qD t))] ∧ ∀ ks : List Nat, ks.Perm (List.range Xs.length) → ks.Pairwise (fun i j => (Xs : List Int).getD i 0 ≤ Xs.getD j 0) → Q (.lst (ks.map natD))
def C_in_sheet : DC := fun ds Q => ∃ t ps s h, ps.length ≤ 100 ∧ ds = [spD t ps, .int s, .int h] ∧ Q (.lst (((List.range ps.length).filter (atSh ps s h)).map natD))
/-! ### kinds -/
def C_is_integer : DC := fun ds Q => ∃ d, ds = [d] ∧ Q (.bl (isInt d && !isBool d))
def C_is_number : DC := fun ds Q => ∃ d, ds = [d] ∧ Q (.bl (nnD d))
def C_is_quotient : DC := fun ds Q => ∃ t X, TOk t ∧ ds = [qD t X] ∧ Q (.bl true)
def C_is_kind : DC := fun ds Q => ∃ l a b, KOk l a b ∧ ds = [lsD l, .tup [.int a, .int b]] ∧ Q (.bl true)
def C_is_tuple_of : DC := fun ds Q => ∃ es n, ds = [.tup es, .int n] ∧ Q (.bl (decide ((es.length : Int) = n)))
def C_is_piece : DC := fun ds Q => ∃ l d, ds = [lsD l, d] ∧ (((∀ es, d = .tup es → es.length ≠ 6) ∧ Q (.bl false)) ∨ (∃ t p, TOk t ∧ d = pcD t p ∧ KOk l p.a p.b ∧ 0 ≤ p.s ∧ 0 ≤ p.h ∧ 0 ≤ p.x ∧ 0 ≤ p.y ∧ Q (.bl true)))
/-! ### faults -/
def C_is_inside : DC := fun ds Q => ∃ l st t p, TOk t ∧ ds = [lsD l, stD st, pcD t p] ∧ ((POk l st t p ∧ Q (.bl true)) ∨ ((st.length : Int) ≤ p.s ∧ Q (.bl false)))
def C_first_pair : DC := fun ds Q => ∃ l t ps, TOk t ∧ ps.length ≤ 100 ∧ (∀ p, p ∈ ps → KOk l p.a p.b) ∧ ds = [lsD l, spD t ps] ∧ (Dis l t ps → Q .non) ∧ (¬ Dis l t ps → ∀ i k : Int, Q (.tup [.int i, .int k]))
def C_first_fault : DC := fun ds Q => ∃ l st t d, TOk t ∧ ds = [lsD l, stD st, d] ∧ ((∃ ps, d = spD t ps ∧ ScOk l st t ps ∧ Q .non) ∨ (BadSp l st t d ∧ ∀ r : D, (R.dat r).isN = false → Q r))
def C_need_spread : DCX := fun ds Q xc => ∃ l st t d, TOk t ∧ ds = [lsD l, stD st, d] ∧ ((∃ ps, d = spD t ps ∧ ScOk l st t ps ∧ Q .non) ∨ (BadSp l st t d ∧ xcW xc "spread"))
def C_need_index : DCX := fun ds Q xc => ∃ d many name, ds = [d, .int many, .str name] ∧ ((ixD d many ∧ Q .non) ∨ (¬ ixD d many ∧ xcW xc name))
def C_need_sheet : DCX := fun ds Q xc => ∃ st d1 d2, ds = [stD st, d1, d2] ∧ ((¬ ixD d1 st.length ∧ xcW xc "sort") ∨ ∃ s e, d1 = .int s ∧ 0 ≤ s ∧ st[s.toNat]? = some e ∧ ((¬ ixD d2 e.2.2 ∧ xcW xc "sheet") ∨ (ixD d2 e.2.2 ∧ Q .non)))
/-! ### openings -/
/-- what the lowest place is, over pieces sorted by y -/
def lowF (l : Ls) (t XL XR H : Int) : List Pc → Int → Int
  | [], low => low
  | p :: ps, low => if XL < hiS l t p 0 ∧ loS p 0 < XR then (if loS p 1 < low + H * t then lowF l t XL XR H ps (if low < hiS l t p 1 then hiS l t p 1 else low) else low) else lowF l t XL XR H ps low
def C_lowest : DC := fun ds Q => ∃ l t ps XL XR H, TOk t ∧ ps.length ≤ 100 ∧ (∀ p, p ∈ ps → KOk l p.a p.b) ∧ ds = [lsD l, .lst (ps.map (pcD t)), seD t XL XR, .int H] ∧ Q (qD t (lowF l t XL XR H ps 0))
def placeFor (l : Ls) (t W H a b : Int) (ps : List Pc) (X Y : Int) : Prop := 0 ≤ X ∧ X + szW l a * t ≤ W * t ∧ 0 ≤ Y ∧ Y + szH l b * t ≤ H * t ∧ ∀ p, p ∈ ps → ¬ ((X < hiS l t p 0 ∧ loS p 0 < X + szW l a * t) ∧ (Y < hiS l t p 1 ∧ loS p 1 < Y + szH l b * t))
/-- pieces of a sheet with positive sizes -/
def PosP (l : Ls) (t : Int) (p : Pc) : Prop := KOk l p.a p.b ∧ loS p 0 < hiS l t p 0 ∧ loS p 1 < hiS l t p 1 ∧ 0 ≤ p.x ∧ 0 ≤ p.y
def C_place_in : DC := fun ds Q => ∃ l t W H a b ps, TOk t ∧ LOk l ∧ KOk l a b ∧ ps.length ≤ 58 ∧ (∀ p, p ∈ ps → PosP l t p) ∧ ds = [lsD l, .lst (ps.map (pcD t)), .tup [.int W, .int H], .int a, .int b] ∧
  (∀ X Y, placeFor l t W H a b ps X Y → Q (.tup [qD t X, qD t Y])) ∧ ((∀ X Y, ¬ placeFor l t W H a b ps X Y) → Q .non)
def C_unused : DC := fun ds Q => ∃ ns : List Int, ns.Pairwise (· < ·) ∧ (∀ n, n ∈ ns → 0 ≤ n) ∧ ds = [.lst (ns.map D.int)] ∧ ∀ m : Int, 0 ≤ m → m ≤ ns.length → m ∉ ns → Q (.int m)
def FreeIn (l : Ls) (st : List (Int × Int × Int)) (t : Int) (ps : List Pc) (a b s : Int) : Prop := ∃ h X Y, FreeAt l st t ps a b s h X Y
def C_spot_in_sort : DC := fun ds Q => ∃ l st t ps s e a b, ScOk l st t ps ∧ KOk l a b ∧ 0 ≤ s ∧ st[s.toNat]? = some e ∧ ds = [lsD l, spD t ps, .int s, shD e, .int a, .int b] ∧
  (∀ h X Y, FreeAt l st t ps a b s h X Y → Q (.tup [.int h, qD t X, qD t Y])) ∧ (¬ FreeIn l st t ps a b s → Q .non)
def C_free_place : DCX := fun ds Q xc => ∃ l st t d d1 d2, TOk t ∧ ds = [lsD l, stD st, d, d1, d2] ∧ ((BadSp l st t d ∧ xcW xc "spread") ∨ ∃ ps, d = spD t ps ∧ ScOk l st t ps ∧
  ((¬ ixD d1 l.w.length ∧ xcW xc "a") ∨ (ixD d1 l.w.length ∧ ¬ ixD d2 l.h.length ∧ xcW xc "b") ∨
   (∃ a b, d1 = .int a ∧ d2 = .int b ∧ KOk l a b ∧ (∀ s h X Y, FreeAt l st t ps a b s h X Y → Q (.tup [.int s, .int h, qD t X, qD t Y])) ∧ (¬ Free l st t ps a b → Q .non))))
def C_clear : DC := fun ds Q => ∃ d t ss L, TOk t ∧ 0 ≤ L ∧ ss.length ≤ 58 ∧ (∀ s, s ∈ ss → 0 ≤ s.1 ∧ s.1 < s.2 ∧ s.2 ≤ L * t) ∧ ds = [d, .lst (ss.map fun s => seD t s.1 s.2), .int L] ∧ ∀ gs, gs.length ≤ 1000 → Gaps (L * t) ss gs → Q (gapsD t gs)
def clearSpec (dsOf : D → D → D → D → D → List D) (side : Option Int) : DCX := fun ds Q xc => ∃ l st t d d1 d2, TOk t ∧ ds = dsOf (lsD l) (stD st) d d1 d2 ∧ ((BadSp l st t d ∧ xcW xc "spread") ∨ ∃ ps, d = spD t ps ∧ ScOk l st t ps ∧
  ((¬ ixD d1 st.length ∧ xcW xc "sort") ∨ ∃ s e, d1 = .int s ∧ 0 ≤ s ∧ st[s.toNat]? = some e ∧ ((¬ ixD d2 e.2.2 ∧ xcW xc "sheet") ∨ ∃ h, d2 = .int h ∧ 0 ≤ h ∧ h < e.2.2 ∧
    ∃ sd, (sd = 0 ∨ sd = 1) ∧ (∀ x, side = some x → sd = x) ∧ ∀ gs, gs.length ≤ 1000 → Gaps (eS e sd * t) (strOf l t ps s h sd) gs → Q (gapsD t gs))))
def C_clear_side : DCX := fun ds Q xc => ∃ sd : Int, (sd = 0 ∨ sd = 1) ∧ clearSpec (fun a b c d e => [a, b, c, d, e, .int sd]) (some sd) ds Q xc
def C_clear_across : DCX := clearSpec (fun a b c d e => [a, b, c, d, e]) (some 1)
def C_clear_up : DCX := clearSpec (fun a b c d e => [a, b, c, d, e]) (some 0)
/-! ### the law's -/
def C_Ltake : DC := fun ds Q => ∃ many : Int, ds = [.int many] ∧ 0 < many ∧ ∀ n : Int, 0 ≤ n → n < many → Q (.int n)
def C_Llow : DC := fun ds Q => ∃ X t, TOk t ∧ ds = [.int X, .int t] ∧ Q (qD t X)
def C_Lsizes : DC := fun ds Q => ds = [] ∧ ∀ l, LOk l → Q (lsD l)
def C_Lside : DC := fun ds Q => ∃ r, ROk r ∧ ds = [rowD r] ∧ ∀ n : Int, 1 ≤ n → n ≤ 14 → Q (.int n)
def C_Lstock : DC := fun ds Q => ∃ l, LOk l ∧ ds = [lsD l] ∧ ∀ st, StOk st → Q (stD st)
def p4D (p : Pc) : D := .tup [.int p.a, .int p.b, .int p.x, .int p.y]
structure FilOk (l : Ls) (e : Int × Int × Int) (t : Int) (ps : List Pc) : Prop where
  k : ∀ p, p ∈ ps → KOk l p.a p.b ∧ p.s = 0 ∧ p.h = 0 ∧ InE l t e p
  d : Dis l t ps
  n : ps.length ≤ 14
def C_Lfilled : DC := fun ds Q => ∃ l e, LOk l ∧ EOk e ∧ ds = [lsD l, shD e] ∧ ∀ ps, FilOk l e 1 ps → Q (.lst (ps.map p4D))
def C_Lmoved : DC := fun ds Q => ∃ l e t ps side, LOk l ∧ EOk e ∧ TOk t ∧ FilOk l e t ps ∧ (side = 0 ∨ side = 1) ∧ ds = [lsD l, shD e, .int t, .lst (ps.map p4D), .int side] ∧ ∀ ps', FilOk l e t ps' → Q (.lst (ps'.map p4D))
def scD (l : Ls) (st : List (Int × Int × Int)) (t : Int) (ps : List Pc) : D := .lst [lsD l, stD st, .int t, .lst (ps.map pcR)]
def C_Lscene : DC := fun ds Q => ds = [] ∧ ∀ l st t ps, ScOk l st t ps → Q (scD l st t ps)
def C_Lspread : DC := fun ds Q => ∃ t ps, TOk t ∧ ps.length ≤ 58 ∧ ds = [.int t, .lst (ps.map pcR)] ∧ Q (spD t ps)
def blockM (w h c : Nat) : Nat := (List.range h).foldl (fun m r => m + (2 ^ w - 1) * 2 ^ (r * c)) 0
def C_Lblock : DC := fun ds Q => ∃ w h c : Nat, w ≤ 100 ∧ h ≤ 100 ∧ c ≤ 100 ∧ ds = [.int w, .int h, .int c] ∧ Q (.int (blockM w h c : Nat))
open Classical in
noncomputable def C_Lopen : DC := fun ds Q => ∃ l st t ps a b s h e, ScOk l st t ps ∧ KOk l a b ∧ 0 ≤ s ∧ st[s.toNat]? = some e ∧ 0 ≤ h ∧ h < e.2.2 ∧ ds = [scD l st t ps, .tup [.int a, .int b], .int s, .int h] ∧ Q (.bl (decide (∃ X Y, FreeAt l st t ps a b s h X Y)))
open Classical in
noncomputable def C_Lany : DC := fun ds Q => ∃ l st t ps a b, ScOk l st t ps ∧ KOk l a b ∧ ds = [scD l st t ps, .tup [.int a, .int b]] ∧ Q (.bl (decide (Free l st t ps a b)))
def C_Lquotient : DC := fun ds Q => ∃ t X, TOk t ∧ 0 ≤ X ∧ ds = [qD t X] ∧ Q (.bl true)
def C_Lfits : DC := fun ds Q => ∃ l st t ps a b s h X Y, ScOk l st t ps ∧ FreeAt l st t ps a b s h X Y ∧ ds = [scD l st t ps, .tup [.int a, .int b], .tup [.int s, .int h, qD t X, qD t Y]] ∧ Q (.bl true)
def C_Lclear : DC := fun ds Q => ∃ l st t ps s h e sd, ScOk l st t ps ∧ 0 ≤ s ∧ st[s.toNat]? = some e ∧ 0 ≤ h ∧ h < e.2.2 ∧ (sd = 0 ∨ sd = 1) ∧ ds = [scD l st t ps, .int s, .int h, .int sd] ∧ ∀ gs, Gaps (eS e sd * t) (strOf l t ps s h sd) gs → Q (gapsD t gs)
/-- data without lists, of a depth -/
inductive Flat : Nat → D → Prop
  | non {n : Nat} : Flat n .non
  | bl {n : Nat} {b : Bool} : Flat n (.bl b)
  | int {n : Nat} {i : Int} : Flat n (.int i)
  | str {n : Nat} {x : Str} : Flat n (.str x)
  | tup {n : Nat} {ds : List D} : ds.length ≤ 1000 → (∀ d, d ∈ ds → Flat n d) → Flat (n + 1) (.tup ds)
def C_Lsame (n : Nat) : DC := fun ds Q => ∃ d, Flat n d ∧ ds = [d, d] ∧ Q (.bl true)
def goodD (d : D) : D := .tup [.str "good", d]
def badD (w : Str) : D := .tup [.str "bad", .str w, .int (-1), .bl true]
def C_Lasked : DC := fun ds Q => ∃ (wh : Int) (l : Ls) (st : List (Int × Int × Int)) (d d1 d2 : D), 0 ≤ wh ∧ wh < 6 ∧ ds = [.int wh, .lst [lsD l, stD st, d, d1, d2]] ∧
  ((wh = 0 ∨ wh = 3) → C_free_place [lsD l, stD st, d, d1, d2] (fun r => Q (goodD r)) fun v u => u = .int (-1) ∧ ∃ w, v = .str w ∧ Q (badD w)) ∧
  ((wh = 1 ∨ wh = 4) → C_clear_across [lsD l, stD st, d, d1, d2] (fun r => Q (goodD r)) fun v u => u = .int (-1) ∧ ∃ w, v = .str w ∧ Q (badD w)) ∧
  ((wh = 2 ∨ wh = 5) → C_clear_up [lsD l, stD st, d, d1, d2] (fun r => Q (goodD r)) fun v u => u = .int (-1) ∧ ∃ w, v = .str w ∧ Q (badD w))
def C_Lbent : DC := fun ds Q => ∃ l st t ps, ScOk l st t ps ∧ ds = [scD l st t ps, spD t ps] ∧ Q (.bl true)
end K28
end
section
set_option Elab.async false
set_option linter.all false
set_option maxRecDepth 100000
set_option maxHeartbeats 4000000
/-! further promises: same by its depth, the script as a source, the feed -/
namespace K28
open PySem PySem.Spec PyProof.Rows L2 DL
/-- _law_same, with so many calls to go -/
def C_Ls : Nat → DC
  | 0 => fun _ _ => False
  | n + 1 => C_Lsame n
/-- the script's list, at a -/
def dPinSrc (i : Nat) (a : Addr) (ns : List Int) : DTA := fun δ Q => δ[i]? = some (some (.pin a)) ∧ Q (ns.map D.int) δ
section
variable {X : Cx} {B : Ent} {S H : Hp} {a : Addr} {ns : List Int} {i : Nat} {x : Str} {tg : Expr} {p : Pos}
theorem src_sq {K : PySem.W.Frag} (h : SqL K S a (ns.map V.int)) : Src S (ns.map D.int) (Itl K a) where
  go := fun i H s hi => by
    rw [List.length_map] at hi
    exact ⟨_, .int ns[i], s.seq h, by rw [List.getElem?_map, List.getElem?_eq_getElem hi]; rfl⟩
  stop := fun H s => ⟨_, s.seq h, by simp⟩
  yld := fun i H x H' S1 s s1 y d hd => by
    obtain ⟨rfl, y2⟩ := y
    have h3 := y2 _ ((s.trans s1).seq h)
    rw [List.getElem?_map] at hd h3
    cases e : ns[i]? with
    | none => rw [e] at hd; cases hd
    | some n =>
      rw [e] at hd h3
      cases hd
      cases h3
      exact ⟨S1, Same.refl S1, s1, Same.refl _, fun a o q => .inl q, .int n⟩
theorem di_script (hS : SqL X.K B.S0 a (ns.map V.int)) (hN0 : X.N[i]? = some x := by rfl) (hv : Vis X.env.scope x := by first | exact Or.inl rfl | exact Or.inr (Or.inl rfl) | exact Or.inr (Or.inr rfl)) (hd : (x == ("__debug__" : Str)) = false := by decide)
    (hcd : (x == ("__classdict__" : Str)) = false := by decide) : PI X tg (.Name x p) (liftI B (dPinSrc i a ns)) :=
  PI.imp (pi_list (pv i hN0 hv hd hcd)) fun σ H R ⟨S, δ, P, R0, ⟨h0, h⟩, k⟩ => by
    obtain ⟨v, e1, e2⟩ := R0.at_ i _ h0
    have e3 : v = .ref a := e2
    subst e3
    have hq : SqL X.K S a (ns.map V.int) := R0.gr.seq hS
    exact ⟨.ref a, e1, a, rfl, ⟨_, R0.ex.seq hq⟩, k _ δ S H _ h (Same.refl S) R0 (src_sq hq)⟩
end
/-- _law_feed: a new feed -/
def spFeed (K : PySem.W.Frag) : Sp := fun vs H Q _ => ∃ (a : Addr) (ns : List Int), vs = [.ref a] ∧ SqL K H a (ns.map V.int) ∧ ns.length ≤ 63 ∧
  ∀ H' f g m zs, H' f = some (.lst [.int m, .int 0, .ref g]) → H' g = some (.lst ((zs : List Int).map V.int)) → Q (.ref f) H'
def fedD (d : D) : Prop := ∃ (m : Int) (zs : List Int), d = .lst [.int m, .int 0, .lst (zs.map D.int)]
theorem rst_pin {H : Hp} {N : List Str} {a : Addr} (hN : 1 ≤ N.length) : Rst ⟨H, H, none⟩ H H (L2.start N [.ref a]) (some (.pin a) :: List.replicate (N.length - 1) none) := by
  have e : L2.start N [.ref a] = some (.ref a) :: List.replicate (N.length - 1) none := by simp [L2.start]
  rw [e]
  refine ⟨Same.refl H, Same.refl H, fun a o q => .inl q, fun a o q _ => q, (fun a q => by cases q), by simp, fun i c q => ?_, fun i j a ds' es hij h1 h2 h3 h4 => ?_⟩
  · cases i with
    | zero => cases q; exact ⟨.ref a, rfl, rfl⟩
    | succ i =>
      have q' : (List.replicate (N.length - 1) (none : Option Cell))[i]? = some (some c) := by simpa using q
      rw [List.getElem?_replicate] at q'
      split at q' <;> simp at q'
  · cases i with
    | zero => cases h1
    | succ i =>
      have q' : (List.replicate (N.length - 1) (none : Option Cell))[i]? = some (some (.own ds')) := by simpa using h1
      rw [List.getElem?_replicate] at q'
      split at q' <;> simp at q'
end K28
end
section
set_option Elab.async false
set_option linter.all false
set_option maxRecDepth 100000
set_option maxHeartbeats 4000000
namespace K28
open PySem PySem.Spec PyProof.Rows L2 DL
section
variable {P : Program} {w : World} {K : PySem.W.Frag} {mg : Str → Option Value} {base : Heap}
/-! ### ends_of: 0 lists, 1 piece, 2 side, 3 start, 4 size -/
abbrev N_ends_of : List Str := ["lists", "piece", "side", "start", "size"]
theorem sc_ends_of : FnScope N_ends_of ["lists", "piece", "side"] (defScope s_ends_of) := ⟨rfl, rfl, rfl, by decide +kernel, rfl, by decide +kernel, by decide +kernel⟩
def t_ends_of : DTS :=
  (dSeq (dAsg (dBin fIx (dVar 1) (dBin fAdd (dC (.int 4)) (dVar 2))) (dgName 3))
  (dSeq (dAsg (dBin fIx (dBin fIx (dVar 0) (dVar 2)) (dBin fIx (dVar 1) (dVar 2))) (dgName 4))
  (dRet (dTup (dCons (dVar 3) (dCons (dTup (dCons (dBin fAdd (dBin fIx (dVar 3) (dC (.int 0))) (dBin fMul (dVar 4) (dBin fIx (dVar 3) (dC (.int 1))))) (dCons (dBin fIx (dVar 3) (dC (.int 1))) dNil))) dNil))))))
theorem b_ends_of (T : Txt K mg)  {f : Addr} {cdv : Value} {A : Around} {outer : List Env} {s : Shared} {H : Hp} {E : XK} (hr : Room 0 (A.deeper (envOfC "ends_of" (defScope s_ends_of) s.heap.objs.size f cdv))) (B : Ent) :
    PSs (cxOf CX0 P w K mg base N_ends_of "ends_of" (defScope s_ends_of) f cdv A outer s H E).nox (defBody s_ends_of) (liftS B t_ends_of) := by
  exact (dss_cons (ds_set (i := 3) sc_ends_of.nd (de_ix (de_var 1) (de_bin op_add sn_add de_int (de_var 2)) (fun _ _ => rfl)))
  (dss_cons (ds_set (i := 4) sc_ends_of.nd (de_ix (de_ix (de_var 0) (de_var 2) (fun _ _ => rfl)) (de_ix (de_var 1) (de_var 2) (fun _ _ => rfl)) (fun _ _ => rfl)))
  (dss_one (ds_ret (de_tup (da_cons (de_var 3) (da_cons (de_tup (da_cons (de_bin op_add sn_add (de_ix (de_var 3) de_int (fun _ _ => rfl)) (de_bin op_mul sn_mul (de_var 4) (de_ix (de_var 3) de_int (fun _ _ => rfl)))) (da_cons (de_ix (de_var 3) de_int (fun _ _ => rfl)) da_nil))) da_nil)))))))
theorem ok_ends_of (T : Txt K mg)  {f : Addr} {fd : FuncData} (F : FunD K "ends_of" "ends_of" (defArgs s_ends_of) (defBody s_ends_of) (defScope s_ends_of) [] [] f fd) (hm : mg "ends_of" = some (.ref f))
    (hl : ∀ ds Q, C_ends_of ds Q → ds.length = 3) (hC : ∀ ds Q, C_ends_of ds Q → t_ends_of (retE Q) (startD N_ends_of ds)) : Cal P w K mg base CX0 1 "ends_of" ["lists", "piece", "side"] (pureSp C_ends_of) :=
  ⟨f, fd, fn_pure F sc_ends_of hl (by decide) (fun cdv A outer s H E hr B => b_ends_of T  hr B) hC, hm, F.kp, F.bindsN fun _ _ _ _ _ _ us hl => match us, hl with | [_, _, _], _ => rfl⟩
/-! ### is_below: 0 one, 1 other -/
abbrev N_is_below : List Str := ["one", "other"]
theorem sc_is_below : FnScope N_is_below ["one", "other"] (defScope s_is_below) := ⟨rfl, rfl, rfl, by decide +kernel, rfl, by decide +kernel, by decide +kernel⟩
def t_is_below : DTS :=
  (dRet (dBin fLt (dBin fMul (dBin fIx (dVar 0) (dC (.int 0))) (dBin fIx (dVar 1) (dC (.int 1)))) (dBin fMul (dBin fIx (dVar 1) (dC (.int 0))) (dBin fIx (dVar 0) (dC (.int 1))))))
theorem b_is_below (T : Txt K mg)  {f : Addr} {cdv : Value} {A : Around} {outer : List Env} {s : Shared} {H : Hp} {E : XK} (hr : Room 0 (A.deeper (envOfC "is_below" (defScope s_is_below) s.heap.objs.size f cdv))) (B : Ent) :
    PSs (cxOf CX0 P w K mg base N_is_below "is_below" (defScope s_is_below) f cdv A outer s H E).nox (defBody s_is_below) (liftS B t_is_below) := by
  exact (dss_one (ds_ret (de_cmp op_lt sn_lt (de_bin op_mul sn_mul (de_ix (de_var 0) de_int (fun _ _ => rfl)) (de_ix (de_var 1) de_int (fun _ _ => rfl))) (de_bin op_mul sn_mul (de_ix (de_var 1) de_int (fun _ _ => rfl)) (de_ix (de_var 0) de_int (fun _ _ => rfl))))))
theorem ok_is_below (T : Txt K mg)  {f : Addr} {fd : FuncData} (F : FunD K "is_below" "is_below" (defArgs s_is_below) (defBody s_is_below) (defScope s_is_below) [] [] f fd) (hm : mg "is_below" = some (.ref f))
    (hl : ∀ ds Q, C_is_below ds Q → ds.length = 2) (hC : ∀ ds Q, C_is_below ds Q → t_is_below (retE Q) (startD N_is_below ds)) : Cal P w K mg base CX0 1 "is_below" ["one", "other"] (pureSp C_is_below) :=
  ⟨f, fd, fn_pure F sc_is_below hl (by decide) (fun cdv A outer s H E hr B => b_is_below T  hr B) hC, hm, F.kp, F.bindsN fun _ _ _ _ _ _ us hl => match us, hl with | [_, _], _ => rfl⟩
/-! ### greater_of: 0 one, 1 other -/
abbrev N_greater_of : List Str := ["one", "other"]
theorem sc_greater_of : FnScope N_greater_of ["one", "other"] (defScope s_greater_of) := ⟨rfl, rfl, rfl, by decide +kernel, rfl, by decide +kernel, by decide +kernel⟩
def t_greater_of : DTS :=
  (dSeq (dIf (dTst (dCall C_is_below (dCons (dVar 0) (dCons (dVar 1) dNil))))
   (dRet (dVar 1))
   dNext)
  (dRet (dVar 0)))
theorem b_greater_of (T : Txt K mg) (c_is_below : Cal P w K mg base CX0 1 "is_below" ["one", "other"] (pureSp C_is_below)) {f : Addr} {cdv : Value} {A : Around} {outer : List Env} {s : Shared} {H : Hp} {E : XK} (hr : Room 1 (A.deeper (envOfC "greater_of" (defScope s_greater_of) s.heap.objs.size f cdv))) (B : Ent) :
    PSs (cxOf CX0 P w K mg base N_greater_of "greater_of" (defScope s_greater_of) f cdv A outer s H E).nox (defBody s_greater_of) (liftS B t_greater_of) := by
  exact (dss_cons (ds_if (dt_val (de_callC c_is_below (hr.mono (by decide)) (da_cons (de_var 0) (da_cons (de_var 1) da_nil))))
   (dss_one (ds_ret (de_var 1)))
   dss_nil)
  (dss_one (ds_ret (de_var 0))))
theorem ok_greater_of (T : Txt K mg) (c_is_below : Cal P w K mg base CX0 1 "is_below" ["one", "other"] (pureSp C_is_below)) {f : Addr} {fd : FuncData} (F : FunD K "greater_of" "greater_of" (defArgs s_greater_of) (defBody s_greater_of) (defScope s_greater_of) [] [] f fd) (hm : mg "greater_of" = some (.ref f))
    (hl : ∀ ds Q, C_greater_of ds Q → ds.length = 2) (hC : ∀ ds Q, C_greater_of ds Q → t_greater_of (retE Q) (startD N_greater_of ds)) : Cal P w K mg base CX0 2 "greater_of" ["one", "other"] (pureSp C_greater_of) :=
  ⟨f, fd, fn_pure F sc_greater_of hl (by decide) (fun cdv A outer s H E hr B => b_greater_of T c_is_below hr B) hC, hm, F.kp, F.bindsN fun _ _ _ _ _ _ us hl => match us, hl with | [_, _], _ => rfl⟩
/-! ### have_common: 0 one, 1 other -/
abbrev N_have_common : List Str := ["one", "other"]
theorem sc_have_common : FnScope N_have_common ["one", "other"] (defScope s_have_common) := ⟨rfl, rfl, rfl, by decide +kernel, rfl, by decide +kernel, by decide +kernel⟩
def t_have_common : DTS :=
  (dRet (dAndV (dCall C_is_below (dCons (dBin fIx (dVar 0) (dC (.int 0))) (dCons (dBin fIx (dVar 1) (dC (.int 1))) dNil))) (dCall C_is_below (dCons (dBin fIx (dVar 1) (dC (.int 0))) (dCons (dBin fIx (dVar 0) (dC (.int 1))) dNil)))))
theorem b_have_common (T : Txt K mg) (c_is_below : Cal P w K mg base CX0 1 "is_below" ["one", "other"] (pureSp C_is_below)) {f : Addr} {cdv : Value} {A : Around} {outer : List Env} {s : Shared} {H : Hp} {E : XK} (hr : Room 1 (A.deeper (envOfC "have_common" (defScope s_have_common) s.heap.objs.size f cdv))) (B : Ent) :
    PSs (cxOf CX0 P w K mg base N_have_common "have_common" (defScope s_have_common) f cdv A outer s H E).nox (defBody s_have_common) (liftS B t_have_common) := by
  exact (dss_one (ds_ret (de_and (de_callC c_is_below (hr.mono (by decide)) (da_cons (de_ix (de_var 0) de_int (fun _ _ => rfl)) (da_cons (de_ix (de_var 1) de_int (fun _ _ => rfl)) da_nil))) (de_one (de_callC c_is_below (hr.mono (by decide)) (da_cons (de_ix (de_var 1) de_int (fun _ _ => rfl)) (da_cons (de_ix (de_var 0) de_int (fun _ _ => rfl)) da_nil)))))))
theorem ok_have_common (T : Txt K mg) (c_is_below : Cal P w K mg base CX0 1 "is_below" ["one", "other"] (pureSp C_is_below)) {f : Addr} {fd : FuncData} (F : FunD K "have_common" "have_common" (defArgs s_have_common) (defBody s_have_common) (defScope s_have_common) [] [] f fd) (hm : mg "have_common" = some (.ref f))
    (hl : ∀ ds Q, C_have_common ds Q → ds.length = 2) (hC : ∀ ds Q, C_have_common ds Q → t_have_common (retE Q) (startD N_have_common ds)) : Cal P w K mg base CX0 2 "have_common" ["one", "other"] (pureSp C_have_common) :=
  ⟨f, fd, fn_pure F sc_have_common hl (by decide) (fun cdv A outer s H E hr B => b_have_common T c_is_below hr B) hC, hm, F.kp, F.bindsN fun _ _ _ _ _ _ us hl => match us, hl with | [_, _], _ => rfl⟩
/-! ### same_sheet: 0 piece, 1 other -/
abbrev N_same_sheet : List Str := ["piece", "other"]
theorem sc_same_sheet : FnScope N_same_sheet ["piece", "other"] (defScope s_same_sheet) := ⟨rfl, rfl, rfl, by decide +kernel, rfl, by decide +kernel, by decide +kernel⟩
def t_same_sheet : DTS :=
  (dRet (dBin fEqP (dSlT (dVar 0) (dPart (dC (.int 2))) (dPart (dC (.int 4)))) (dSlT (dVar 1) (dPart (dC (.int 2))) (dPart (dC (.int 4))))))
theorem b_same_sheet (T : Txt K mg)  {f : Addr} {cdv : Value} {A : Around} {outer : List Env} {s : Shared} {H : Hp} {E : XK} (hr : Room 0 (A.deeper (envOfC "same_sheet" (defScope s_same_sheet) s.heap.objs.size f cdv))) (B : Ent) :
    PSs (cxOf CX0 P w K mg base N_same_sheet "same_sheet" (defScope s_same_sheet) f cdv A outer s H E).nox (defBody s_same_sheet) (liftS B t_same_sheet) := by
  exact (dss_one (ds_ret (de_cmp (op_eqD hr.units) sn_eqP (de_slT (de_var 0) (do_some de_int) (do_some de_int)) (de_slT (de_var 1) (do_some de_int) (do_some de_int)))))
theorem ok_same_sheet (T : Txt K mg)  {f : Addr} {fd : FuncData} (F : FunD K "same_sheet" "same_sheet" (defArgs s_same_sheet) (defBody s_same_sheet) (defScope s_same_sheet) [] [] f fd) (hm : mg "same_sheet" = some (.ref f))
    (hl : ∀ ds Q, C_same_sheet ds Q → ds.length = 2) (hC : ∀ ds Q, C_same_sheet ds Q → t_same_sheet (retE Q) (startD N_same_sheet ds)) : Cal P w K mg base CX0 1 "same_sheet" ["piece", "other"] (pureSp C_same_sheet) :=
  ⟨f, fd, fn_pure F sc_same_sheet hl (by decide) (fun cdv A outer s H E hr B => b_same_sheet T  hr B) hC, hm, F.kp, F.bindsN fun _ _ _ _ _ _ us hl => match us, hl with | [_, _], _ => rfl⟩
/-! ### do_overlap: 0 lists, 1 piece, 2 other, 3 side -/
abbrev N_do_overlap : List Str := ["lists", "piece", "other", "side"]
theorem sc_do_overlap : FnScope N_do_overlap ["lists", "piece", "other"] (defScope s_do_overlap) := ⟨rfl, rfl, rfl, by decide +kernel, rfl, by decide +kernel, by decide +kernel⟩
def t_do_overlap : DTS :=
  (dSeq (dIf (dNot (dTst (dCall C_same_sheet (dCons (dVar 1) (dCons (dVar 2) dNil)))))
   (dRet (dC (.bl false)))
   dNext)
  (dSeq (dFor (dSrcT (dTup (dCons (dC (.int 0)) (dCons (dC (.int 1)) dNil)))) (dgName 3)
   (dIf (dNot (dTst (dCall C_have_common (dCons (dCall C_ends_of (dCons (dVar 0) (dCons (dVar 1) (dCons (dVar 3) dNil)))) (dCons (dCall C_ends_of (dCons (dVar 0) (dCons (dVar 2) (dCons (dVar 3) dNil)))) dNil)))))
   (dRet (dC (.bl false)))
   dNext))
  (dRet (dC (.bl true)))))
theorem b_do_overlap (T : Txt K mg) (c_same_sheet : Cal P w K mg base CX0 1 "same_sheet" ["piece", "other"] (pureSp C_same_sheet)) (c_have_common : Cal P w K mg base CX0 2 "have_common" ["one", "other"] (pureSp C_have_common)) (c_ends_of : Cal P w K mg base CX0 1 "ends_of" ["lists", "piece", "side"] (pureSp C_ends_of)) {f : Addr} {cdv : Value} {A : Around} {outer : List Env} {s : Shared} {H : Hp} {E : XK} (hr : Room 2 (A.deeper (envOfC "do_overlap" (defScope s_do_overlap) s.heap.objs.size f cdv))) (B : Ent) :
    PSs (cxOf CX0 P w K mg base N_do_overlap "do_overlap" (defScope s_do_overlap) f cdv A outer s H E).nox (defBody s_do_overlap) (liftS B t_do_overlap) := by
  exact (dss_cons (ds_if (dt_not (dt_val (de_callC c_same_sheet (hr.mono (by decide)) (da_cons (de_var 1) (da_cons (de_var 2) da_nil)))))
   (dss_one (ds_ret de_bl))
   dss_nil)
  (dss_cons (ds_for PassesOwn.never rfl (di_tup (de_tup (da_cons de_int (da_cons de_int da_nil)))) (dg_name (i := 3) sc_do_overlap.nd)
   (dss_one (ds_if (dt_not (dt_val (de_callC c_have_common (hr.mono (by decide)) (da_cons (de_callC c_ends_of (hr.mono (by decide)) (da_cons (de_var 0) (da_cons (de_var 1) (da_cons (de_var 3) da_nil)))) (da_cons (de_callC c_ends_of (hr.mono (by decide)) (da_cons (de_var 0) (da_cons (de_var 2) (da_cons (de_var 3) da_nil)))) da_nil)))))
   (dss_one (ds_ret de_bl))
   dss_nil)))
  (dss_one (ds_ret de_bl))))
theorem ok_do_overlap (T : Txt K mg) (c_same_sheet : Cal P w K mg base CX0 1 "same_sheet" ["piece", "other"] (pureSp C_same_sheet)) (c_have_common : Cal P w K mg base CX0 2 "have_common" ["one", "other"] (pureSp C_have_common)) (c_ends_of : Cal P w K mg base CX0 1 "ends_of" ["lists", "piece", "side"] (pureSp C_ends_of)) {f : Addr} {fd : FuncData} (F : FunD K "do_overlap" "do_overlap" (defArgs s_do_overlap) (defBody s_do_overlap) (defScope s_do_overlap) [] [] f fd) (hm : mg "do_overlap" = some (.ref f))
    (hl : ∀ ds Q, C_do_overlap ds Q → ds.length = 3) (hC : ∀ ds Q, C_do_overlap ds Q → t_do_overlap (retE Q) (startD N_do_overlap ds)) : Cal P w K mg base CX0 3 "do_overlap" ["lists", "piece", "other"] (pureSp C_do_overlap) :=
  ⟨f, fd, fn_pure F sc_do_overlap hl (by decide) (fun cdv A outer s H E hr B => b_do_overlap T c_same_sheet c_have_common c_ends_of hr B) hC, hm, F.kp, F.bindsN fun _ _ _ _ _ _ us hl => match us, hl with | [_, _, _], _ => rfl⟩
/-! ### by_value: 0 quotients, 1 scale, 2 quotient, 3 scaled, 4 pairs, 5 _, 6 k -/
abbrev N_by_value : List Str := ["quotients", "scale", "quotient", "scaled", "pairs", "_", "k"]
theorem sc_by_value : FnScope N_by_value ["quotients"] (defScope s_by_value) := ⟨rfl, rfl, rfl, by decide +kernel, rfl, by decide +kernel, by decide +kernel⟩
def t_by_value : DTS :=
  (dSeq (dAsg (dC (.int 1)) (dgName 1))
  (dSeq (dFor (dSrcL (dVar 0)) (dgName 2)
   (dAsg (dLcm (dCons (dVar 1) (dCons (dBin fIx (dVar 2) (dC (.int 1))) dNil))) (dgName 1)))
  (dSeq (dAsgL 3 (dLc (dSrcL (dVar 0)) (dgName 2) dYes (dBin fMul (dBin fIx (dVar 2) (dC (.int 0))) (dBin fDiv (dVar 1) (dBin fIx (dVar 2) (dC (.int 1))))) [2]))
  (dSeq (dAsgL 4 (dUL fSortP (dFrz (dLc (dRng1 (dCons (dUn fLen (dVar 3)) dNil)) (dgName 6) dYes (dTup (dCons (dBin fIx (dVar 3) (dVar 6)) (dCons (dVar 6) dNil))) [6]))))
  (dRet (dFrz (dLc (dSrcL (dVar 4)) (dgTup 2 (dgCons (dgName 5) (dgCons (dgName 6) dgNil))) dYes (dVar 6) [5, 6])))))))
theorem b_by_value (T : Txt K mg)  {f : Addr} {cdv : Value} {A : Around} {outer : List Env} {s : Shared} {H : Hp} {E : XK} (hr : Room 0 (A.deeper (envOfC "by_value" (defScope s_by_value) s.heap.objs.size f cdv))) (B : Ent) :
    PSs (cxOf CX0 P w K mg base N_by_value "by_value" (defScope s_by_value) f cdv A outer s H E).nox (defBody s_by_value) (liftS B t_by_value) := by
  exact (dss_cons (ds_set (i := 1) sc_by_value.nd de_int)
  (dss_cons (ds_for PassesOwn.never rfl (di_list (de_var 0)) (dg_name (i := 2) sc_by_value.nd)
   (dss_one (ds_set (i := 1) sc_by_value.nd (de_lcm T.lcm_ (da_cons (de_var 1) (da_cons (de_ix (de_var 2) de_int (fun _ _ => rfl)) da_nil))))))
  (dss_cons (ds_setL (i := 3) sc_by_value.nd (dl_lc [("quotient", 2)] rfl sc_by_value.nd (di_list (de_var 0)) (blkOk_by (N := N_by_value) (sc := defScope s_by_value) (by decide +kernel)) (blk_name (by decide)) (fun _ _ _ _ _ => pg_name (i := 2) sc_by_value.nd rfl (Or.inl rfl)) (fun _ _ _ _ _ => pts_nilD) (fun B _ _ _ _ _ => (de_bin op_mul sn_mul (de_ix (de_var 2) de_int (fun _ _ => rfl)) (de_bin op_fdiv sn_div (de_var 1) (de_ix (de_var 2) de_int (fun _ _ => rfl)))))))
  (dss_cons (ds_setL (i := 4) sc_by_value.nd (dl_sortP T.sorted_ (de_frz (dl_lc [("k", 6)] rfl sc_by_value.nd (di_range1 T.range_ (da_cons (de_len T.len_ (de_var 3)) da_nil)) (blkOk_by (N := N_by_value) (sc := defScope s_by_value) (by decide +kernel)) (blk_name (by decide)) (fun _ _ _ _ _ => pg_name (i := 6) sc_by_value.nd rfl (Or.inl rfl)) (fun _ _ _ _ _ => pts_nilD) (fun B _ _ _ _ _ => (de_tup (da_cons (de_ix (de_var 3) (de_var 6) (fun _ _ => rfl)) (da_cons (de_var 6) da_nil))))))))
  (dss_one (ds_ret (de_frz (dl_lc [("_", 5), ("k", 6)] rfl sc_by_value.nd (di_list (de_var 4)) (blkOk_by (N := N_by_value) (sc := defScope s_by_value) (by decide +kernel)) (blk_pair (K := K) (by decide) (by decide)) (fun _ _ _ _ _ => pg_tup rfl (pgs_cons (pg_name (i := 5) sc_by_value.nd rfl (Or.inl rfl)) (pgs_cons (pg_name (i := 6) sc_by_value.nd rfl (Or.inl rfl)) pgs_nil))) (fun _ _ _ _ _ => pts_nilD) (fun B _ _ _ _ _ => (de_var 6))))))))))
theorem ok_by_value (T : Txt K mg)  {f : Addr} {fd : FuncData} (F : FunD K "by_value" "by_value" (defArgs s_by_value) (defBody s_by_value) (defScope s_by_value) [] [] f fd) (hm : mg "by_value" = some (.ref f))
    (hl : ∀ ds Q, C_by_value ds Q → ds.length = 1) (hC : ∀ ds Q, C_by_value ds Q → t_by_value (retE Q) (startD N_by_value ds)) : Cal P w K mg base CX0 1 "by_value" ["quotients"] (pureSp C_by_value) :=
  ⟨f, fd, fn_pure F sc_by_value hl (by decide) (fun cdv A outer s H E hr B => b_by_value T  hr B) hC, hm, F.kp, F.bindsN fun _ _ _ _ _ _ us hl => match us, hl with | [_], _ => rfl⟩
/-! ### in_sheet: 0 spread, 1 sort, 2 sheet, 3 i -/
abbrev N_in_sheet : List Str := ["spread", "sort", "sheet", "i"]
theorem sc_in_sheet : FnScope N_in_sheet ["spread", "sort", "sheet"] (defScope s_in_sheet) := ⟨rfl, rfl, rfl, by decide +kernel, rfl, by decide +kernel, by decide +kernel⟩
def t_in_sheet : DTS :=
  (dRet (dFrz (dLc (dRng1 (dCons (dUn fLen (dVar 0)) dNil)) (dgName 3) (dTst (dBin fEqP (dSlT (dBin fIx (dVar 0) (dVar 3)) (dPart (dC (.int 2))) (dPart (dC (.int 4)))) (dTup (dCons (dVar 1) (dCons (dVar 2) dNil))))) (dVar 3) [3])))
theorem b_in_sheet (T : Txt K mg)  {f : Addr} {cdv : Value} {A : Around} {outer : List Env} {s : Shared} {H : Hp} {E : XK} (hr : Room 0 (A.deeper (envOfC "in_sheet" (defScope s_in_sheet) s.heap.objs.size f cdv))) (B : Ent) :
    PSs (cxOf CX0 P w K mg base N_in_sheet "in_sheet" (defScope s_in_sheet) f cdv A outer s H E).nox (defBody s_in_sheet) (liftS B t_in_sheet) := by
  exact (dss_one (ds_ret (de_frz (dl_lc [("i", 3)] rfl sc_in_sheet.nd (di_range1 T.range_ (da_cons (de_len T.len_ (de_var 0)) da_nil)) (blkOk_by (N := N_in_sheet) (sc := defScope s_in_sheet) (by decide +kernel)) (blk_name (by decide)) (fun _ _ _ _ _ => pg_name (i := 3) sc_in_sheet.nd rfl (Or.inl rfl)) (fun _ _ _ _ _ => pts_oneD fun B => (dt_cmp (op_eqD hr.units) sn_eqP (de_slT (de_ix (de_var 0) (de_var 3) (fun _ _ => rfl)) (do_some de_int) (do_some de_int)) (de_tup (da_cons (de_var 1) (da_cons (de_var 2) da_nil))))) (fun B _ _ _ _ _ => (de_var 3))))))
theorem ok_in_sheet (T : Txt K mg)  {f : Addr} {fd : FuncData} (F : FunD K "in_sheet" "in_sheet" (defArgs s_in_sheet) (defBody s_in_sheet) (defScope s_in_sheet) [] [] f fd) (hm : mg "in_sheet" = some (.ref f))
    (hl : ∀ ds Q, C_in_sheet ds Q → ds.length = 3) (hC : ∀ ds Q, C_in_sheet ds Q → t_in_sheet (retE Q) (startD N_in_sheet ds)) : Cal P w K mg base CX0 1 "in_sheet" ["spread", "sort", "sheet"] (pureSp C_in_sheet) :=
  ⟨f, fd, fn_pure F sc_in_sheet hl (by decide) (fun cdv A outer s H E hr B => b_in_sheet T  hr B) hC, hm, F.kp, F.bindsN fun _ _ _ _ _ _ us hl => match us, hl with | [_, _, _], _ => rfl⟩
end
end K28
end
section
set_option Elab.async false
set_option linter.all false
set_option maxRecDepth 100000
set_option maxHeartbeats 4000000
namespace K28
open PySem PySem.Spec PyProof.Rows L2 DL
section
variable {P : Program} {w : World} {K : PySem.W.Frag} {mg : Str → Option Value} {base : Heap}
/-! ### is_integer: 0 thing -/
abbrev N_is_integer : List Str := ["thing"]
theorem sc_is_integer : FnScope N_is_integer ["thing"] (defScope s_is_integer) := ⟨rfl, rfl, rfl, by decide +kernel, rfl, by decide +kernel, by decide +kernel⟩
def t_is_integer : DTS :=
  (dRet (dAndV (dUn (fIsi isInt) (dVar 0)) (dUn fNotV (dUn (fIsi isBool) (dVar 0)))))
theorem b_is_integer (T : Txt K mg)  {f : Addr} {cdv : Value} {A : Around} {outer : List Env} {s : Shared} {H : Hp} {E : XK} (hr : Room 0 (A.deeper (envOfC "is_integer" (defScope s_is_integer) s.heap.objs.size f cdv))) (B : Ent) :
    PSs (cxOf CX0 P w K mg base N_is_integer "is_integer" (defScope s_is_integer) f cdv A outer s H E).nox (defBody s_is_integer) (liftS B t_is_integer) := by
  exact (dss_one (ds_ret (de_and (de_isi kit_int T.isinstance_ T.int_ (by decide +kernel) (de_var 0)) (de_one (de_not (de_isi kit_bool T.isinstance_ T.bool_ (by decide +kernel) (de_var 0)))))))
theorem ok_is_integer (T : Txt K mg)  {f : Addr} {fd : FuncData} (F : FunD K "is_integer" "is_integer" (defArgs s_is_integer) (defBody s_is_integer) (defScope s_is_integer) [] [] f fd) (hm : mg "is_integer" = some (.ref f))
    (hl : ∀ ds Q, C_is_integer ds Q → ds.length = 1) (hC : ∀ ds Q, C_is_integer ds Q → t_is_integer (retE Q) (startD N_is_integer ds)) : Cal P w K mg base CX0 1 "is_integer" ["thing"] (pureSp C_is_integer) :=
  ⟨f, fd, fn_pure F sc_is_integer hl (by decide) (fun cdv A outer s H E hr B => b_is_integer T  hr B) hC, hm, F.kp, F.bindsN fun _ _ _ _ _ _ us hl => match us, hl with | [_], _ => rfl⟩
/-! ### is_number: 0 thing -/
abbrev N_is_number : List Str := ["thing"]
theorem sc_is_number : FnScope N_is_number ["thing"] (defScope s_is_number) := ⟨rfl, rfl, rfl, by decide +kernel, rfl, by decide +kernel, by decide +kernel⟩
def t_is_number : DTS :=
  (dRet (dAndV (dCall C_is_integer (dCons (dVar 0) dNil)) (dBin fGe (dVar 0) (dC (.int 0)))))
theorem b_is_number (T : Txt K mg) (c_is_integer : Cal P w K mg base CX0 1 "is_integer" ["thing"] (pureSp C_is_integer)) {f : Addr} {cdv : Value} {A : Around} {outer : List Env} {s : Shared} {H : Hp} {E : XK} (hr : Room 1 (A.deeper (envOfC "is_number" (defScope s_is_number) s.heap.objs.size f cdv))) (B : Ent) :
    PSs (cxOf CX0 P w K mg base N_is_number "is_number" (defScope s_is_number) f cdv A outer s H E).nox (defBody s_is_number) (liftS B t_is_number) := by
  exact (dss_one (ds_ret (de_and (de_callC c_is_integer (hr.mono (by decide)) (da_cons (de_var 0) da_nil)) (de_one (de_cmp op_ge sn_ge (de_var 0) de_int)))))
theorem ok_is_number (T : Txt K mg) (c_is_integer : Cal P w K mg base CX0 1 "is_integer" ["thing"] (pureSp C_is_integer)) {f : Addr} {fd : FuncData} (F : FunD K "is_number" "is_number" (defArgs s_is_number) (defBody s_is_number) (defScope s_is_number) [] [] f fd) (hm : mg "is_number" = some (.ref f))
    (hl : ∀ ds Q, C_is_number ds Q → ds.length = 1) (hC : ∀ ds Q, C_is_number ds Q → t_is_number (retE Q) (startD N_is_number ds)) : Cal P w K mg base CX0 2 "is_number" ["thing"] (pureSp C_is_number) :=
  ⟨f, fd, fn_pure F sc_is_number hl (by decide) (fun cdv A outer s H E hr B => b_is_number T c_is_integer hr B) hC, hm, F.kp, F.bindsN fun _ _ _ _ _ _ us hl => match us, hl with | [_], _ => rfl⟩
/-! ### is_quotient: 0 thing, 1 top, 2 bottom -/
abbrev N_is_quotient : List Str := ["thing", "top", "bottom"]
theorem sc_is_quotient : FnScope N_is_quotient ["thing"] (defScope s_is_quotient) := ⟨rfl, rfl, rfl, by decide +kernel, rfl, by decide +kernel, by decide +kernel⟩
def t_is_quotient : DTS :=
  (dSeq (dIf (dNot (dTst (dCall C_is_tuple_of (dCons (dVar 0) (dCons (dC (.int 2)) dNil)))))
   (dRet (dC (.bl false)))
   dNext)
  (dSeq (dAsg (dVar 0) (dgTup 2 (dgCons (dgName 1) (dgCons (dgName 2) dgNil))))
  (dSeq (dIf (dOr (dNot (dTst (dCall C_is_integer (dCons (dVar 1) dNil)))) (dNot (dTst (dCall C_is_integer (dCons (dVar 2) dNil)))))
   (dRet (dC (.bl false)))
   dNext)
  (dRet (dAndV (dBin fGe (dVar 2) (dC (.int 1))) (dBin fEq (dC2 gGcd (dCons (dVar 1) (dCons (dVar 2) dNil))) (dC (.int 1))))))))
theorem b_is_quotient (T : Txt K mg) (c_is_tuple_of : Cal P w K mg base CX0 1 "_is_tuple_of" ["thing", "many"] (pureSp C_is_tuple_of)) (c_is_integer : Cal P w K mg base CX0 1 "is_integer" ["thing"] (pureSp C_is_integer)) {f : Addr} {cdv : Value} {A : Around} {outer : List Env} {s : Shared} {H : Hp} {E : XK} (hr : Room 1 (A.deeper (envOfC "is_quotient" (defScope s_is_quotient) s.heap.objs.size f cdv))) (B : Ent) :
    PSs (cxOf CX0 P w K mg base N_is_quotient "is_quotient" (defScope s_is_quotient) f cdv A outer s H E).nox (defBody s_is_quotient) (liftS B t_is_quotient) := by
  exact (dss_cons (ds_if (dt_not (dt_val (de_callC c_is_tuple_of (hr.mono (by decide)) (da_cons (de_var 0) (da_cons de_int da_nil)))))
   (dss_one (ds_ret de_bl))
   dss_nil)
  (dss_cons (ds_asg (de_var 0) (dg_tup rfl (dgs_cons (dg_name (i := 1) sc_is_quotient.nd) (dgs_cons (dg_name (i := 2) sc_is_quotient.nd) dgs_nil))))
  (dss_cons (ds_if (L2.PW.pt (dw_or (dt_not (dt_val (de_callC c_is_integer (hr.mono (by decide)) (da_cons (de_var 1) da_nil)))) (dw_or1 (dt_not (dt_val (de_callC c_is_integer (hr.mono (by decide)) (da_cons (de_var 2) da_nil)))))))
   (dss_one (ds_ret de_bl))
   dss_nil)
  (dss_one (ds_ret (de_and (de_cmp op_ge sn_ge (de_var 2) de_int) (de_one (de_cmp op_eq sn_eq (de_gcd T.gcd_ (da_cons (de_var 1) (da_cons (de_var 2) da_nil))) de_int))))))))
theorem ok_is_quotient (T : Txt K mg) (c_is_tuple_of : Cal P w K mg base CX0 1 "_is_tuple_of" ["thing", "many"] (pureSp C_is_tuple_of)) (c_is_integer : Cal P w K mg base CX0 1 "is_integer" ["thing"] (pureSp C_is_integer)) {f : Addr} {fd : FuncData} (F : FunD K "is_quotient" "is_quotient" (defArgs s_is_quotient) (defBody s_is_quotient) (defScope s_is_quotient) [] [] f fd) (hm : mg "is_quotient" = some (.ref f))
    (hl : ∀ ds Q, C_is_quotient ds Q → ds.length = 1) (hC : ∀ ds Q, C_is_quotient ds Q → t_is_quotient (retE Q) (startD N_is_quotient ds)) : Cal P w K mg base CX0 2 "is_quotient" ["thing"] (pureSp C_is_quotient) :=
  ⟨f, fd, fn_pure F sc_is_quotient hl (by decide) (fun cdv A outer s H E hr B => b_is_quotient T c_is_tuple_of c_is_integer hr B) hC, hm, F.kp, F.bindsN fun _ _ _ _ _ _ us hl => match us, hl with | [_], _ => rfl⟩
/-! ### is_kind: 0 lists, 1 thing, 2 a, 3 b -/
abbrev N_is_kind : List Str := ["lists", "thing", "a", "b"]
theorem sc_is_kind : FnScope N_is_kind ["lists", "thing"] (defScope s_is_kind) := ⟨rfl, rfl, rfl, by decide +kernel, rfl, by decide +kernel, by decide +kernel⟩
def t_is_kind : DTS :=
  (dSeq (dIf (dNot (dTst (dCall C_is_tuple_of (dCons (dVar 1) (dCons (dC (.int 2)) dNil)))))
   (dRet (dC (.bl false)))
   dNext)
  (dSeq (dAsg (dVar 1) (dgTup 2 (dgCons (dgName 2) (dgCons (dgName 3) dgNil))))
  (dSeq (dIf (dOr (dNot (dTst (dCall C_is_number (dCons (dVar 2) dNil)))) (dNot (dTst (dCall C_is_number (dCons (dVar 3) dNil)))))
   (dRet (dC (.bl false)))
   dNext)
  (dRet (dAndV (dBin fLt (dVar 2) (dUn fLen (dBin fIx (dVar 0) (dC (.int 0))))) (dBin fLt (dVar 3) (dUn fLen (dBin fIx (dVar 0) (dC (.int 1))))))))))
theorem b_is_kind (T : Txt K mg) (c_is_tuple_of : Cal P w K mg base CX0 1 "_is_tuple_of" ["thing", "many"] (pureSp C_is_tuple_of)) (c_is_number : Cal P w K mg base CX0 2 "is_number" ["thing"] (pureSp C_is_number)) {f : Addr} {cdv : Value} {A : Around} {outer : List Env} {s : Shared} {H : Hp} {E : XK} (hr : Room 2 (A.deeper (envOfC "is_kind" (defScope s_is_kind) s.heap.objs.size f cdv))) (B : Ent) :
    PSs (cxOf CX0 P w K mg base N_is_kind "is_kind" (defScope s_is_kind) f cdv A outer s H E).nox (defBody s_is_kind) (liftS B t_is_kind) := by
  exact (dss_cons (ds_if (dt_not (dt_val (de_callC c_is_tuple_of (hr.mono (by decide)) (da_cons (de_var 1) (da_cons de_int da_nil)))))
   (dss_one (ds_ret de_bl))
   dss_nil)
  (dss_cons (ds_asg (de_var 1) (dg_tup rfl (dgs_cons (dg_name (i := 2) sc_is_kind.nd) (dgs_cons (dg_name (i := 3) sc_is_kind.nd) dgs_nil))))
  (dss_cons (ds_if (L2.PW.pt (dw_or (dt_not (dt_val (de_callC c_is_number (hr.mono (by decide)) (da_cons (de_var 2) da_nil)))) (dw_or1 (dt_not (dt_val (de_callC c_is_number (hr.mono (by decide)) (da_cons (de_var 3) da_nil)))))))
   (dss_one (ds_ret de_bl))
   dss_nil)
  (dss_one (ds_ret (de_and (de_cmp op_lt sn_lt (de_var 2) (de_len T.len_ (de_ix (de_var 0) de_int (fun _ _ => rfl)))) (de_one (de_cmp op_lt sn_lt (de_var 3) (de_len T.len_ (de_ix (de_var 0) de_int (fun _ _ => rfl)))))))))))
theorem ok_is_kind (T : Txt K mg) (c_is_tuple_of : Cal P w K mg base CX0 1 "_is_tuple_of" ["thing", "many"] (pureSp C_is_tuple_of)) (c_is_number : Cal P w K mg base CX0 2 "is_number" ["thing"] (pureSp C_is_number)) {f : Addr} {fd : FuncData} (F : FunD K "is_kind" "is_kind" (defArgs s_is_kind) (defBody s_is_kind) (defScope s_is_kind) [] [] f fd) (hm : mg "is_kind" = some (.ref f))
    (hl : ∀ ds Q, C_is_kind ds Q → ds.length = 2) (hC : ∀ ds Q, C_is_kind ds Q → t_is_kind (retE Q) (startD N_is_kind ds)) : Cal P w K mg base CX0 3 "is_kind" ["lists", "thing"] (pureSp C_is_kind) :=
  ⟨f, fd, fn_pure F sc_is_kind hl (by decide) (fun cdv A outer s H E hr B => b_is_kind T c_is_tuple_of c_is_number hr B) hC, hm, F.kp, F.bindsN fun _ _ _ _ _ _ us hl => match us, hl with | [_, _], _ => rfl⟩
/-! ### _is_tuple_of: 0 thing, 1 many -/
abbrev N_is_tuple_of : List Str := ["thing", "many"]
theorem sc_is_tuple_of : FnScope N_is_tuple_of ["thing", "many"] (defScope s_is_tuple_of) := ⟨rfl, rfl, rfl, by decide +kernel, rfl, by decide +kernel, by decide +kernel⟩
def t_is_tuple_of : DTS :=
  (dRet (dAndV (dUn (fIsi isTup) (dVar 0)) (dBin fEq (dUn fLen (dVar 0)) (dVar 1))))
theorem b_is_tuple_of (T : Txt K mg)  {f : Addr} {cdv : Value} {A : Around} {outer : List Env} {s : Shared} {H : Hp} {E : XK} (hr : Room 0 (A.deeper (envOfC "_is_tuple_of" (defScope s_is_tuple_of) s.heap.objs.size f cdv))) (B : Ent) :
    PSs (cxOf CX0 P w K mg base N_is_tuple_of "_is_tuple_of" (defScope s_is_tuple_of) f cdv A outer s H E).nox (defBody s_is_tuple_of) (liftS B t_is_tuple_of) := by
  exact (dss_one (ds_ret (de_and (de_isi kit_tup T.isinstance_ T.tuple_ (by decide +kernel) (de_var 0)) (de_one (de_cmp op_eq sn_eq (de_len T.len_ (de_var 0)) (de_var 1))))))
theorem ok_is_tuple_of (T : Txt K mg)  {f : Addr} {fd : FuncData} (F : FunD K "_is_tuple_of" "_is_tuple_of" (defArgs s_is_tuple_of) (defBody s_is_tuple_of) (defScope s_is_tuple_of) [] [] f fd) (hm : mg "_is_tuple_of" = some (.ref f))
    (hl : ∀ ds Q, C_is_tuple_of ds Q → ds.length = 2) (hC : ∀ ds Q, C_is_tuple_of ds Q → t_is_tuple_of (retE Q) (startD N_is_tuple_of ds)) : Cal P w K mg base CX0 1 "_is_tuple_of" ["thing", "many"] (pureSp C_is_tuple_of) :=
  ⟨f, fd, fn_pure F sc_is_tuple_of hl (by decide) (fun cdv A outer s H E hr B => b_is_tuple_of T  hr B) hC, hm, F.kp, F.bindsN fun _ _ _ _ _ _ us hl => match us, hl with | [_, _], _ => rfl⟩
/-! ### is_piece: 0 lists, 1 thing, 2 a, 3 b, 4 sort, 5 sheet, 6 x, 7 y -/
abbrev N_is_piece : List Str := ["lists", "thing", "a", "b", "sort", "sheet", "x", "y"]
theorem sc_is_piece : FnScope N_is_piece ["lists", "thing"] (defScope s_is_piece) := ⟨rfl, rfl, rfl, by decide +kernel, rfl, by decide +kernel, by decide +kernel⟩
def t_is_piece : DTS :=
  (dSeq (dIf (dOr (dNot (dTst (dUn (fIsi isTup) (dVar 1)))) (dTst (dBin fNe (dUn fLen (dVar 1)) (dC (.int 6)))))
   (dRet (dC (.bl false)))
   dNext)
  (dSeq (dAsg (dVar 1) (dgTup 6 (dgCons (dgName 2) (dgCons (dgName 3) (dgCons (dgName 4) (dgCons (dgName 5) (dgCons (dgName 6) (dgCons (dgName 7) dgNil))))))))
  (dSeq (dIf (dOr (dNot (dTst (dCall C_is_kind (dCons (dVar 0) (dCons (dTup (dCons (dVar 2) (dCons (dVar 3) dNil))) dNil))))) (dOr (dNot (dTst (dCall C_is_number (dCons (dVar 4) dNil)))) (dNot (dTst (dCall C_is_number (dCons (dVar 5) dNil))))))
   (dRet (dC (.bl false)))
   dNext)
  (dSeq (dIf (dOr (dNot (dTst (dCall C_is_quotient (dCons (dVar 6) dNil)))) (dNot (dTst (dCall C_is_quotient (dCons (dVar 7) dNil)))))
   (dRet (dC (.bl false)))
   dNext)
  (dRet (dAndV (dBin fGe (dBin fIx (dVar 6) (dC (.int 0))) (dC (.int 0))) (dBin fGe (dBin fIx (dVar 7) (dC (.int 0))) (dC (.int 0)))))))))
theorem b_is_piece (T : Txt K mg) (c_is_kind : Cal P w K mg base CX0 3 "is_kind" ["lists", "thing"] (pureSp C_is_kind)) (c_is_number : Cal P w K mg base CX0 2 "is_number" ["thing"] (pureSp C_is_number)) (c_is_quotient : Cal P w K mg base CX0 2 "is_quotient" ["thing"] (pureSp C_is_quotient)) {f : Addr} {cdv : Value} {A : Around} {outer : List Env} {s : Shared} {H : Hp} {E : XK} (hr : Room 3 (A.deeper (envOfC "is_piece" (defScope s_is_piece) s.heap.objs.size f cdv))) (B : Ent) :
    PSs (cxOf CX0 P w K mg base N_is_piece "is_piece" (defScope s_is_piece) f cdv A outer s H E).nox (defBody s_is_piece) (liftS B t_is_piece) := by
  exact (dss_cons (ds_if (L2.PW.pt (dw_or (dt_not (dt_val (de_isi kit_tup T.isinstance_ T.tuple_ (by decide +kernel) (de_var 1)))) (dw_or1 (dt_cmp op_ne sn_ne (de_len T.len_ (de_var 1)) de_int))))
   (dss_one (ds_ret de_bl))
   dss_nil)
  (dss_cons (ds_asg (de_var 1) (dg_tup rfl (dgs_cons (dg_name (i := 2) sc_is_piece.nd) (dgs_cons (dg_name (i := 3) sc_is_piece.nd) (dgs_cons (dg_name (i := 4) sc_is_piece.nd) (dgs_cons (dg_name (i := 5) sc_is_piece.nd) (dgs_cons (dg_name (i := 6) sc_is_piece.nd) (dgs_cons (dg_name (i := 7) sc_is_piece.nd) dgs_nil))))))))
  (dss_cons (ds_if (L2.PW.pt (dw_or (dt_not (dt_val (de_callC c_is_kind (hr.mono (by decide)) (da_cons (de_var 0) (da_cons (de_tup (da_cons (de_var 2) (da_cons (de_var 3) da_nil))) da_nil))))) (dw_or (dt_not (dt_val (de_callC c_is_number (hr.mono (by decide)) (da_cons (de_var 4) da_nil)))) (dw_or1 (dt_not (dt_val (de_callC c_is_number (hr.mono (by decide)) (da_cons (de_var 5) da_nil))))))))
   (dss_one (ds_ret de_bl))
   dss_nil)
  (dss_cons (ds_if (L2.PW.pt (dw_or (dt_not (dt_val (de_callC c_is_quotient (hr.mono (by decide)) (da_cons (de_var 6) da_nil)))) (dw_or1 (dt_not (dt_val (de_callC c_is_quotient (hr.mono (by decide)) (da_cons (de_var 7) da_nil)))))))
   (dss_one (ds_ret de_bl))
   dss_nil)
  (dss_one (ds_ret (de_and (de_cmp op_ge sn_ge (de_ix (de_var 6) de_int (fun _ _ => rfl)) de_int) (de_one (de_cmp op_ge sn_ge (de_ix (de_var 7) de_int (fun _ _ => rfl)) de_int)))))))))
theorem ok_is_piece (T : Txt K mg) (c_is_kind : Cal P w K mg base CX0 3 "is_kind" ["lists", "thing"] (pureSp C_is_kind)) (c_is_number : Cal P w K mg base CX0 2 "is_number" ["thing"] (pureSp C_is_number)) (c_is_quotient : Cal P w K mg base CX0 2 "is_quotient" ["thing"] (pureSp C_is_quotient)) {f : Addr} {fd : FuncData} (F : FunD K "is_piece" "is_piece" (defArgs s_is_piece) (defBody s_is_piece) (defScope s_is_piece) [] [] f fd) (hm : mg "is_piece" = some (.ref f))
    (hl : ∀ ds Q, C_is_piece ds Q → ds.length = 2) (hC : ∀ ds Q, C_is_piece ds Q → t_is_piece (retE Q) (startD N_is_piece ds)) : Cal P w K mg base CX0 4 "is_piece" ["lists", "thing"] (pureSp C_is_piece) :=
  ⟨f, fd, fn_pure F sc_is_piece hl (by decide) (fun cdv A outer s H E hr B => b_is_piece T c_is_kind c_is_number c_is_quotient hr B) hC, hm, F.kp, F.bindsN fun _ _ _ _ _ _ us hl => match us, hl with | [_, _], _ => rfl⟩
end
end K28
end
section
set_option Elab.async false
set_option linter.all false
set_option maxRecDepth 100000
set_option maxHeartbeats 4000000
namespace K28
open PySem PySem.Spec PyProof.Rows L2 DL
section
variable {P : Program} {w : World} {K : PySem.W.Frag} {mg : Str → Option Value} {base : Heap}
/-! ### is_inside: 0 lists, 1 stock, 2 piece, 3 sort, 4 sheet, 5 side, 6 end -/
abbrev N_is_inside : List Str := ["lists", "stock", "piece", "sort", "sheet", "side", "end"]
theorem sc_is_inside : FnScope N_is_inside ["lists", "stock", "piece"] (defScope s_is_inside) := ⟨rfl, rfl, rfl, by decide +kernel, rfl, by decide +kernel, by decide +kernel⟩
def t_is_inside : DTS :=
  (dSeq (dAsg (dSlT (dVar 2) (dPart (dC (.int 2))) (dPart (dC (.int 4)))) (dgTup 2 (dgCons (dgName 3) (dgCons (dgName 4) dgNil))))
  (dSeq (dIf (dOr (dTst (dBin fGe (dVar 3) (dUn fLen (dVar 1)))) (dTst (dBin fGe (dVar 4) (dBin fIx (dBin fIx (dVar 1) (dVar 3)) (dC (.int 2))))))
   (dRet (dC (.bl false)))
   dNext)
  (dSeq (dFor (dSrcT (dTup (dCons (dC (.int 0)) (dCons (dC (.int 1)) dNil)))) (dgName 5)
   (dSeq (dAsg (dBin fIx (dCall C_ends_of (dCons (dVar 0) (dCons (dVar 2) (dCons (dVar 5) dNil)))) (dC (.int 1))) (dgName 6))
  (dIf (dTst (dBin fGt (dBin fIx (dVar 6) (dC (.int 0))) (dBin fMul (dBin fIx (dBin fIx (dVar 1) (dVar 3)) (dVar 5)) (dBin fIx (dVar 6) (dC (.int 1))))))
   (dRet (dC (.bl false)))
   dNext)))
  (dRet (dC (.bl true))))))
theorem b_is_inside (T : Txt K mg) (c_ends_of : Cal P w K mg base CX0 1 "ends_of" ["lists", "piece", "side"] (pureSp C_ends_of)) {f : Addr} {cdv : Value} {A : Around} {outer : List Env} {s : Shared} {H : Hp} {E : XK} (hr : Room 1 (A.deeper (envOfC "is_inside" (defScope s_is_inside) s.heap.objs.size f cdv))) (B : Ent) :
    PSs (cxOf CX0 P w K mg base N_is_inside "is_inside" (defScope s_is_inside) f cdv A outer s H E).nox (defBody s_is_inside) (liftS B t_is_inside) := by
  exact (dss_cons (ds_asg (de_slT (de_var 2) (do_some de_int) (do_some de_int)) (dg_tup rfl (dgs_cons (dg_name (i := 3) sc_is_inside.nd) (dgs_cons (dg_name (i := 4) sc_is_inside.nd) dgs_nil))))
  (dss_cons (ds_if (L2.PW.pt (dw_or (dt_cmp op_ge sn_ge (de_var 3) (de_len T.len_ (de_var 1))) (dw_or1 (dt_cmp op_ge sn_ge (de_var 4) (de_ix (de_ix (de_var 1) (de_var 3) (fun _ _ => rfl)) de_int (fun _ _ => rfl))))))
   (dss_one (ds_ret de_bl))
   dss_nil)
  (dss_cons (ds_for PassesOwn.never rfl (di_tup (de_tup (da_cons de_int (da_cons de_int da_nil)))) (dg_name (i := 5) sc_is_inside.nd)
   (dss_cons (ds_set (i := 6) sc_is_inside.nd (de_ix (de_callC c_ends_of (hr.mono (by decide)) (da_cons (de_var 0) (da_cons (de_var 2) (da_cons (de_var 5) da_nil)))) de_int (fun _ _ => rfl)))
  (dss_one (ds_if (dt_cmp op_gt sn_gt (de_ix (de_var 6) de_int (fun _ _ => rfl)) (de_bin op_mul sn_mul (de_ix (de_ix (de_var 1) (de_var 3) (fun _ _ => rfl)) (de_var 5) (fun _ _ => rfl)) (de_ix (de_var 6) de_int (fun _ _ => rfl))))
   (dss_one (ds_ret de_bl))
   dss_nil))))
  (dss_one (ds_ret de_bl)))))
theorem ok_is_inside (T : Txt K mg) (c_ends_of : Cal P w K mg base CX0 1 "ends_of" ["lists", "piece", "side"] (pureSp C_ends_of)) {f : Addr} {fd : FuncData} (F : FunD K "is_inside" "is_inside" (defArgs s_is_inside) (defBody s_is_inside) (defScope s_is_inside) [] [] f fd) (hm : mg "is_inside" = some (.ref f))
    (hl : ∀ ds Q, C_is_inside ds Q → ds.length = 3) (hC : ∀ ds Q, C_is_inside ds Q → t_is_inside (retE Q) (startD N_is_inside ds)) : Cal P w K mg base CX0 2 "is_inside" ["lists", "stock", "piece"] (pureSp C_is_inside) :=
  ⟨f, fd, fn_pure F sc_is_inside hl (by decide) (fun cdv A outer s H E hr B => b_is_inside T c_ends_of hr B) hC, hm, F.kp, F.bindsN fun _ _ _ _ _ _ us hl => match us, hl with | [_, _, _], _ => rfl⟩
/-! ### first_pair: 0 lists, 1 pieces, 2 i, 3 k -/
abbrev N_first_pair : List Str := ["lists", "pieces", "i", "k"]
theorem sc_first_pair : FnScope N_first_pair ["lists", "pieces"] (defScope s_first_pair) := ⟨rfl, rfl, rfl, by decide +kernel, rfl, by decide +kernel, by decide +kernel⟩
def t_first_pair : DTS :=
  (dSeq (dFor (dRng1 (dCons (dUn fLen (dVar 1)) dNil)) (dgName 2)
   (dFor (dRng1 (dCons (dVar 2) dNil)) (dgName 3)
   (dIf (dTst (dCall C_do_overlap (dCons (dVar 0) (dCons (dBin fIx (dVar 1) (dVar 2)) (dCons (dBin fIx (dVar 1) (dVar 3)) dNil)))))
   (dRet (dTup (dCons (dVar 2) (dCons (dVar 3) dNil))))
   dNext)))
  (dRet (dC .non)))
theorem b_first_pair (T : Txt K mg) (c_do_overlap : Cal P w K mg base CX0 3 "do_overlap" ["lists", "piece", "other"] (pureSp C_do_overlap)) {f : Addr} {cdv : Value} {A : Around} {outer : List Env} {s : Shared} {H : Hp} {E : XK} (hr : Room 3 (A.deeper (envOfC "first_pair" (defScope s_first_pair) s.heap.objs.size f cdv))) (B : Ent) :
    PSs (cxOf CX0 P w K mg base N_first_pair "first_pair" (defScope s_first_pair) f cdv A outer s H E).nox (defBody s_first_pair) (liftS B t_first_pair) := by
  exact (dss_cons (ds_for PassesOwn.never rfl (di_range1 T.range_ (da_cons (de_len T.len_ (de_var 1)) da_nil)) (dg_name (i := 2) sc_first_pair.nd)
   (dss_one (ds_for PassesOwn.never rfl (di_range1 T.range_ (da_cons (de_var 2) da_nil)) (dg_name (i := 3) sc_first_pair.nd)
   (dss_one (ds_if (dt_val (de_callC c_do_overlap (hr.mono (by decide)) (da_cons (de_var 0) (da_cons (de_ix (de_var 1) (de_var 2) (fun _ _ => rfl)) (da_cons (de_ix (de_var 1) (de_var 3) (fun _ _ => rfl)) da_nil)))))
   (dss_one (ds_ret (de_tup (da_cons (de_var 2) (da_cons (de_var 3) da_nil)))))
   dss_nil)))))
  (dss_one (ds_ret de_non)))
theorem ok_first_pair (T : Txt K mg) (c_do_overlap : Cal P w K mg base CX0 3 "do_overlap" ["lists", "piece", "other"] (pureSp C_do_overlap)) {f : Addr} {fd : FuncData} (F : FunD K "first_pair" "first_pair" (defArgs s_first_pair) (defBody s_first_pair) (defScope s_first_pair) [] [] f fd) (hm : mg "first_pair" = some (.ref f))
    (hl : ∀ ds Q, C_first_pair ds Q → ds.length = 2) (hC : ∀ ds Q, C_first_pair ds Q → t_first_pair (retE Q) (startD N_first_pair ds)) : Cal P w K mg base CX0 4 "first_pair" ["lists", "pieces"] (pureSp C_first_pair) :=
  ⟨f, fd, fn_pure F sc_first_pair hl (by decide) (fun cdv A outer s H E hr B => b_first_pair T c_do_overlap hr B) hC, hm, F.kp, F.bindsN fun _ _ _ _ _ _ us hl => match us, hl with | [_, _], _ => rfl⟩
/-! ### first_fault: 0 lists, 1 stock, 2 thing, 3 i, 4 entry, 5 pair -/
abbrev N_first_fault : List Str := ["lists", "stock", "thing", "i", "entry", "pair"]
theorem sc_first_fault : FnScope N_first_fault ["lists", "stock", "thing"] (defScope s_first_fault) := ⟨rfl, rfl, rfl, by decide +kernel, rfl, by decide +kernel, by decide +kernel⟩
def t_first_fault : DTS :=
  (dSeq (dIf (dNot (dTst (dUn (fIsi isTup) (dVar 2))))
   (dRet (dTup (dCons (dC (.str "spread")) (dCons (dUn fNeg (dC (.int 1))) dNil))))
   dNext)
  (dSeq (dFor (dEnumT (dVar 2)) (dgTup 2 (dgCons (dgName 3) (dgCons (dgName 4) dgNil)))
   (dSeq (dIf (dNot (dTst (dCall C_is_piece (dCons (dVar 0) (dCons (dVar 4) dNil)))))
   (dRet (dTup (dCons (dC (.str "piece")) (dCons (dVar 3) dNil))))
   dNext)
  (dIf (dNot (dTst (dCall C_is_inside (dCons (dVar 0) (dCons (dVar 1) (dCons (dVar 4) dNil))))))
   (dRet (dTup (dCons (dC (.str "inside")) (dCons (dVar 3) dNil))))
   dNext)))
  (dSeq (dAsg (dCall C_first_pair (dCons (dVar 0) (dCons (dVar 2) dNil))) (dgName 5))
  (dSeq (dIf (dTst (dUn (fD fNotN) (dVar 5)))
   (dRet (dTup (dCons (dC (.str "overlap")) (dCons (dVar 5) dNil))))
   dNext)
  (dRet (dC .non))))))
theorem b_first_fault (T : Txt K mg) (c_is_piece : Cal P w K mg base CX0 4 "is_piece" ["lists", "thing"] (pureSp C_is_piece)) (c_is_inside : Cal P w K mg base CX0 2 "is_inside" ["lists", "stock", "piece"] (pureSp C_is_inside)) (c_first_pair : Cal P w K mg base CX0 4 "first_pair" ["lists", "pieces"] (pureSp C_first_pair)) {f : Addr} {cdv : Value} {A : Around} {outer : List Env} {s : Shared} {H : Hp} {E : XK} (hr : Room 4 (A.deeper (envOfC "first_fault" (defScope s_first_fault) s.heap.objs.size f cdv))) (B : Ent) :
    PSs (cxOf CX0 P w K mg base N_first_fault "first_fault" (defScope s_first_fault) f cdv A outer s H E).nox (defBody s_first_fault) (liftS B t_first_fault) := by
  exact (dss_cons (ds_if (dt_not (dt_val (de_isi kit_tup T.isinstance_ T.tuple_ (by decide +kernel) (de_var 2))))
   (dss_one (ds_ret (de_tup (da_cons de_str (da_cons (de_neg de_int) da_nil)))))
   dss_nil)
  (dss_cons (ds_for PassesOwn.never rfl (di_enumT T.enumerate_ (de_var 2)) (dg_tup rfl (dgs_cons (dg_name (i := 3) sc_first_fault.nd) (dgs_cons (dg_name (i := 4) sc_first_fault.nd) dgs_nil)))
   (dss_cons (ds_if (dt_not (dt_val (de_callC c_is_piece (hr.mono (by decide)) (da_cons (de_var 0) (da_cons (de_var 4) da_nil)))))
   (dss_one (ds_ret (de_tup (da_cons de_str (da_cons (de_var 3) da_nil)))))
   dss_nil)
  (dss_one (ds_if (dt_not (dt_val (de_callC c_is_inside (hr.mono (by decide)) (da_cons (de_var 0) (da_cons (de_var 1) (da_cons (de_var 4) da_nil))))))
   (dss_one (ds_ret (de_tup (da_cons de_str (da_cons (de_var 3) da_nil)))))
   dss_nil))))
  (dss_cons (ds_set (i := 5) sc_first_fault.nd (de_callC c_first_pair (hr.mono (by decide)) (da_cons (de_var 0) (da_cons (de_var 2) da_nil))))
  (dss_cons (ds_if (dt_notN (de_var 5))
   (dss_one (ds_ret (de_tup (da_cons de_str (da_cons (de_var 5) da_nil)))))
   dss_nil)
  (dss_one (ds_ret de_non))))))
theorem ok_first_fault (T : Txt K mg) (c_is_piece : Cal P w K mg base CX0 4 "is_piece" ["lists", "thing"] (pureSp C_is_piece)) (c_is_inside : Cal P w K mg base CX0 2 "is_inside" ["lists", "stock", "piece"] (pureSp C_is_inside)) (c_first_pair : Cal P w K mg base CX0 4 "first_pair" ["lists", "pieces"] (pureSp C_first_pair)) {f : Addr} {fd : FuncData} (F : FunD K "first_fault" "first_fault" (defArgs s_first_fault) (defBody s_first_fault) (defScope s_first_fault) [] [] f fd) (hm : mg "first_fault" = some (.ref f))
    (hl : ∀ ds Q, C_first_fault ds Q → ds.length = 3) (hC : ∀ ds Q, C_first_fault ds Q → t_first_fault (retE Q) (startD N_first_fault ds)) : Cal P w K mg base CX0 5 "first_fault" ["lists", "stock", "thing"] (pureSp C_first_fault) :=
  ⟨f, fd, fn_pure F sc_first_fault hl (by decide) (fun cdv A outer s H E hr B => b_first_fault T c_is_piece c_is_inside c_first_pair hr B) hC, hm, F.kp, F.bindsN fun _ _ _ _ _ _ us hl => match us, hl with | [_, _, _], _ => rfl⟩
/-! ### need_spread: 0 lists, 1 stock, 2 spread -/
abbrev N_need_spread : List Str := ["lists", "stock", "spread"]
theorem sc_need_spread : FnScope N_need_spread ["lists", "stock", "spread"] (defScope s_need_spread) := ⟨rfl, rfl, rfl, by decide +kernel, rfl, by decide +kernel, by decide +kernel⟩
def t_need_spread (xc : V → V → Prop) : DTS :=
  (dIf (dTst (dUn (fD fNotN) (dCall C_first_fault (dCons (dVar 0) (dCons (dVar 1) (dCons (dVar 2) dNil))))))
   (dRaise xc (dCons (dC (.str "spread")) (dCons (dUn fNeg (dC (.int 1))) dNil)))
   dNext)
theorem b_need_spread {Cl : Addr} (T : TxtX P w K mg base Cl) (c_first_fault : Cal P w K mg base CX0 5 "first_fault" ["lists", "stock", "thing"] (pureSp C_first_fault)) {f : Addr} {cdv : Value} {A : Around} {outer : List Env} {s : Shared} {H : Hp} {E : XK} (hr : Room 5 (A.deeper (envOfC "need_spread" (defScope s_need_spread) s.heap.objs.size f cdv))) (B : Ent) (xc : V → V → Prop) (hB : B.f = none)
    (hx : Passes (L2.CX P w) (cxOf (L2.CX P w) P w K mg base N_need_spread "need_spread" (defScope s_need_spread) f cdv A outer s H E) (EofC Cl B.H0 xc)) (hW : ∀ cls d (σ : L2.St) H', EofC Cl B.H0 xc cls d H' → E cls d H') : PSs (cxOf (L2.CX P w) P w K mg base N_need_spread "need_spread" (defScope s_need_spread) f cdv A outer s H E) (defBody s_need_spread) (liftS B (t_need_spread xc)) := by
  have tk : Takes (cxOf (L2.CX P w) P w K mg base N_need_spread "need_spread" (defScope s_need_spread) f cdv A outer s H E) (fun cls d _ H => E cls d H) := takes_of rfl rfl rfl rfl
  have hp : PassesOwn (model P w) (A.deeper (envOfC "need_spread" (defScope s_need_spread) s.heap.objs.size f cdv)) (envOfC "need_spread" (defScope s_need_spread) s.heap.objs.size f cdv) (cxOf (L2.CX P w) P w K mg base N_need_spread "need_spread" (defScope s_need_spread) f cdv A outer s H E).xe := passes_of rfl
  exact (dss_one (ds_if (dt_notN (de_callC c_first_fault (hr.mono (by decide)) (da_cons (de_var 0) (da_cons (de_var 1) (da_cons (de_var 2) da_nil)))))
   (dss_one (ds_raiseC rfl tk hW T (hr.mono (by decide)) hB (da_cons de_str (da_cons (de_neg de_int) da_nil))))
   dss_nil))
theorem ok_need_spread {Cl : Addr} (T : TxtX P w K mg base Cl) (c_first_fault : Cal P w K mg base CX0 5 "first_fault" ["lists", "stock", "thing"] (pureSp C_first_fault)) {f : Addr} {fd : FuncData} (F : FunD K "need_spread" "need_spread" (defArgs s_need_spread) (defBody s_need_spread) (defScope s_need_spread) [] [] f fd) (hm : mg "need_spread" = some (.ref f))
    (hl : ∀ ds Q xc, C_need_spread ds Q xc → ds.length = 3) (hC : ∀ ds Q xc, C_need_spread ds Q xc → t_need_spread xc (retE Q) (startD N_need_spread ds)) : Cal P w K mg base (L2.CX P w) 6 "need_spread" ["lists", "stock", "spread"] (pureSpX Cl C_need_spread) :=
  ⟨f, fd, fn_pureX F sc_need_spread hl (by decide) (fun cdv A outer s H E hr B xc hB hx hW => b_need_spread T c_first_fault hr B xc hB hx hW) hC, hm, F.kp, F.bindsN fun _ _ _ _ _ _ us hl => match us, hl with | [_, _, _], _ => rfl⟩
/-! ### need_index: 0 thing, 1 many, 2 name -/
abbrev N_need_index : List Str := ["thing", "many", "name"]
theorem sc_need_index : FnScope N_need_index ["thing", "many", "name"] (defScope s_need_index) := ⟨rfl, rfl, rfl, by decide +kernel, rfl, by decide +kernel, by decide +kernel⟩
def t_need_index (xc : V → V → Prop) : DTS :=
  (dIf (dOr (dNot (dTst (dCall C_is_number (dCons (dVar 0) dNil)))) (dTst (dBin fGe (dVar 0) (dVar 1))))
   (dRaise xc (dCons (dVar 2) (dCons (dUn fNeg (dC (.int 1))) dNil)))
   dNext)
theorem b_need_index {Cl : Addr} (T : TxtX P w K mg base Cl) (c_is_number : Cal P w K mg base CX0 2 "is_number" ["thing"] (pureSp C_is_number)) {f : Addr} {cdv : Value} {A : Around} {outer : List Env} {s : Shared} {H : Hp} {E : XK} (hr : Room 2 (A.deeper (envOfC "need_index" (defScope s_need_index) s.heap.objs.size f cdv))) (B : Ent) (xc : V → V → Prop) (hB : B.f = none)
    (hx : Passes (L2.CX P w) (cxOf (L2.CX P w) P w K mg base N_need_index "need_index" (defScope s_need_index) f cdv A outer s H E) (EofC Cl B.H0 xc)) (hW : ∀ cls d (σ : L2.St) H', EofC Cl B.H0 xc cls d H' → E cls d H') : PSs (cxOf (L2.CX P w) P w K mg base N_need_index "need_index" (defScope s_need_index) f cdv A outer s H E) (defBody s_need_index) (liftS B (t_need_index xc)) := by
  have tk : Takes (cxOf (L2.CX P w) P w K mg base N_need_index "need_index" (defScope s_need_index) f cdv A outer s H E) (fun cls d _ H => E cls d H) := takes_of rfl rfl rfl rfl
  have hp : PassesOwn (model P w) (A.deeper (envOfC "need_index" (defScope s_need_index) s.heap.objs.size f cdv)) (envOfC "need_index" (defScope s_need_index) s.heap.objs.size f cdv) (cxOf (L2.CX P w) P w K mg base N_need_index "need_index" (defScope s_need_index) f cdv A outer s H E).xe := passes_of rfl
  exact (dss_one (ds_if (L2.PW.pt (dw_or (dt_not (dt_val (de_callC c_is_number (hr.mono (by decide)) (da_cons (de_var 0) da_nil)))) (dw_or1 (dt_cmp op_ge sn_ge (de_var 0) (de_var 1)))))
   (dss_one (ds_raiseC rfl tk hW T (hr.mono (by decide)) hB (da_cons (de_var 2) (da_cons (de_neg de_int) da_nil))))
   dss_nil))
theorem ok_need_index {Cl : Addr} (T : TxtX P w K mg base Cl) (c_is_number : Cal P w K mg base CX0 2 "is_number" ["thing"] (pureSp C_is_number)) {f : Addr} {fd : FuncData} (F : FunD K "need_index" "need_index" (defArgs s_need_index) (defBody s_need_index) (defScope s_need_index) [] [] f fd) (hm : mg "need_index" = some (.ref f))
    (hl : ∀ ds Q xc, C_need_index ds Q xc → ds.length = 3) (hC : ∀ ds Q xc, C_need_index ds Q xc → t_need_index xc (retE Q) (startD N_need_index ds)) : Cal P w K mg base (L2.CX P w) 3 "need_index" ["thing", "many", "name"] (pureSpX Cl C_need_index) :=
  ⟨f, fd, fn_pureX F sc_need_index hl (by decide) (fun cdv A outer s H E hr B xc hB hx hW => b_need_index T c_is_number hr B xc hB hx hW) hC, hm, F.kp, F.bindsN fun _ _ _ _ _ _ us hl => match us, hl with | [_, _, _], _ => rfl⟩
/-! ### need_sheet: 0 stock, 1 sort, 2 sheet -/
abbrev N_need_sheet : List Str := ["stock", "sort", "sheet"]
theorem sc_need_sheet : FnScope N_need_sheet ["stock", "sort", "sheet"] (defScope s_need_sheet) := ⟨rfl, rfl, rfl, by decide +kernel, rfl, by decide +kernel, by decide +kernel⟩
def t_need_sheet (xc : V → V → Prop) : DTS :=
  (dSeq (dDrop (dCallX C_need_index xc (dCons (dVar 1) (dCons (dUn fLen (dVar 0)) (dCons (dC (.str "sort")) dNil)))))
  (dDrop (dCallX C_need_index xc (dCons (dVar 2) (dCons (dBin fIx (dBin fIx (dVar 0) (dVar 1)) (dC (.int 2))) (dCons (dC (.str "sheet")) dNil))))))
theorem b_need_sheet {Cl : Addr} (T : TxtX P w K mg base Cl) (c_need_index : Cal P w K mg base (L2.CX P w) 3 "need_index" ["thing", "many", "name"] (pureSpX Cl C_need_index)) {f : Addr} {cdv : Value} {A : Around} {outer : List Env} {s : Shared} {H : Hp} {E : XK} (hr : Room 3 (A.deeper (envOfC "need_sheet" (defScope s_need_sheet) s.heap.objs.size f cdv))) (B : Ent) (xc : V → V → Prop) (hB : B.f = none)
    (hx : Passes (L2.CX P w) (cxOf (L2.CX P w) P w K mg base N_need_sheet "need_sheet" (defScope s_need_sheet) f cdv A outer s H E) (EofC Cl B.H0 xc)) (hW : ∀ cls d (σ : L2.St) H', EofC Cl B.H0 xc cls d H' → E cls d H') : PSs (cxOf (L2.CX P w) P w K mg base N_need_sheet "need_sheet" (defScope s_need_sheet) f cdv A outer s H E) (defBody s_need_sheet) (liftS B (t_need_sheet xc)) := by
  have tk : Takes (cxOf (L2.CX P w) P w K mg base N_need_sheet "need_sheet" (defScope s_need_sheet) f cdv A outer s H E) (fun cls d _ H => E cls d H) := takes_of rfl rfl rfl rfl
  have hp : PassesOwn (model P w) (A.deeper (envOfC "need_sheet" (defScope s_need_sheet) s.heap.objs.size f cdv)) (envOfC "need_sheet" (defScope s_need_sheet) s.heap.objs.size f cdv) (cxOf (L2.CX P w) P w K mg base N_need_sheet "need_sheet" (defScope s_need_sheet) f cdv A outer s H E).xe := passes_of rfl
  exact (dss_cons (ds_expr (de_callXC c_need_index (hr.mono (by decide)) hx hB (da_cons (de_var 1) (da_cons (de_len T.len_ (de_var 0)) (da_cons de_str da_nil)))))
  (dss_one (ds_expr (de_callXC c_need_index (hr.mono (by decide)) hx hB (da_cons (de_var 2) (da_cons (de_ix (de_ix (de_var 0) (de_var 1) (fun _ _ => rfl)) de_int (fun _ _ => rfl)) (da_cons de_str da_nil)))))))
theorem ok_need_sheet {Cl : Addr} (T : TxtX P w K mg base Cl) (c_need_index : Cal P w K mg base (L2.CX P w) 3 "need_index" ["thing", "many", "name"] (pureSpX Cl C_need_index)) {f : Addr} {fd : FuncData} (F : FunD K "need_sheet" "need_sheet" (defArgs s_need_sheet) (defBody s_need_sheet) (defScope s_need_sheet) [] [] f fd) (hm : mg "need_sheet" = some (.ref f))
    (hl : ∀ ds Q xc, C_need_sheet ds Q xc → ds.length = 3) (hC : ∀ ds Q xc, C_need_sheet ds Q xc → t_need_sheet xc (retE Q) (startD N_need_sheet ds)) : Cal P w K mg base (L2.CX P w) 4 "need_sheet" ["stock", "sort", "sheet"] (pureSpX Cl C_need_sheet) :=
  ⟨f, fd, fn_pureX F sc_need_sheet hl (by decide) (fun cdv A outer s H E hr B xc hB hx hW => b_need_sheet T c_need_index hr B xc hB hx hW) hC, hm, F.kp, F.bindsN fun _ _ _ _ _ _ us hl => match us, hl with | [_, _, _], _ => rfl⟩
end
end K28
end
section
set_option Elab.async false
set_option linter.all false
set_option maxRecDepth 100000
set_option maxHeartbeats 4000000
namespace K28
open PySem PySem.Spec PyProof.Rows L2 DL
section
variable {P : Program} {w : World} {K : PySem.W.Frag} {mg : Str → Option Value} {base : Heap}
/-! ### _lowest: 0 lists, 1 pieces, 2 across, 3 high, 4 low, 5 piece, 6 start, 7 end -/
abbrev N_lowest : List Str := ["lists", "pieces", "across", "high", "low", "piece", "start", "end"]
theorem sc_lowest : FnScope N_lowest ["lists", "pieces", "across", "high"] (defScope s_lowest) := ⟨rfl, rfl, rfl, by decide +kernel, rfl, by decide +kernel, by decide +kernel⟩
def t_lowest : DTS :=
  (dSeq (dAsg (dTup (dCons (dC (.int 0)) (dCons (dC (.int 1)) dNil))) (dgName 4))
  (dSeq (dFor (dSrcL (dVar 1)) (dgName 5)
   (dIf (dTst (dCall C_have_common (dCons (dVar 2) (dCons (dCall C_ends_of (dCons (dVar 0) (dCons (dVar 5) (dCons (dC (.int 0)) dNil)))) dNil))))
   (dSeq (dAsg (dCall C_ends_of (dCons (dVar 0) (dCons (dVar 5) (dCons (dC (.int 1)) dNil)))) (dgTup 2 (dgCons (dgName 6) (dgCons (dgName 7) dgNil))))
  (dSeq (dIf (dNot (dTst (dCall C_is_below (dCons (dVar 6) (dCons (dTup (dCons (dBin fAdd (dBin fIx (dVar 4) (dC (.int 0))) (dBin fMul (dVar 3) (dBin fIx (dVar 4) (dC (.int 1))))) (dCons (dBin fIx (dVar 4) (dC (.int 1))) dNil))) dNil)))))
   (dRet (dVar 4))
   dNext)
  (dAsg (dCall C_greater_of (dCons (dVar 4) (dCons (dVar 7) dNil))) (dgName 4))))
   dNext))
  (dRet (dVar 4))))
theorem b_lowest (T : Txt K mg) (c_have_common : Cal P w K mg base CX0 2 "have_common" ["one", "other"] (pureSp C_have_common)) (c_ends_of : Cal P w K mg base CX0 1 "ends_of" ["lists", "piece", "side"] (pureSp C_ends_of)) (c_is_below : Cal P w K mg base CX0 1 "is_below" ["one", "other"] (pureSp C_is_below)) (c_greater_of : Cal P w K mg base CX0 2 "greater_of" ["one", "other"] (pureSp C_greater_of)) {f : Addr} {cdv : Value} {A : Around} {outer : List Env} {s : Shared} {H : Hp} {E : XK} (hr : Room 2 (A.deeper (envOfC "_lowest" (defScope s_lowest) s.heap.objs.size f cdv))) (B : Ent) :
    PSs (cxOf CX0 P w K mg base N_lowest "_lowest" (defScope s_lowest) f cdv A outer s H E).nox (defBody s_lowest) (liftS B t_lowest) := by
  exact (dss_cons (ds_set (i := 4) sc_lowest.nd (de_tup (da_cons de_int (da_cons de_int da_nil))))
  (dss_cons (ds_for PassesOwn.never rfl (di_list (de_var 1)) (dg_name (i := 5) sc_lowest.nd)
   (dss_one (ds_if (dt_val (de_callC c_have_common (hr.mono (by decide)) (da_cons (de_var 2) (da_cons (de_callC c_ends_of (hr.mono (by decide)) (da_cons (de_var 0) (da_cons (de_var 5) (da_cons de_int da_nil)))) da_nil))))
   (dss_cons (ds_asg (de_callC c_ends_of (hr.mono (by decide)) (da_cons (de_var 0) (da_cons (de_var 5) (da_cons de_int da_nil)))) (dg_tup rfl (dgs_cons (dg_name (i := 6) sc_lowest.nd) (dgs_cons (dg_name (i := 7) sc_lowest.nd) dgs_nil))))
  (dss_cons (ds_if (dt_not (dt_val (de_callC c_is_below (hr.mono (by decide)) (da_cons (de_var 6) (da_cons (de_tup (da_cons (de_bin op_add sn_add (de_ix (de_var 4) de_int (fun _ _ => rfl)) (de_bin op_mul sn_mul (de_var 3) (de_ix (de_var 4) de_int (fun _ _ => rfl)))) (da_cons (de_ix (de_var 4) de_int (fun _ _ => rfl)) da_nil))) da_nil)))))
   (dss_one (ds_ret (de_var 4)))
   dss_nil)
  (dss_one (ds_set (i := 4) sc_lowest.nd (de_callC c_greater_of (hr.mono (by decide)) (da_cons (de_var 4) (da_cons (de_var 7) da_nil)))))))
   dss_nil)))
  (dss_one (ds_ret (de_var 4)))))
theorem ok_lowest (T : Txt K mg) (c_have_common : Cal P w K mg base CX0 2 "have_common" ["one", "other"] (pureSp C_have_common)) (c_ends_of : Cal P w K mg base CX0 1 "ends_of" ["lists", "piece", "side"] (pureSp C_ends_of)) (c_is_below : Cal P w K mg base CX0 1 "is_below" ["one", "other"] (pureSp C_is_below)) (c_greater_of : Cal P w K mg base CX0 2 "greater_of" ["one", "other"] (pureSp C_greater_of)) {f : Addr} {fd : FuncData} (F : FunD K "_lowest" "_lowest" (defArgs s_lowest) (defBody s_lowest) (defScope s_lowest) [] [] f fd) (hm : mg "_lowest" = some (.ref f))
    (hl : ∀ ds Q, C_lowest ds Q → ds.length = 4) (hC : ∀ ds Q, C_lowest ds Q → t_lowest (retE Q) (startD N_lowest ds)) : Cal P w K mg base CX0 3 "_lowest" ["lists", "pieces", "across", "high"] (pureSp C_lowest) :=
  ⟨f, fd, fn_pure F sc_lowest hl (by decide) (fun cdv A outer s H E hr B => b_lowest T c_have_common c_ends_of c_is_below c_greater_of hr B) hC, hm, F.kp, F.bindsN fun _ _ _ _ _ _ us hl => match us, hl with | [_, _, _, _], _ => rfl⟩
/-! ### _place_in: 0 lists, 1 pieces, 2 sides, 3 a, 4 b, 5 wide, 6 high, 7 upward, 8 x, 9 right, 10 y, 11 k, 12 piece -/
abbrev N_place_in : List Str := ["lists", "pieces", "sides", "a", "b", "wide", "high", "upward", "x", "right", "y", "k", "piece"]
theorem sc_place_in : FnScope N_place_in ["lists", "pieces", "sides", "a", "b"] (defScope s_place_in) := ⟨rfl, rfl, rfl, by decide +kernel, rfl, by decide +kernel, by decide +kernel⟩
def t_place_in : DTS :=
  (dSeq (dPar 5 6 (dCons (dBin fIx (dBin fIx (dVar 0) (dC (.int 0))) (dVar 3)) (dCons (dBin fIx (dBin fIx (dVar 0) (dC (.int 1))) (dVar 4)) dNil)))
  (dSeq (dAsgL 7 (dLc (dSrcL (dCall C_by_value (dCons (dFrz (dLc (dSrcL (dVar 1)) (dgName 12) dYes (dBin fIx (dVar 12) (dC (.int 5))) [12])) dNil))) (dgName 11) dYes (dBin fIx (dVar 1) (dVar 11)) [11]))
  (dSeq (dFor (dSrcL (dFrz (dCatL (dFrz (dLst (dCons (dTup (dCons (dC (.int 0)) (dCons (dC (.int 1)) dNil))) dNil))) (dFrz (dLc (dSrcL (dVar 1)) (dgName 12) dYes (dBin fIx (dCall C_ends_of (dCons (dVar 0) (dCons (dVar 12) (dCons (dC (.int 0)) dNil)))) (dC (.int 1))) [12]))))) (dgName 8)
   (dSeq (dAsg (dTup (dCons (dBin fAdd (dBin fIx (dVar 8) (dC (.int 0))) (dBin fMul (dVar 5) (dBin fIx (dVar 8) (dC (.int 1))))) (dCons (dBin fIx (dVar 8) (dC (.int 1))) dNil))) (dgName 9))
  (dIf (dNot (dTst (dCall C_is_below (dCons (dTup (dCons (dBin fIx (dVar 2) (dC (.int 0))) (dCons (dC (.int 1)) dNil))) (dCons (dVar 9) dNil)))))
   (dSeq (dAsg (dCall C_lowest (dCons (dVar 0) (dCons (dVar 7) (dCons (dTup (dCons (dVar 8) (dCons (dVar 9) dNil))) (dCons (dVar 6) dNil))))) (dgName 10))
  (dIf (dNot (dTst (dCall C_is_below (dCons (dTup (dCons (dBin fSub (dBin fIx (dVar 2) (dC (.int 1))) (dVar 6)) (dCons (dC (.int 1)) dNil))) (dCons (dVar 10) dNil)))))
   (dRet (dTup (dCons (dVar 8) (dCons (dVar 10) dNil))))
   dNext))
   dNext)))
  (dRet (dC .non)))))
theorem b_place_in (T : Txt K mg) (c_by_value : Cal P w K mg base CX0 1 "by_value" ["quotients"] (pureSp C_by_value)) (c_ends_of : Cal P w K mg base CX0 1 "ends_of" ["lists", "piece", "side"] (pureSp C_ends_of)) (c_is_below : Cal P w K mg base CX0 1 "is_below" ["one", "other"] (pureSp C_is_below)) (c_lowest : Cal P w K mg base CX0 3 "_lowest" ["lists", "pieces", "across", "high"] (pureSp C_lowest)) {f : Addr} {cdv : Value} {A : Around} {outer : List Env} {s : Shared} {H : Hp} {E : XK} (hr : Room 3 (A.deeper (envOfC "_place_in" (defScope s_place_in) s.heap.objs.size f cdv))) (B : Ent) :
    PSs (cxOf CX0 P w K mg base N_place_in "_place_in" (defScope s_place_in) f cdv A outer s H E).nox (defBody s_place_in) (liftS B t_place_in) := by
  exact (dss_cons (ds_par (i := 5) (j := 6) rfl sc_place_in.nd (by decide) (da_cons (de_ix (de_ix (de_var 0) de_int (fun _ _ => rfl)) (de_var 3) (fun _ _ => rfl)) (da_cons (de_ix (de_ix (de_var 0) de_int (fun _ _ => rfl)) (de_var 4) (fun _ _ => rfl)) da_nil)))
  (dss_cons (ds_setLc (i := 7) [("k", 11)] rfl sc_place_in.nd (di_list (de_callC c_by_value (hr.mono (by decide)) (da_cons (de_frz (dl_lc [("piece", 12)] rfl sc_place_in.nd (di_list (de_var 1)) (blkOk_by (N := N_place_in) (sc := defScope s_place_in) (by decide +kernel)) (blk_name (by decide)) (fun _ _ _ _ _ => pg_name (i := 12) sc_place_in.nd rfl (Or.inl rfl)) (fun _ _ _ _ _ => pts_nilD) (fun B _ _ _ _ _ => (de_ix (de_var 12) de_int (fun _ _ => rfl))))) da_nil))) (blkOk_by (N := N_place_in) (sc := defScope s_place_in) (by decide +kernel)) (blk_name (by decide)) (fun _ _ _ _ _ => pg_name (i := 11) sc_place_in.nd rfl (Or.inl rfl)) (fun _ _ _ _ _ => pts_nilD) (fun B _ _ _ _ _ => (de_ix (de_var 1) (de_var 11) (fun _ _ => rfl))) (sw_true rfl rfl rfl (by decide +kernel)))
  (dss_cons (ds_for PassesOwn.never rfl (di_list (de_frz (dl_cat (de_frz (dl_lst (da_cons (de_tup (da_cons de_int (da_cons de_int da_nil))) da_nil))) (de_frz (dl_lc [("piece", 12)] rfl sc_place_in.nd (di_list (de_var 1)) (blkOk_by (N := N_place_in) (sc := defScope s_place_in) (by decide +kernel)) (blk_name (by decide)) (fun _ _ _ _ _ => pg_name (i := 12) sc_place_in.nd rfl (Or.inl rfl)) (fun _ _ _ _ _ => pts_nilD) (fun B _ _ _ _ _ => (de_ix (de_callC c_ends_of (hr.mono (by decide)) (da_cons (de_var 0) (da_cons (de_var 12) (da_cons de_int da_nil)))) de_int (fun _ _ => rfl)))))))) (dg_name (i := 8) sc_place_in.nd)
   (dss_cons (ds_set (i := 9) sc_place_in.nd (de_tup (da_cons (de_bin op_add sn_add (de_ix (de_var 8) de_int (fun _ _ => rfl)) (de_bin op_mul sn_mul (de_var 5) (de_ix (de_var 8) de_int (fun _ _ => rfl)))) (da_cons (de_ix (de_var 8) de_int (fun _ _ => rfl)) da_nil))))
  (dss_one (ds_if (dt_not (dt_val (de_callC c_is_below (hr.mono (by decide)) (da_cons (de_tup (da_cons (de_ix (de_var 2) de_int (fun _ _ => rfl)) (da_cons de_int da_nil))) (da_cons (de_var 9) da_nil)))))
   (dss_cons (ds_set (i := 10) sc_place_in.nd (de_callC c_lowest (hr.mono (by decide)) (da_cons (de_var 0) (da_cons (de_var 7) (da_cons (de_tup (da_cons (de_var 8) (da_cons (de_var 9) da_nil))) (da_cons (de_var 6) da_nil))))))
  (dss_one (ds_if (dt_not (dt_val (de_callC c_is_below (hr.mono (by decide)) (da_cons (de_tup (da_cons (de_bin op_sub sn_sub (de_ix (de_var 2) de_int (fun _ _ => rfl)) (de_var 6)) (da_cons de_int da_nil))) (da_cons (de_var 10) da_nil)))))
   (dss_one (ds_ret (de_tup (da_cons (de_var 8) (da_cons (de_var 10) da_nil)))))
   dss_nil)))
   dss_nil))))
  (dss_one (ds_ret de_non)))))
theorem ok_place_in (T : Txt K mg) (c_by_value : Cal P w K mg base CX0 1 "by_value" ["quotients"] (pureSp C_by_value)) (c_ends_of : Cal P w K mg base CX0 1 "ends_of" ["lists", "piece", "side"] (pureSp C_ends_of)) (c_is_below : Cal P w K mg base CX0 1 "is_below" ["one", "other"] (pureSp C_is_below)) (c_lowest : Cal P w K mg base CX0 3 "_lowest" ["lists", "pieces", "across", "high"] (pureSp C_lowest)) {f : Addr} {fd : FuncData} (F : FunD K "_place_in" "_place_in" (defArgs s_place_in) (defBody s_place_in) (defScope s_place_in) [] [] f fd) (hm : mg "_place_in" = some (.ref f))
    (hl : ∀ ds Q, C_place_in ds Q → ds.length = 5) (hC : ∀ ds Q, C_place_in ds Q → t_place_in (retE Q) (startD N_place_in ds)) : Cal P w K mg base CX0 4 "_place_in" ["lists", "pieces", "sides", "a", "b"] (pureSp C_place_in) :=
  ⟨f, fd, fn_pure F sc_place_in hl (by decide) (fun cdv A outer s H E hr B => b_place_in T c_by_value c_ends_of c_is_below c_lowest hr B) hC, hm, F.kp, F.bindsN fun _ _ _ _ _ _ us hl => match us, hl with | [_, _, _, _, _], _ => rfl⟩
/-! ### _unused: 0 used, 1 number, 2 sheet -/
abbrev N_unused : List Str := ["used", "number", "sheet"]
theorem sc_unused : FnScope N_unused ["used"] (defScope s_unused) := ⟨rfl, rfl, rfl, by decide +kernel, rfl, by decide +kernel, by decide +kernel⟩
def t_unused : DTS :=
  (dSeq (dAsg (dC (.int 0)) (dgName 1))
  (dSeq (dFor (dSrcL (dVar 0)) (dgName 2)
   (dIf (dTst (dBin fEq (dVar 2) (dVar 1)))
   (dAug 1 (dC (.int 1)))
   dNext))
  (dRet (dVar 1))))
theorem b_unused (T : Txt K mg)  {f : Addr} {cdv : Value} {A : Around} {outer : List Env} {s : Shared} {H : Hp} {E : XK} (hr : Room 0 (A.deeper (envOfC "_unused" (defScope s_unused) s.heap.objs.size f cdv))) (B : Ent) :
    PSs (cxOf CX0 P w K mg base N_unused "_unused" (defScope s_unused) f cdv A outer s H E).nox (defBody s_unused) (liftS B t_unused) := by
  exact (dss_cons (ds_set (i := 1) sc_unused.nd de_int)
  (dss_cons (ds_for PassesOwn.never rfl (di_list (de_var 0)) (dg_name (i := 2) sc_unused.nd)
   (dss_one (ds_if (dt_cmp op_eq sn_eq (de_var 2) (de_var 1))
   (dss_one (ds_aug (i := 1) sc_unused.nd de_int))
   dss_nil)))
  (dss_one (ds_ret (de_var 1)))))
theorem ok_unused (T : Txt K mg)  {f : Addr} {fd : FuncData} (F : FunD K "_unused" "_unused" (defArgs s_unused) (defBody s_unused) (defScope s_unused) [] [] f fd) (hm : mg "_unused" = some (.ref f))
    (hl : ∀ ds Q, C_unused ds Q → ds.length = 1) (hC : ∀ ds Q, C_unused ds Q → t_unused (retE Q) (startD N_unused ds)) : Cal P w K mg base CX0 1 "_unused" ["used"] (pureSp C_unused) :=
  ⟨f, fd, fn_pure F sc_unused hl (by decide) (fun cdv A outer s H E hr B => b_unused T  hr B) hC, hm, F.kp, F.bindsN fun _ _ _ _ _ _ us hl => match us, hl with | [_], _ => rfl⟩
/-! ### _spot_in_sort: 0 lists, 1 spread, 2 sort, 3 entry, 4 a, 5 b, 6 used, 7 sheet, 8 pieces, 9 found, 10 i, 11 piece -/
abbrev N_spot_in_sort : List Str := ["lists", "spread", "sort", "entry", "a", "b", "used", "sheet", "pieces", "found", "i", "piece"]
theorem sc_spot_in_sort : FnScope N_spot_in_sort ["lists", "spread", "sort", "entry", "a", "b"] (defScope s_spot_in_sort) := ⟨rfl, rfl, rfl, by decide +kernel, rfl, by decide +kernel, by decide +kernel⟩
def t_spot_in_sort : DTS :=
  (dSeq (dIf (dOr (dTst (dBin fGt (dBin fIx (dBin fIx (dVar 0) (dC (.int 0))) (dVar 4)) (dBin fIx (dVar 3) (dC (.int 0))))) (dTst (dBin fGt (dBin fIx (dBin fIx (dVar 0) (dC (.int 1))) (dVar 5)) (dBin fIx (dVar 3) (dC (.int 1))))))
   (dRet (dC .non))
   dNext)
  (dSeq (dAsgL 6 (dUL fSortSet (dFrz (dLc (dSrcT (dVar 1)) (dgName 11) (dTst (dBin fEq (dBin fIx (dVar 11) (dC (.int 2))) (dVar 2))) (dBin fIx (dVar 11) (dC (.int 3))) [11]))))
  (dSeq (dIf (dTst (dBin fLt (dUn fLen (dVar 6)) (dBin fIx (dVar 3) (dC (.int 2)))))
   (dRet (dTup (dCons (dCall C_unused (dCons (dVar 6) dNil)) (dCons (dTup (dCons (dC (.int 0)) (dCons (dC (.int 1)) dNil))) (dCons (dTup (dCons (dC (.int 0)) (dCons (dC (.int 1)) dNil))) dNil)))))
   dNext)
  (dSeq (dFor (dSrcL (dVar 6)) (dgName 7)
   (dSeq (dAsgL 8 (dLc (dSrcL (dCall C_in_sheet (dCons (dVar 1) (dCons (dVar 2) (dCons (dVar 7) dNil))))) (dgName 10) dYes (dBin fIx (dVar 1) (dVar 10)) [10]))
  (dSeq (dAsg (dCall C_place_in (dCons (dVar 0) (dCons (dVar 8) (dCons (dSlT (dVar 3) dNoPart (dPart (dC (.int 2)))) (dCons (dVar 4) (dCons (dVar 5) dNil)))))) (dgName 9))
  (dIf (dTst (dUn (fD fNotN) (dVar 9)))
   (dRet (dTup (dCons (dVar 7) (dCons (dBin fIx (dVar 9) (dC (.int 0))) (dCons (dBin fIx (dVar 9) (dC (.int 1))) dNil)))))
   dNext))))
  (dRet (dC .non))))))
theorem b_spot_in_sort (T : Txt K mg) (c_unused : Cal P w K mg base CX0 1 "_unused" ["used"] (pureSp C_unused)) (c_in_sheet : Cal P w K mg base CX0 1 "in_sheet" ["spread", "sort", "sheet"] (pureSp C_in_sheet)) (c_place_in : Cal P w K mg base CX0 4 "_place_in" ["lists", "pieces", "sides", "a", "b"] (pureSp C_place_in)) {f : Addr} {cdv : Value} {A : Around} {outer : List Env} {s : Shared} {H : Hp} {E : XK} (hr : Room 4 (A.deeper (envOfC "_spot_in_sort" (defScope s_spot_in_sort) s.heap.objs.size f cdv))) (B : Ent) :
    PSs (cxOf CX0 P w K mg base N_spot_in_sort "_spot_in_sort" (defScope s_spot_in_sort) f cdv A outer s H E).nox (defBody s_spot_in_sort) (liftS B t_spot_in_sort) := by
  exact (dss_cons (ds_if (L2.PW.pt (dw_or (dt_cmp op_gt sn_gt (de_ix (de_ix (de_var 0) de_int (fun _ _ => rfl)) (de_var 4) (fun _ _ => rfl)) (de_ix (de_var 3) de_int (fun _ _ => rfl))) (dw_or1 (dt_cmp op_gt sn_gt (de_ix (de_ix (de_var 0) de_int (fun _ _ => rfl)) (de_var 5) (fun _ _ => rfl)) (de_ix (de_var 3) de_int (fun _ _ => rfl))))))
   (dss_one (ds_ret de_non))
   dss_nil)
  (dss_cons (ds_setL (i := 6) sc_spot_in_sort.nd (dl_sortSet rfl T.sorted_ T.set_ (de_frz (dl_lc [("piece", 11)] rfl sc_spot_in_sort.nd (di_tup (de_var 1)) (blkOk_by (N := N_spot_in_sort) (sc := defScope s_spot_in_sort) (by decide +kernel)) (blk_name (by decide)) (fun _ _ _ _ _ => pg_name (i := 11) sc_spot_in_sort.nd rfl (Or.inl rfl)) (fun _ _ _ _ _ => pts_oneD fun B => (dt_cmp op_eq sn_eq (de_ix (de_var 11) de_int (fun _ _ => rfl)) (de_var 2))) (fun B _ _ _ _ _ => (de_ix (de_var 11) de_int (fun _ _ => rfl)))))))
  (dss_cons (ds_if (dt_cmp op_lt sn_lt (de_len T.len_ (de_var 6)) (de_ix (de_var 3) de_int (fun _ _ => rfl)))
   (dss_one (ds_ret (de_tup (da_cons (de_callC c_unused (hr.mono (by decide)) (da_cons (de_var 6) da_nil)) (da_cons (de_tup (da_cons de_int (da_cons de_int da_nil))) (da_cons (de_tup (da_cons de_int (da_cons de_int da_nil))) da_nil))))))
   dss_nil)
  (dss_cons (ds_for PassesOwn.never rfl (di_list (de_var 6)) (dg_name (i := 7) sc_spot_in_sort.nd)
   (dss_cons (ds_setLc (i := 8) [("i", 10)] rfl sc_spot_in_sort.nd (di_list (de_callC c_in_sheet (hr.mono (by decide)) (da_cons (de_var 1) (da_cons (de_var 2) (da_cons (de_var 7) da_nil))))) (blkOk_by (N := N_spot_in_sort) (sc := defScope s_spot_in_sort) (by decide +kernel)) (blk_name (by decide)) (fun _ _ _ _ _ => pg_name (i := 10) sc_spot_in_sort.nd rfl (Or.inl rfl)) (fun _ _ _ _ _ => pts_nilD) (fun B _ _ _ _ _ => (de_ix (de_var 1) (de_var 10) (fun _ _ => rfl))) (sw_true rfl rfl rfl (by decide +kernel)))
  (dss_cons (ds_set (i := 9) sc_spot_in_sort.nd (de_callC c_place_in (hr.mono (by decide)) (da_cons (de_var 0) (da_cons (de_var 8) (da_cons (de_slT (de_var 3) do_none (do_some de_int)) (da_cons (de_var 4) (da_cons (de_var 5) da_nil)))))))
  (dss_one (ds_if (dt_notN (de_var 9))
   (dss_one (ds_ret (de_tup (da_cons (de_var 7) (da_cons (de_ix (de_var 9) de_int (fun _ _ => rfl)) (da_cons (de_ix (de_var 9) de_int (fun _ _ => rfl)) da_nil))))))
   dss_nil)))))
  (dss_one (ds_ret de_non))))))
theorem ok_spot_in_sort (T : Txt K mg) (c_unused : Cal P w K mg base CX0 1 "_unused" ["used"] (pureSp C_unused)) (c_in_sheet : Cal P w K mg base CX0 1 "in_sheet" ["spread", "sort", "sheet"] (pureSp C_in_sheet)) (c_place_in : Cal P w K mg base CX0 4 "_place_in" ["lists", "pieces", "sides", "a", "b"] (pureSp C_place_in)) {f : Addr} {fd : FuncData} (F : FunD K "_spot_in_sort" "_spot_in_sort" (defArgs s_spot_in_sort) (defBody s_spot_in_sort) (defScope s_spot_in_sort) [] [] f fd) (hm : mg "_spot_in_sort" = some (.ref f))
    (hl : ∀ ds Q, C_spot_in_sort ds Q → ds.length = 6) (hC : ∀ ds Q, C_spot_in_sort ds Q → t_spot_in_sort (retE Q) (startD N_spot_in_sort ds)) : Cal P w K mg base CX0 5 "_spot_in_sort" ["lists", "spread", "sort", "entry", "a", "b"] (pureSp C_spot_in_sort) :=
  ⟨f, fd, fn_pure F sc_spot_in_sort hl (by decide) (fun cdv A outer s H E hr B => b_spot_in_sort T c_unused c_in_sheet c_place_in hr B) hC, hm, F.kp, F.bindsN fun _ _ _ _ _ _ us hl => match us, hl with | [_, _, _, _, _, _], _ => rfl⟩
/-! ### free_place: 0 lists, 1 stock, 2 spread, 3 a, 4 b, 5 sort, 6 entry, 7 spot -/
abbrev N_free_place : List Str := ["lists", "stock", "spread", "a", "b", "sort", "entry", "spot"]
theorem sc_free_place : FnScope N_free_place ["lists", "stock", "spread", "a", "b"] (defScope s_free_place) := ⟨rfl, rfl, rfl, by decide +kernel, rfl, by decide +kernel, by decide +kernel⟩
def t_free_place (xc : V → V → Prop) : DTS :=
  (dSeq (dDrop (dCallX C_need_spread xc (dCons (dVar 0) (dCons (dVar 1) (dCons (dVar 2) dNil)))))
  (dSeq (dDrop (dCallX C_need_index xc (dCons (dVar 3) (dCons (dUn fLen (dBin fIx (dVar 0) (dC (.int 0)))) (dCons (dC (.str "a")) dNil)))))
  (dSeq (dDrop (dCallX C_need_index xc (dCons (dVar 4) (dCons (dUn fLen (dBin fIx (dVar 0) (dC (.int 1)))) (dCons (dC (.str "b")) dNil)))))
  (dSeq (dFor (dEnumT (dVar 1)) (dgTup 2 (dgCons (dgName 5) (dgCons (dgName 6) dgNil)))
   (dSeq (dAsg (dCall C_spot_in_sort (dCons (dVar 0) (dCons (dVar 2) (dCons (dVar 5) (dCons (dVar 6) (dCons (dVar 3) (dCons (dVar 4) dNil))))))) (dgName 7))
  (dIf (dTst (dUn (fD fNotN) (dVar 7)))
   (dRet (dTup (dCons (dVar 5) (dCons (dBin fIx (dVar 7) (dC (.int 0))) (dCons (dBin fIx (dVar 7) (dC (.int 1))) (dCons (dBin fIx (dVar 7) (dC (.int 2))) dNil))))))
   dNext)))
  (dRet (dC .non))))))
theorem b_free_place {Cl : Addr} (T : TxtX P w K mg base Cl) (c_need_spread : Cal P w K mg base (L2.CX P w) 6 "need_spread" ["lists", "stock", "spread"] (pureSpX Cl C_need_spread)) (c_need_index : Cal P w K mg base (L2.CX P w) 3 "need_index" ["thing", "many", "name"] (pureSpX Cl C_need_index)) (c_spot_in_sort : Cal P w K mg base CX0 5 "_spot_in_sort" ["lists", "spread", "sort", "entry", "a", "b"] (pureSp C_spot_in_sort)) {f : Addr} {cdv : Value} {A : Around} {outer : List Env} {s : Shared} {H : Hp} {E : XK} (hr : Room 6 (A.deeper (envOfC "free_place" (defScope s_free_place) s.heap.objs.size f cdv))) (B : Ent) (xc : V → V → Prop) (hB : B.f = none)
    (hx : Passes (L2.CX P w) (cxOf (L2.CX P w) P w K mg base N_free_place "free_place" (defScope s_free_place) f cdv A outer s H E) (EofC Cl B.H0 xc)) (hW : ∀ cls d (σ : L2.St) H', EofC Cl B.H0 xc cls d H' → E cls d H') : PSs (cxOf (L2.CX P w) P w K mg base N_free_place "free_place" (defScope s_free_place) f cdv A outer s H E) (defBody s_free_place) (liftS B (t_free_place xc)) := by
  have tk : Takes (cxOf (L2.CX P w) P w K mg base N_free_place "free_place" (defScope s_free_place) f cdv A outer s H E) (fun cls d _ H => E cls d H) := takes_of rfl rfl rfl rfl
  have hp : PassesOwn (model P w) (A.deeper (envOfC "free_place" (defScope s_free_place) s.heap.objs.size f cdv)) (envOfC "free_place" (defScope s_free_place) s.heap.objs.size f cdv) (cxOf (L2.CX P w) P w K mg base N_free_place "free_place" (defScope s_free_place) f cdv A outer s H E).xe := passes_of rfl
  exact (dss_cons (ds_expr (de_callXC c_need_spread (hr.mono (by decide)) hx hB (da_cons (de_var 0) (da_cons (de_var 1) (da_cons (de_var 2) da_nil)))))
  (dss_cons (ds_expr (de_callXC c_need_index (hr.mono (by decide)) hx hB (da_cons (de_var 3) (da_cons (de_len T.len_ (de_ix (de_var 0) de_int (fun _ _ => rfl))) (da_cons de_str da_nil)))))
  (dss_cons (ds_expr (de_callXC c_need_index (hr.mono (by decide)) hx hB (da_cons (de_var 4) (da_cons (de_len T.len_ (de_ix (de_var 0) de_int (fun _ _ => rfl))) (da_cons de_str da_nil)))))
  (dss_cons (ds_for hp rfl (di_enumT T.enumerate_ (de_var 1)) (dg_tup rfl (dgs_cons (dg_name (i := 5) sc_free_place.nd) (dgs_cons (dg_name (i := 6) sc_free_place.nd) dgs_nil)))
   (dss_cons (ds_set (i := 7) sc_free_place.nd (de_callC c_spot_in_sort (hr.mono (by decide)) (da_cons (de_var 0) (da_cons (de_var 2) (da_cons (de_var 5) (da_cons (de_var 6) (da_cons (de_var 3) (da_cons (de_var 4) da_nil))))))))
  (dss_one (ds_if (dt_notN (de_var 7))
   (dss_one (ds_ret (de_tup (da_cons (de_var 5) (da_cons (de_ix (de_var 7) de_int (fun _ _ => rfl)) (da_cons (de_ix (de_var 7) de_int (fun _ _ => rfl)) (da_cons (de_ix (de_var 7) de_int (fun _ _ => rfl)) da_nil)))))))
   dss_nil))))
  (dss_one (ds_ret de_non))))))
theorem ok_free_place {Cl : Addr} (T : TxtX P w K mg base Cl) (c_need_spread : Cal P w K mg base (L2.CX P w) 6 "need_spread" ["lists", "stock", "spread"] (pureSpX Cl C_need_spread)) (c_need_index : Cal P w K mg base (L2.CX P w) 3 "need_index" ["thing", "many", "name"] (pureSpX Cl C_need_index)) (c_spot_in_sort : Cal P w K mg base CX0 5 "_spot_in_sort" ["lists", "spread", "sort", "entry", "a", "b"] (pureSp C_spot_in_sort)) {f : Addr} {fd : FuncData} (F : FunD K "free_place" "free_place" (defArgs s_free_place) (defBody s_free_place) (defScope s_free_place) [] [] f fd) (hm : mg "free_place" = some (.ref f))
    (hl : ∀ ds Q xc, C_free_place ds Q xc → ds.length = 5) (hC : ∀ ds Q xc, C_free_place ds Q xc → t_free_place xc (retE Q) (startD N_free_place ds)) : Cal P w K mg base (L2.CX P w) 7 "free_place" ["lists", "stock", "spread", "a", "b"] (pureSpX Cl C_free_place) :=
  ⟨f, fd, fn_pureX F sc_free_place hl (by decide) (fun cdv A outer s H E hr B xc hB hx hW => b_free_place T c_need_spread c_need_index c_spot_in_sort hr B xc hB hx hW) hC, hm, F.kp, F.bindsN fun _ _ _ _ _ _ us hl => match us, hl with | [_, _, _, _, _], _ => rfl⟩
end
end K28
end
section
set_option Elab.async false
set_option linter.all false
set_option maxRecDepth 100000
set_option maxHeartbeats 4000000
namespace K28
open PySem PySem.Spec PyProof.Rows L2 DL
section
variable {P : Program} {w : World} {K : PySem.W.Frag} {mg : Str → Option Value} {base : Heap}
/-! ### _clear: 0 lists, 1 stretches, 2 length, 3 clear, 4 start, 5 k, 6 stretch -/
abbrev N_clear : List Str := ["lists", "stretches", "length", "clear", "start", "k", "stretch"]
theorem sc_clear : FnScope N_clear ["lists", "stretches", "length"] (defScope s_clear) := ⟨rfl, rfl, rfl, by decide +kernel, rfl, by decide +kernel, by decide +kernel⟩
def t_clear : DTS :=
  (dSeq (dAsgL 3 (dLst dNil))
  (dSeq (dAsg (dTup (dCons (dC (.int 0)) (dCons (dC (.int 1)) dNil))) (dgName 4))
  (dSeq (dFor (dSrcL (dCall C_by_value (dCons (dFrz (dLc (dSrcL (dVar 1)) (dgName 6) dYes (dBin fIx (dVar 6) (dC (.int 0))) [6])) dNil))) (dgName 5)
   (dSeq (dIf (dTst (dCall C_is_below (dCons (dVar 4) (dCons (dBin fIx (dBin fIx (dVar 1) (dVar 5)) (dC (.int 0))) dNil))))
   (dApp 3 (dTup (dCons (dVar 4) (dCons (dBin fIx (dBin fIx (dVar 1) (dVar 5)) (dC (.int 0))) dNil))))
   dNext)
  (dAsg (dCall C_greater_of (dCons (dVar 4) (dCons (dBin fIx (dBin fIx (dVar 1) (dVar 5)) (dC (.int 1))) dNil))) (dgName 4))))
  (dSeq (dIf (dTst (dCall C_is_below (dCons (dVar 4) (dCons (dTup (dCons (dVar 2) (dCons (dC (.int 1)) dNil))) dNil))))
   (dApp 3 (dTup (dCons (dVar 4) (dCons (dTup (dCons (dVar 2) (dCons (dC (.int 1)) dNil))) dNil))))
   dNext)
  (dRet (dUn fTupOf (dVar 3)))))))
theorem b_clear (T : Txt K mg) (c_by_value : Cal P w K mg base CX0 1 "by_value" ["quotients"] (pureSp C_by_value)) (c_is_below : Cal P w K mg base CX0 1 "is_below" ["one", "other"] (pureSp C_is_below)) (c_greater_of : Cal P w K mg base CX0 2 "greater_of" ["one", "other"] (pureSp C_greater_of)) {f : Addr} {cdv : Value} {A : Around} {outer : List Env} {s : Shared} {H : Hp} {E : XK} (hr : Room 2 (A.deeper (envOfC "_clear" (defScope s_clear) s.heap.objs.size f cdv))) (B : Ent) :
    PSs (cxOf CX0 P w K mg base N_clear "_clear" (defScope s_clear) f cdv A outer s H E).nox (defBody s_clear) (liftS B t_clear) := by
  exact (dss_cons (ds_setL (i := 3) sc_clear.nd (dl_lst da_nil))
  (dss_cons (ds_set (i := 4) sc_clear.nd (de_tup (da_cons de_int (da_cons de_int da_nil))))
  (dss_cons (ds_for PassesOwn.never rfl (di_list (de_callC c_by_value (hr.mono (by decide)) (da_cons (de_frz (dl_lc [("stretch", 6)] rfl sc_clear.nd (di_list (de_var 1)) (blkOk_by (N := N_clear) (sc := defScope s_clear) (by decide +kernel)) (blk_name (by decide)) (fun _ _ _ _ _ => pg_name (i := 6) sc_clear.nd rfl (Or.inl rfl)) (fun _ _ _ _ _ => pts_nilD) (fun B _ _ _ _ _ => (de_ix (de_var 6) de_int (fun _ _ => rfl))))) da_nil))) (dg_name (i := 5) sc_clear.nd)
   (dss_cons (ds_if (dt_val (de_callC c_is_below (hr.mono (by decide)) (da_cons (de_var 4) (da_cons (de_ix (de_ix (de_var 1) (de_var 5) (fun _ _ => rfl)) de_int (fun _ _ => rfl)) da_nil))))
   (dss_one (ds_app (i := 3) (he := (de_tup (da_cons (de_var 4) (da_cons (de_ix (de_ix (de_var 1) (de_var 5) (fun _ _ => rfl)) de_int (fun _ _ => rfl)) da_nil))))))
   dss_nil)
  (dss_one (ds_set (i := 4) sc_clear.nd (de_callC c_greater_of (hr.mono (by decide)) (da_cons (de_var 4) (da_cons (de_ix (de_ix (de_var 1) (de_var 5) (fun _ _ => rfl)) de_int (fun _ _ => rfl)) da_nil)))))))
  (dss_cons (ds_if (dt_val (de_callC c_is_below (hr.mono (by decide)) (da_cons (de_var 4) (da_cons (de_tup (da_cons (de_var 2) (da_cons de_int da_nil))) da_nil))))
   (dss_one (ds_app (i := 3) (he := (de_tup (da_cons (de_var 4) (da_cons (de_tup (da_cons (de_var 2) (da_cons de_int da_nil))) da_nil))))))
   dss_nil)
  (dss_one (ds_ret (de_tupOf T.tuple_ (de_var 3))))))))
theorem ok_clear (T : Txt K mg) (c_by_value : Cal P w K mg base CX0 1 "by_value" ["quotients"] (pureSp C_by_value)) (c_is_below : Cal P w K mg base CX0 1 "is_below" ["one", "other"] (pureSp C_is_below)) (c_greater_of : Cal P w K mg base CX0 2 "greater_of" ["one", "other"] (pureSp C_greater_of)) {f : Addr} {fd : FuncData} (F : FunD K "_clear" "_clear" (defArgs s_clear) (defBody s_clear) (defScope s_clear) [] [] f fd) (hm : mg "_clear" = some (.ref f))
    (hl : ∀ ds Q, C_clear ds Q → ds.length = 3) (hC : ∀ ds Q, C_clear ds Q → t_clear (retE Q) (startD N_clear ds)) : Cal P w K mg base CX0 3 "_clear" ["lists", "stretches", "length"] (pureSp C_clear) :=
  ⟨f, fd, fn_pure F sc_clear hl (by decide) (fun cdv A outer s H E hr B => b_clear T c_by_value c_is_below c_greater_of hr B) hC, hm, F.kp, F.bindsN fun _ _ _ _ _ _ us hl => match us, hl with | [_, _, _], _ => rfl⟩
/-! ### _clear_side: 0 lists, 1 stock, 2 spread, 3 sort, 4 sheet, 5 side, 6 stretches, 7 i -/
abbrev N_clear_side : List Str := ["lists", "stock", "spread", "sort", "sheet", "side", "stretches", "i"]
theorem sc_clear_side : FnScope N_clear_side ["lists", "stock", "spread", "sort", "sheet", "side"] (defScope s_clear_side) := ⟨rfl, rfl, rfl, by decide +kernel, rfl, by decide +kernel, by decide +kernel⟩
def t_clear_side (xc : V → V → Prop) : DTS :=
  (dSeq (dDrop (dCallX C_need_spread xc (dCons (dVar 0) (dCons (dVar 1) (dCons (dVar 2) dNil)))))
  (dSeq (dDrop (dCallX C_need_sheet xc (dCons (dVar 1) (dCons (dVar 3) (dCons (dVar 4) dNil)))))
  (dSeq (dAsgL 6 (dLc (dSrcL (dCall C_in_sheet (dCons (dVar 2) (dCons (dVar 3) (dCons (dVar 4) dNil))))) (dgName 7) dYes (dCall C_ends_of (dCons (dVar 0) (dCons (dBin fIx (dVar 2) (dVar 7)) (dCons (dVar 5) dNil)))) [7]))
  (dRet (dCall C_clear (dCons (dVar 0) (dCons (dVar 6) (dCons (dBin fIx (dBin fIx (dVar 1) (dVar 3)) (dVar 5)) dNil))))))))
theorem b_clear_side {Cl : Addr} (T : TxtX P w K mg base Cl) (c_need_spread : Cal P w K mg base (L2.CX P w) 6 "need_spread" ["lists", "stock", "spread"] (pureSpX Cl C_need_spread)) (c_need_sheet : Cal P w K mg base (L2.CX P w) 4 "need_sheet" ["stock", "sort", "sheet"] (pureSpX Cl C_need_sheet)) (c_in_sheet : Cal P w K mg base CX0 1 "in_sheet" ["spread", "sort", "sheet"] (pureSp C_in_sheet)) (c_ends_of : Cal P w K mg base CX0 1 "ends_of" ["lists", "piece", "side"] (pureSp C_ends_of)) (c_clear : Cal P w K mg base CX0 3 "_clear" ["lists", "stretches", "length"] (pureSp C_clear)) {f : Addr} {cdv : Value} {A : Around} {outer : List Env} {s : Shared} {H : Hp} {E : XK} (hr : Room 6 (A.deeper (envOfC "_clear_side" (defScope s_clear_side) s.heap.objs.size f cdv))) (B : Ent) (xc : V → V → Prop) (hB : B.f = none)
    (hx : Passes (L2.CX P w) (cxOf (L2.CX P w) P w K mg base N_clear_side "_clear_side" (defScope s_clear_side) f cdv A outer s H E) (EofC Cl B.H0 xc)) (hW : ∀ cls d (σ : L2.St) H', EofC Cl B.H0 xc cls d H' → E cls d H') : PSs (cxOf (L2.CX P w) P w K mg base N_clear_side "_clear_side" (defScope s_clear_side) f cdv A outer s H E) (defBody s_clear_side) (liftS B (t_clear_side xc)) := by
  have tk : Takes (cxOf (L2.CX P w) P w K mg base N_clear_side "_clear_side" (defScope s_clear_side) f cdv A outer s H E) (fun cls d _ H => E cls d H) := takes_of rfl rfl rfl rfl
  have hp : PassesOwn (model P w) (A.deeper (envOfC "_clear_side" (defScope s_clear_side) s.heap.objs.size f cdv)) (envOfC "_clear_side" (defScope s_clear_side) s.heap.objs.size f cdv) (cxOf (L2.CX P w) P w K mg base N_clear_side "_clear_side" (defScope s_clear_side) f cdv A outer s H E).xe := passes_of rfl
  exact (dss_cons (ds_expr (de_callXC c_need_spread (hr.mono (by decide)) hx hB (da_cons (de_var 0) (da_cons (de_var 1) (da_cons (de_var 2) da_nil)))))
  (dss_cons (ds_expr (de_callXC c_need_sheet (hr.mono (by decide)) hx hB (da_cons (de_var 1) (da_cons (de_var 3) (da_cons (de_var 4) da_nil)))))
  (dss_cons (ds_setLc (i := 6) [("i", 7)] rfl sc_clear_side.nd (di_list (de_callC c_in_sheet (hr.mono (by decide)) (da_cons (de_var 2) (da_cons (de_var 3) (da_cons (de_var 4) da_nil))))) (blkOk_by (N := N_clear_side) (sc := defScope s_clear_side) (by decide +kernel)) (blk_name (by decide)) (fun _ _ _ _ _ => pg_name (i := 7) sc_clear_side.nd rfl (Or.inl rfl)) (fun _ _ _ _ _ => pts_nilD) (fun B _ _ _ _ _ => (de_callC c_ends_of (hr.mono (by decide)) (da_cons (de_var 0) (da_cons (de_ix (de_var 2) (de_var 7) (fun _ _ => rfl)) (da_cons (de_var 5) da_nil))))) (sw_true rfl rfl rfl (by decide +kernel)))
  (dss_one (ds_ret (de_callC c_clear (hr.mono (by decide)) (da_cons (de_var 0) (da_cons (de_var 6) (da_cons (de_ix (de_ix (de_var 1) (de_var 3) (fun _ _ => rfl)) (de_var 5) (fun _ _ => rfl)) da_nil)))))))))
theorem ok_clear_side {Cl : Addr} (T : TxtX P w K mg base Cl) (c_need_spread : Cal P w K mg base (L2.CX P w) 6 "need_spread" ["lists", "stock", "spread"] (pureSpX Cl C_need_spread)) (c_need_sheet : Cal P w K mg base (L2.CX P w) 4 "need_sheet" ["stock", "sort", "sheet"] (pureSpX Cl C_need_sheet)) (c_in_sheet : Cal P w K mg base CX0 1 "in_sheet" ["spread", "sort", "sheet"] (pureSp C_in_sheet)) (c_ends_of : Cal P w K mg base CX0 1 "ends_of" ["lists", "piece", "side"] (pureSp C_ends_of)) (c_clear : Cal P w K mg base CX0 3 "_clear" ["lists", "stretches", "length"] (pureSp C_clear)) {f : Addr} {fd : FuncData} (F : FunD K "_clear_side" "_clear_side" (defArgs s_clear_side) (defBody s_clear_side) (defScope s_clear_side) [] [] f fd) (hm : mg "_clear_side" = some (.ref f))
    (hl : ∀ ds Q xc, C_clear_side ds Q xc → ds.length = 6) (hC : ∀ ds Q xc, C_clear_side ds Q xc → t_clear_side xc (retE Q) (startD N_clear_side ds)) : Cal P w K mg base (L2.CX P w) 7 "_clear_side" ["lists", "stock", "spread", "sort", "sheet", "side"] (pureSpX Cl C_clear_side) :=
  ⟨f, fd, fn_pureX F sc_clear_side hl (by decide) (fun cdv A outer s H E hr B xc hB hx hW => b_clear_side T c_need_spread c_need_sheet c_in_sheet c_ends_of c_clear hr B xc hB hx hW) hC, hm, F.kp, F.bindsN fun _ _ _ _ _ _ us hl => match us, hl with | [_, _, _, _, _, _], _ => rfl⟩
/-! ### clear_across: 0 lists, 1 stock, 2 spread, 3 sort, 4 sheet -/
abbrev N_clear_across : List Str := ["lists", "stock", "spread", "sort", "sheet"]
theorem sc_clear_across : FnScope N_clear_across ["lists", "stock", "spread", "sort", "sheet"] (defScope s_clear_across) := ⟨rfl, rfl, rfl, by decide +kernel, rfl, by decide +kernel, by decide +kernel⟩
def t_clear_across (xc : V → V → Prop) : DTS :=
  (dRet (dCallX C_clear_side xc (dCons (dVar 0) (dCons (dVar 1) (dCons (dVar 2) (dCons (dVar 3) (dCons (dVar 4) (dCons (dC (.int 1)) dNil))))))))
theorem b_clear_across {Cl : Addr} (T : TxtX P w K mg base Cl) (c_clear_side : Cal P w K mg base (L2.CX P w) 7 "_clear_side" ["lists", "stock", "spread", "sort", "sheet", "side"] (pureSpX Cl C_clear_side)) {f : Addr} {cdv : Value} {A : Around} {outer : List Env} {s : Shared} {H : Hp} {E : XK} (hr : Room 7 (A.deeper (envOfC "clear_across" (defScope s_clear_across) s.heap.objs.size f cdv))) (B : Ent) (xc : V → V → Prop) (hB : B.f = none)
    (hx : Passes (L2.CX P w) (cxOf (L2.CX P w) P w K mg base N_clear_across "clear_across" (defScope s_clear_across) f cdv A outer s H E) (EofC Cl B.H0 xc)) (hW : ∀ cls d (σ : L2.St) H', EofC Cl B.H0 xc cls d H' → E cls d H') : PSs (cxOf (L2.CX P w) P w K mg base N_clear_across "clear_across" (defScope s_clear_across) f cdv A outer s H E) (defBody s_clear_across) (liftS B (t_clear_across xc)) := by
  have tk : Takes (cxOf (L2.CX P w) P w K mg base N_clear_across "clear_across" (defScope s_clear_across) f cdv A outer s H E) (fun cls d _ H => E cls d H) := takes_of rfl rfl rfl rfl
  have hp : PassesOwn (model P w) (A.deeper (envOfC "clear_across" (defScope s_clear_across) s.heap.objs.size f cdv)) (envOfC "clear_across" (defScope s_clear_across) s.heap.objs.size f cdv) (cxOf (L2.CX P w) P w K mg base N_clear_across "clear_across" (defScope s_clear_across) f cdv A outer s H E).xe := passes_of rfl
  exact (dss_one (ds_ret (de_callXC c_clear_side (hr.mono (by decide)) hx hB (da_cons (de_var 0) (da_cons (de_var 1) (da_cons (de_var 2) (da_cons (de_var 3) (da_cons (de_var 4) (da_cons de_int da_nil)))))))))
theorem ok_clear_across {Cl : Addr} (T : TxtX P w K mg base Cl) (c_clear_side : Cal P w K mg base (L2.CX P w) 7 "_clear_side" ["lists", "stock", "spread", "sort", "sheet", "side"] (pureSpX Cl C_clear_side)) {f : Addr} {fd : FuncData} (F : FunD K "clear_across" "clear_across" (defArgs s_clear_across) (defBody s_clear_across) (defScope s_clear_across) [] [] f fd) (hm : mg "clear_across" = some (.ref f))
    (hl : ∀ ds Q xc, C_clear_across ds Q xc → ds.length = 5) (hC : ∀ ds Q xc, C_clear_across ds Q xc → t_clear_across xc (retE Q) (startD N_clear_across ds)) : Cal P w K mg base (L2.CX P w) 8 "clear_across" ["lists", "stock", "spread", "sort", "sheet"] (pureSpX Cl C_clear_across) :=
  ⟨f, fd, fn_pureX F sc_clear_across hl (by decide) (fun cdv A outer s H E hr B xc hB hx hW => b_clear_across T c_clear_side hr B xc hB hx hW) hC, hm, F.kp, F.bindsN fun _ _ _ _ _ _ us hl => match us, hl with | [_, _, _, _, _], _ => rfl⟩
/-! ### clear_up: 0 lists, 1 stock, 2 spread, 3 sort, 4 sheet -/
abbrev N_clear_up : List Str := ["lists", "stock", "spread", "sort", "sheet"]
theorem sc_clear_up : FnScope N_clear_up ["lists", "stock", "spread", "sort", "sheet"] (defScope s_clear_up) := ⟨rfl, rfl, rfl, by decide +kernel, rfl, by decide +kernel, by decide +kernel⟩
def t_clear_up (xc : V → V → Prop) : DTS :=
  (dRet (dCallX C_clear_side xc (dCons (dVar 0) (dCons (dVar 1) (dCons (dVar 2) (dCons (dVar 3) (dCons (dVar 4) (dCons (dC (.int 0)) dNil))))))))
theorem b_clear_up {Cl : Addr} (T : TxtX P w K mg base Cl) (c_clear_side : Cal P w K mg base (L2.CX P w) 7 "_clear_side" ["lists", "stock", "spread", "sort", "sheet", "side"] (pureSpX Cl C_clear_side)) {f : Addr} {cdv : Value} {A : Around} {outer : List Env} {s : Shared} {H : Hp} {E : XK} (hr : Room 7 (A.deeper (envOfC "clear_up" (defScope s_clear_up) s.heap.objs.size f cdv))) (B : Ent) (xc : V → V → Prop) (hB : B.f = none)
    (hx : Passes (L2.CX P w) (cxOf (L2.CX P w) P w K mg base N_clear_up "clear_up" (defScope s_clear_up) f cdv A outer s H E) (EofC Cl B.H0 xc)) (hW : ∀ cls d (σ : L2.St) H', EofC Cl B.H0 xc cls d H' → E cls d H') : PSs (cxOf (L2.CX P w) P w K mg base N_clear_up "clear_up" (defScope s_clear_up) f cdv A outer s H E) (defBody s_clear_up) (liftS B (t_clear_up xc)) := by
  have tk : Takes (cxOf (L2.CX P w) P w K mg base N_clear_up "clear_up" (defScope s_clear_up) f cdv A outer s H E) (fun cls d _ H => E cls d H) := takes_of rfl rfl rfl rfl
  have hp : PassesOwn (model P w) (A.deeper (envOfC "clear_up" (defScope s_clear_up) s.heap.objs.size f cdv)) (envOfC "clear_up" (defScope s_clear_up) s.heap.objs.size f cdv) (cxOf (L2.CX P w) P w K mg base N_clear_up "clear_up" (defScope s_clear_up) f cdv A outer s H E).xe := passes_of rfl
  exact (dss_one (ds_ret (de_callXC c_clear_side (hr.mono (by decide)) hx hB (da_cons (de_var 0) (da_cons (de_var 1) (da_cons (de_var 2) (da_cons (de_var 3) (da_cons (de_var 4) (da_cons de_int da_nil)))))))))
theorem ok_clear_up {Cl : Addr} (T : TxtX P w K mg base Cl) (c_clear_side : Cal P w K mg base (L2.CX P w) 7 "_clear_side" ["lists", "stock", "spread", "sort", "sheet", "side"] (pureSpX Cl C_clear_side)) {f : Addr} {fd : FuncData} (F : FunD K "clear_up" "clear_up" (defArgs s_clear_up) (defBody s_clear_up) (defScope s_clear_up) [] [] f fd) (hm : mg "clear_up" = some (.ref f))
    (hl : ∀ ds Q xc, C_clear_up ds Q xc → ds.length = 5) (hC : ∀ ds Q xc, C_clear_up ds Q xc → t_clear_up xc (retE Q) (startD N_clear_up ds)) : Cal P w K mg base (L2.CX P w) 8 "clear_up" ["lists", "stock", "spread", "sort", "sheet"] (pureSpX Cl C_clear_up) :=
  ⟨f, fd, fn_pureX F sc_clear_up hl (by decide) (fun cdv A outer s H E hr B xc hB hx hW => b_clear_up T c_clear_side hr B xc hB hx hW) hC, hm, F.kp, F.bindsN fun _ _ _ _ _ _ us hl => match us, hl with | [_, _, _, _, _], _ => rfl⟩
/-! ### _law_low: 0 _law_top, 1 _law_bottom, 2 _law_one, 3 _law_two, 4 _law_k, 5 _law_left -/
abbrev N_Llow : List Str := ["_law_top", "_law_bottom", "_law_one", "_law_two", "_law_k", "_law_left"]
theorem sc_Llow : FnScope N_Llow ["_law_top", "_law_bottom"] (defScope s_Llow) := ⟨rfl, rfl, rfl, by decide +kernel, rfl, by decide +kernel, by decide +kernel⟩
def t_Llow : DTS :=
  (dSeq (dAsg (dVar 0) (dgName 2))
  (dSeq (dAsg (dVar 1) (dgName 3))
  (dSeq (dFor (dRng1 (dCons (dBin fAdd (dBin fMul (dC (.int 2)) (dUn fBits (dUn fInt (dVar 3)))) (dC (.int 2))) dNil)) (dgName 4)
   (dSeq (dIf (dTst (dBin fEq (dVar 3) (dC (.int 0))))
   dBrk
   dNext)
  (dSeq (dAsg (dBin fMod (dUn fInt (dVar 2)) (dVar 3)) (dgName 5))
  (dSeq (dAsg (dVar 3) (dgName 2))
  (dAsg (dVar 5) (dgName 3))))))
  (dRet (dTup (dCons (dBin fDiv (dVar 0) (dVar 2)) (dCons (dBin fDiv (dVar 1) (dVar 2)) dNil)))))))
theorem b_Llow (T : Txt K mg)  {f : Addr} {cdv : Value} {A : Around} {outer : List Env} {s : Shared} {H : Hp} {E : XK} (hr : Room 0 (A.deeper (envOfC "_law_low" (defScope s_Llow) s.heap.objs.size f cdv))) (B : Ent) :
    PSs (cxOf CX0 P w K mg base N_Llow "_law_low" (defScope s_Llow) f cdv A outer s H E).nox (defBody s_Llow) (liftS B t_Llow) := by
  exact (dss_cons (ds_set (i := 2) sc_Llow.nd (de_var 0))
  (dss_cons (ds_set (i := 3) sc_Llow.nd (de_var 1))
  (dss_cons (ds_for PassesOwn.never rfl (di_range1 T.range_ (da_cons (de_bin op_add sn_add (de_bin op_mul sn_mul de_int (de_bits (de_intOf T.int_ (de_var 3)))) de_int) da_nil)) (dg_name (i := 4) sc_Llow.nd)
   (dss_cons (ds_if (dt_cmp op_eq sn_eq (de_var 3) de_int)
   (dss_one ds_break)
   dss_nil)
  (dss_cons (ds_set (i := 5) sc_Llow.nd (de_bin op_mod sn_mod (de_intOf T.int_ (de_var 2)) (de_var 3)))
  (dss_cons (ds_set (i := 2) sc_Llow.nd (de_var 3))
  (dss_one (ds_set (i := 3) sc_Llow.nd (de_var 5)))))))
  (dss_one (ds_ret (de_tup (da_cons (de_bin op_fdiv sn_div (de_var 0) (de_var 2)) (da_cons (de_bin op_fdiv sn_div (de_var 1) (de_var 2)) da_nil))))))))
theorem ok_Llow (T : Txt K mg)  {f : Addr} {fd : FuncData} (F : FunD K "_law_low" "_law_low" (defArgs s_Llow) (defBody s_Llow) (defScope s_Llow) [] [] f fd) (hm : mg "_law_low" = some (.ref f))
    (hl : ∀ ds Q, C_Llow ds Q → ds.length = 2) (hC : ∀ ds Q, C_Llow ds Q → t_Llow (retE Q) (startD N_Llow ds)) : Cal P w K mg base CX0 1 "_law_low" ["_law_top", "_law_bottom"] (pureSp C_Llow) :=
  ⟨f, fd, fn_pure F sc_Llow hl (by decide) (fun cdv A outer s H E hr B => b_Llow T  hr B) hC, hm, F.kp, F.bindsN fun _ _ _ _ _ _ us hl => match us, hl with | [_, _], _ => rfl⟩
/-! ### _law_sizes: 0 _law_feed_here, 1 _law_rows -/
abbrev N_Lsizes : List Str := ["_law_feed_here", "_law_rows"]
theorem sc_Lsizes : FnScope N_Lsizes ["_law_feed_here"] (defScope s_Lsizes) := ⟨rfl, rfl, rfl, by decide +kernel, rfl, by decide +kernel, by decide +kernel⟩
def t_Lsizes : DTS :=
  (dSeq (dAsgL 1 (dLst (dCons (dTup (dCons (dC (.int 1)) (dCons (dC (.int 2)) dNil))) (dCons (dTup (dCons (dC (.int 1)) (dCons (dC (.int 2)) (dCons (dC (.int 4)) dNil)))) (dCons (dTup (dCons (dC (.int 1)) (dCons (dC (.int 3)) dNil))) (dCons (dTup (dCons (dC (.int 2)) (dCons (dC (.int 4)) dNil))) (dCons (dTup (dCons (dC (.int 2)) (dCons (dC (.int 6)) dNil))) (dCons (dTup (dCons (dC (.int 1)) (dCons (dC (.int 2)) (dCons (dC (.int 6)) dNil)))) (dCons (dTup (dCons (dC (.int 1)) dNil)) (dCons (dTup (dCons (dC (.int 1)) (dCons (dC (.int 3)) (dCons (dC (.int 6)) dNil)))) dNil))))))))))
  (dRet (dTup (dCons (dBin fIx (dVar 1) (dCallF 0 C_Ltake (dCons (dC (.int 8)) dNil))) (dCons (dBin fIx (dVar 1) (dCallF 0 C_Ltake (dCons (dC (.int 8)) dNil))) dNil)))))
theorem b_Lsizes (T : Txt K mg) (c_Ltake : Cal P w K mg base CX0 1 "_law_take" ["_law_feed_here", "_law_many"] (feedSp C_Ltake)) {f : Addr} {cdv : Value} {A : Around} {outer : List Env} {s : Shared} {H : Hp} {E : XK} (hr : Room 1 (A.deeper (envOfC "_law_sizes" (defScope s_Lsizes) s.heap.objs.size f cdv))) (B : Ent) :
    PSs (cxOf CX0 P w K mg base N_Lsizes "_law_sizes" (defScope s_Lsizes) f cdv A outer s H E).nox (defBody s_Lsizes) (liftS B t_Lsizes) := by
  exact (dss_cons (ds_setL (i := 1) sc_Lsizes.nd (dl_lst (da_cons (de_tup (da_cons de_int (da_cons de_int da_nil))) (da_cons (de_tup (da_cons de_int (da_cons de_int (da_cons de_int da_nil)))) (da_cons (de_tup (da_cons de_int (da_cons de_int da_nil))) (da_cons (de_tup (da_cons de_int (da_cons de_int da_nil))) (da_cons (de_tup (da_cons de_int (da_cons de_int da_nil))) (da_cons (de_tup (da_cons de_int (da_cons de_int (da_cons de_int da_nil)))) (da_cons (de_tup (da_cons de_int da_nil)) (da_cons (de_tup (da_cons de_int (da_cons de_int (da_cons de_int da_nil)))) da_nil))))))))))
  (dss_one (ds_ret (de_tup (da_cons (de_ix (de_var 1) (de_callFC 0 c_Ltake (hr.mono (by decide)) (da_cons de_int da_nil)) (fun _ _ => rfl)) (da_cons (de_ix (de_var 1) (de_callFC 0 c_Ltake (hr.mono (by decide)) (da_cons de_int da_nil)) (fun _ _ => rfl)) da_nil))))))
theorem ok_Lsizes (T : Txt K mg) (c_Ltake : Cal P w K mg base CX0 1 "_law_take" ["_law_feed_here", "_law_many"] (feedSp C_Ltake)) {f : Addr} {fd : FuncData} (F : FunD K "_law_sizes" "_law_sizes" (defArgs s_Lsizes) (defBody s_Lsizes) (defScope s_Lsizes) [] [] f fd) (hm : mg "_law_sizes" = some (.ref f))
    (hl : ∀ ds Q, C_Lsizes ds Q → ds.length + 1 = 1) (hC : ∀ ds Q, C_Lsizes ds Q → t_Lsizes (retF Q) (startF N_Lsizes ds)) : Cal P w K mg base CX0 2 "_law_sizes" ["_law_feed_here"] (feedSp C_Lsizes) :=
  ⟨f, fd, fn_feed F sc_Lsizes hl (by decide) (fun cdv A outer s H E hr B => b_Lsizes T c_Ltake hr B) hC, hm, F.kp, F.bindsN fun _ _ _ _ _ _ us hl => match us, hl with | [_], _ => rfl⟩
/-! ### _law_side: 0 _law_feed_here, 1 _law_row, 2 _law_how -/
abbrev N_Lside : List Str := ["_law_feed_here", "_law_row", "_law_how"]
theorem sc_Lside : FnScope N_Lside ["_law_feed_here", "_law_row"] (defScope s_Lside) := ⟨rfl, rfl, rfl, by decide +kernel, rfl, by decide +kernel, by decide +kernel⟩
def t_Lside : DTS :=
  (dSeq (dAsg (dCallF 0 C_Ltake (dCons (dC (.int 24)) dNil)) (dgName 2))
  (dSeq (dIf (dTst (dBin fEq (dVar 2) (dC (.int 0))))
   (dRet (dC2 gMax (dCons (dC (.int 1)) (dCons (dBin fSub (dBin fIx (dVar 1) (dC (.int 0))) (dC (.int 1))) dNil))))
   dNext)
  (dSeq (dIf (dTst (dBin fLt (dVar 2) (dC (.int 10))))
   (dRet (dBin fAdd (dBin fMul (dBin fIx (dVar 1) (dUn fNeg (dC (.int 1)))) (dBin fAdd (dC (.int 1)) (dCallF 0 C_Ltake (dCons (dC (.int 2)) dNil)))) (dCallF 0 C_Ltake (dCons (dBin fIx (dVar 1) (dC (.int 0))) dNil))))
   dNext)
  (dRet (dBin fAdd (dBin fMul (dBin fIx (dVar 1) (dC (.int 0))) (dBin fAdd (dC (.int 1)) (dCallF 0 C_Ltake (dCons (dBin fDiv (dBin fMul (dC (.int 2)) (dBin fIx (dVar 1) (dUn fNeg (dC (.int 1))))) (dBin fIx (dVar 1) (dC (.int 0)))) dNil)))) (dCallF 0 C_Ltake (dCons (dBin fAdd (dBin fIx (dVar 1) (dC (.int 0))) (dC (.int 1))) dNil)))))))
theorem b_Lside (T : Txt K mg) (c_Ltake : Cal P w K mg base CX0 1 "_law_take" ["_law_feed_here", "_law_many"] (feedSp C_Ltake)) {f : Addr} {cdv : Value} {A : Around} {outer : List Env} {s : Shared} {H : Hp} {E : XK} (hr : Room 1 (A.deeper (envOfC "_law_side" (defScope s_Lside) s.heap.objs.size f cdv))) (B : Ent) :
    PSs (cxOf CX0 P w K mg base N_Lside "_law_side" (defScope s_Lside) f cdv A outer s H E).nox (defBody s_Lside) (liftS B t_Lside) := by
  exact (dss_cons (ds_set (i := 2) sc_Lside.nd (de_callFC 0 c_Ltake (hr.mono (by decide)) (da_cons de_int da_nil)))
  (dss_cons (ds_if (dt_cmp op_eq sn_eq (de_var 2) de_int)
   (dss_one (ds_ret (de_max2 rfl T.max_ (da_cons de_int (da_cons (de_bin op_sub sn_sub (de_ix (de_var 1) de_int (fun _ _ => rfl)) de_int) da_nil)))))
   dss_nil)
  (dss_cons (ds_if (dt_cmp op_lt sn_lt (de_var 2) de_int)
   (dss_one (ds_ret (de_bin op_add sn_add (de_bin op_mul sn_mul (de_ix (de_var 1) (de_neg de_int) (fun _ _ => rfl)) (de_bin op_add sn_add de_int (de_callFC 0 c_Ltake (hr.mono (by decide)) (da_cons de_int da_nil)))) (de_callFC 0 c_Ltake (hr.mono (by decide)) (da_cons (de_ix (de_var 1) de_int (fun _ _ => rfl)) da_nil)))))
   dss_nil)
  (dss_one (ds_ret (de_bin op_add sn_add (de_bin op_mul sn_mul (de_ix (de_var 1) de_int (fun _ _ => rfl)) (de_bin op_add sn_add de_int (de_callFC 0 c_Ltake (hr.mono (by decide)) (da_cons (de_bin op_fdiv sn_div (de_bin op_mul sn_mul de_int (de_ix (de_var 1) (de_neg de_int) (fun _ _ => rfl))) (de_ix (de_var 1) de_int (fun _ _ => rfl))) da_nil)))) (de_callFC 0 c_Ltake (hr.mono (by decide)) (da_cons (de_bin op_add sn_add (de_ix (de_var 1) de_int (fun _ _ => rfl)) de_int) da_nil))))))))
theorem ok_Lside (T : Txt K mg) (c_Ltake : Cal P w K mg base CX0 1 "_law_take" ["_law_feed_here", "_law_many"] (feedSp C_Ltake)) {f : Addr} {fd : FuncData} (F : FunD K "_law_side" "_law_side" (defArgs s_Lside) (defBody s_Lside) (defScope s_Lside) [] [] f fd) (hm : mg "_law_side" = some (.ref f))
    (hl : ∀ ds Q, C_Lside ds Q → ds.length + 1 = 2) (hC : ∀ ds Q, C_Lside ds Q → t_Lside (retF Q) (startF N_Lside ds)) : Cal P w K mg base CX0 2 "_law_side" ["_law_feed_here", "_law_row"] (feedSp C_Lside) :=
  ⟨f, fd, fn_feed F sc_Lside hl (by decide) (fun cdv A outer s H E hr B => b_Lside T c_Ltake hr B) hC, hm, F.kp, F.bindsN fun _ _ _ _ _ _ us hl => match us, hl with | [_, _], _ => rfl⟩
/-! ### _law_stock: 0 _law_feed_here, 1 _law_sizes_here, 2 _law_how, 3 _law_store, 4 _law_k, 5 _law_wide -/
abbrev N_Lstock : List Str := ["_law_feed_here", "_law_sizes_here", "_law_how", "_law_store", "_law_k", "_law_wide"]
theorem sc_Lstock : FnScope N_Lstock ["_law_feed_here", "_law_sizes_here"] (defScope s_Lstock) := ⟨rfl, rfl, rfl, by decide +kernel, rfl, by decide +kernel, by decide +kernel⟩
def t_Lstock : DTS :=
  (dSeq (dAsg (dCallF 0 C_Ltake (dCons (dC (.int 18)) dNil)) (dgName 2))
  (dSeq (dIf (dTst (dBin fEq (dVar 2) (dC (.int 0))))
   (dRet (dTup dNil))
   dNext)
  (dSeq (dAsgL 3 (dLst dNil))
  (dSeq (dFor (dRng1 (dCons (dBin fIx (dFrz (dLst (dCons (dC (.int 1)) (dCons (dC (.int 1)) (dCons (dC (.int 2)) (dCons (dC (.int 3)) dNil)))))) (dCallF 0 C_Ltake (dCons (dC (.int 4)) dNil))) dNil)) (dgName 4)
   (dSeq (dAsg (dCallF 0 C_Lside (dCons (dBin fIx (dVar 1) (dC (.int 0))) dNil)) (dgName 5))
  (dApp 3 (dTup (dCons (dVar 5) (dCons (dCallF 0 C_Lside (dCons (dBin fIx (dVar 1) (dC (.int 1))) dNil)) (dCons (dBin fIx (dFrz (dLst (dCons (dC (.int 1)) (dCons (dC (.int 1)) (dCons (dC (.int 1)) (dCons (dC (.int 2)) (dCons (dC (.int 2)) (dCons (dBin fSub (dC (.int 1000000000000000000000000000000)) (dC (.int 1))) dNil)))))))) (dCallF 0 C_Ltake (dCons (dC (.int 6)) dNil))) dNil)))))))
  (dSeq (dIf (dTst (dBin fEq (dVar 2) (dC (.int 1))))
   (dSetI 3 (dBin fIx (dFrz (dLst (dCons (dTup (dCons (dBin fSub (dC (.int 1000000000000)) (dC (.int 1))) (dCons (dBin fIx (dBin fIx (dVar 3) (dC (.int 0))) (dC (.int 1))) (dCons (dC (.int 1)) dNil)))) (dCons (dTup (dCons (dBin fIx (dBin fIx (dVar 3) (dC (.int 0))) (dC (.int 0))) (dCons (dBin fSub (dC (.int 1000000000000)) (dC (.int 1))) (dCons (dC (.int 2)) dNil)))) dNil)))) (dCallF 0 C_Ltake (dCons (dC (.int 2)) dNil))) (dC (.int 0)))
   dNext)
  (dRet (dUn fTupOf (dVar 3))))))))
theorem b_Lstock (T : Txt K mg) (c_Ltake : Cal P w K mg base CX0 1 "_law_take" ["_law_feed_here", "_law_many"] (feedSp C_Ltake)) (c_Lside : Cal P w K mg base CX0 2 "_law_side" ["_law_feed_here", "_law_row"] (feedSp C_Lside)) {f : Addr} {cdv : Value} {A : Around} {outer : List Env} {s : Shared} {H : Hp} {E : XK} (hr : Room 2 (A.deeper (envOfC "_law_stock" (defScope s_Lstock) s.heap.objs.size f cdv))) (B : Ent) :
    PSs (cxOf CX0 P w K mg base N_Lstock "_law_stock" (defScope s_Lstock) f cdv A outer s H E).nox (defBody s_Lstock) (liftS B t_Lstock) := by
  exact (dss_cons (ds_set (i := 2) sc_Lstock.nd (de_callFC 0 c_Ltake (hr.mono (by decide)) (da_cons de_int da_nil)))
  (dss_cons (ds_if (dt_cmp op_eq sn_eq (de_var 2) de_int)
   (dss_one (ds_ret (de_tup da_nil)))
   dss_nil)
  (dss_cons (ds_setL (i := 3) sc_Lstock.nd (dl_lst da_nil))
  (dss_cons (ds_for PassesOwn.never rfl (di_range1 T.range_ (da_cons (de_ix (de_frz (dl_lst (da_cons de_int (da_cons de_int (da_cons de_int (da_cons de_int da_nil)))))) (de_callFC 0 c_Ltake (hr.mono (by decide)) (da_cons de_int da_nil)) (fun _ _ => rfl)) da_nil)) (dg_name (i := 4) sc_Lstock.nd)
   (dss_cons (ds_set (i := 5) sc_Lstock.nd (de_callFC 0 c_Lside (hr.mono (by decide)) (da_cons (de_ix (de_var 1) de_int (fun _ _ => rfl)) da_nil)))
  (dss_one (ds_app (i := 3) (he := (de_tup (da_cons (de_var 5) (da_cons (de_callFC 0 c_Lside (hr.mono (by decide)) (da_cons (de_ix (de_var 1) de_int (fun _ _ => rfl)) da_nil)) (da_cons (de_ix (de_frz (dl_lst (da_cons de_int (da_cons de_int (da_cons de_int (da_cons de_int (da_cons de_int (da_cons (de_bin op_sub sn_sub (de_pow (n := 1000000000000000000000000000000) ⟨by decide, by decide, by decide⟩ (by decide)) de_int) da_nil)))))))) (de_callFC 0 c_Ltake (hr.mono (by decide)) (da_cons de_int da_nil)) (fun _ _ => rfl)) da_nil)))))))))
  (dss_cons (ds_if (dt_cmp op_eq sn_eq (de_var 2) de_int)
   (dss_one (ds_setI (i := 3) (he := (de_ix (de_frz (dl_lst (da_cons (de_tup (da_cons (de_bin op_sub sn_sub (de_pow (n := 1000000000000) ⟨by decide, by decide, by decide⟩ (by decide)) de_int) (da_cons (de_ix (de_ix (de_var 3) de_int (fun _ _ => rfl)) de_int (fun _ _ => rfl)) (da_cons de_int da_nil)))) (da_cons (de_tup (da_cons (de_ix (de_ix (de_var 3) de_int (fun _ _ => rfl)) de_int (fun _ _ => rfl)) (da_cons (de_bin op_sub sn_sub (de_pow (n := 1000000000000) ⟨by decide, by decide, by decide⟩ (by decide)) de_int) (da_cons de_int da_nil)))) da_nil)))) (de_callFC 0 c_Ltake (hr.mono (by decide)) (da_cons de_int da_nil)) (fun _ _ => rfl))) (hi := de_int)))
   dss_nil)
  (dss_one (ds_ret (de_tupOf T.tuple_ (de_var 3)))))))))
theorem ok_Lstock (T : Txt K mg) (c_Ltake : Cal P w K mg base CX0 1 "_law_take" ["_law_feed_here", "_law_many"] (feedSp C_Ltake)) (c_Lside : Cal P w K mg base CX0 2 "_law_side" ["_law_feed_here", "_law_row"] (feedSp C_Lside)) {f : Addr} {fd : FuncData} (F : FunD K "_law_stock" "_law_stock" (defArgs s_Lstock) (defBody s_Lstock) (defScope s_Lstock) [] [] f fd) (hm : mg "_law_stock" = some (.ref f))
    (hl : ∀ ds Q, C_Lstock ds Q → ds.length + 1 = 2) (hC : ∀ ds Q, C_Lstock ds Q → t_Lstock (retF Q) (startF N_Lstock ds)) : Cal P w K mg base CX0 3 "_law_stock" ["_law_feed_here", "_law_sizes_here"] (feedSp C_Lstock) :=
  ⟨f, fd, fn_feed F sc_Lstock hl (by decide) (fun cdv A outer s H E hr B => b_Lstock T c_Ltake c_Lside hr B) hC, hm, F.kp, F.bindsN fun _ _ _ _ _ _ us hl => match us, hl with | [_, _], _ => rfl⟩
end
end K28
end
section
set_option Elab.async false
set_option linter.all false
set_option maxRecDepth 100000
set_option maxHeartbeats 4000000
namespace K28
open PySem PySem.Spec PyProof.Rows L2 DL
section
variable {P : Program} {w : World} {K : PySem.W.Frag} {mg : Str → Option Value} {base : Heap}
/-! ### _law_spread: 0 _law_ticks, 1 _law_done, 2 _law_one -/
abbrev N_Lspread : List Str := ["_law_ticks", "_law_done", "_law_one"]
theorem sc_Lspread : FnScope N_Lspread ["_law_ticks", "_law_done"] (defScope s_Lspread) := ⟨rfl, rfl, rfl, by decide +kernel, rfl, by decide +kernel, by decide +kernel⟩
def t_Lspread : DTS :=
  (dRet (dUn fTupOf (dFrz (dLc (dSrcL (dVar 1)) (dgName 2) dYes (dBin fCatT (dSlT (dVar 2) dNoPart (dPart (dC (.int 4)))) (dTup (dCons (dCall C_Llow (dCons (dBin fIx (dVar 2) (dC (.int 4))) (dCons (dVar 0) dNil))) (dCons (dCall C_Llow (dCons (dBin fIx (dVar 2) (dC (.int 5))) (dCons (dVar 0) dNil))) dNil)))) [2]))))
theorem b_Lspread (T : Txt K mg) (c_Llow : Cal P w K mg base CX0 1 "_law_low" ["_law_top", "_law_bottom"] (pureSp C_Llow)) {f : Addr} {cdv : Value} {A : Around} {outer : List Env} {s : Shared} {H : Hp} {E : XK} (hr : Room 1 (A.deeper (envOfC "_law_spread" (defScope s_Lspread) s.heap.objs.size f cdv))) (B : Ent) :
    PSs (cxOf CX0 P w K mg base N_Lspread "_law_spread" (defScope s_Lspread) f cdv A outer s H E).nox (defBody s_Lspread) (liftS B t_Lspread) := by
  exact (dss_one (ds_ret (de_tupOf T.tuple_ (de_frz (dl_lc [("_law_one", 2)] rfl sc_Lspread.nd (di_list (de_var 1)) (blkOk_by (N := N_Lspread) (sc := defScope s_Lspread) (by decide +kernel)) (blk_name (by decide)) (fun _ _ _ _ _ => pg_name (i := 2) sc_Lspread.nd rfl (Or.inl rfl)) (fun _ _ _ _ _ => pts_nilD) (fun B _ _ _ _ _ => (de_bin op_catA sn_catT (de_slT (de_var 2) do_none (do_some de_int)) (de_tup (da_cons (de_callC c_Llow (hr.mono (by decide)) (da_cons (de_ix (de_var 2) de_int (fun _ _ => rfl)) (da_cons (de_var 0) da_nil))) (da_cons (de_callC c_Llow (hr.mono (by decide)) (da_cons (de_ix (de_var 2) de_int (fun _ _ => rfl)) (da_cons (de_var 0) da_nil))) da_nil))))))))))
theorem ok_Lspread (T : Txt K mg) (c_Llow : Cal P w K mg base CX0 1 "_law_low" ["_law_top", "_law_bottom"] (pureSp C_Llow)) {f : Addr} {fd : FuncData} (F : FunD K "_law_spread" "_law_spread" (defArgs s_Lspread) (defBody s_Lspread) (defScope s_Lspread) [] [] f fd) (hm : mg "_law_spread" = some (.ref f))
    (hl : ∀ ds Q, C_Lspread ds Q → ds.length = 2) (hC : ∀ ds Q, C_Lspread ds Q → t_Lspread (retE Q) (startD N_Lspread ds)) : Cal P w K mg base CX0 2 "_law_spread" ["_law_ticks", "_law_done"] (pureSp C_Lspread) :=
  ⟨f, fd, fn_pure F sc_Lspread hl (by decide) (fun cdv A outer s H E hr B => b_Lspread T c_Llow hr B) hC, hm, F.kp, F.bindsN fun _ _ _ _ _ _ us hl => match us, hl with | [_, _], _ => rfl⟩
/-! ### _law_block: 0 _law_wide, 1 _law_high, 2 _law_cols, 3 _law_mask, 4 _law_r -/
abbrev N_Lblock : List Str := ["_law_wide", "_law_high", "_law_cols", "_law_mask", "_law_r"]
theorem sc_Lblock : FnScope N_Lblock ["_law_wide", "_law_high", "_law_cols"] (defScope s_Lblock) := ⟨rfl, rfl, rfl, by decide +kernel, rfl, by decide +kernel, by decide +kernel⟩
def t_Lblock : DTS :=
  (dSeq (dAsg (dC (.int 0)) (dgName 3))
  (dSeq (dFor (dRng1 (dCons (dVar 1) dNil)) (dgName 4)
   (dAsg (dBin fAdd (dVar 3) (dBin fShl (dBin fSub (dBin fShl (dC (.int 1)) (dVar 0)) (dC (.int 1))) (dBin fMul (dVar 4) (dVar 2)))) (dgName 3)))
  (dRet (dVar 3))))
theorem b_Lblock (T : Txt K mg)  {f : Addr} {cdv : Value} {A : Around} {outer : List Env} {s : Shared} {H : Hp} {E : XK} (hr : Room 0 (A.deeper (envOfC "_law_block" (defScope s_Lblock) s.heap.objs.size f cdv))) (B : Ent) :
    PSs (cxOf CX0 P w K mg base N_Lblock "_law_block" (defScope s_Lblock) f cdv A outer s H E).nox (defBody s_Lblock) (liftS B t_Lblock) := by
  exact (dss_cons (ds_set (i := 3) sc_Lblock.nd de_int)
  (dss_cons (ds_for PassesOwn.never rfl (di_range1 T.range_ (da_cons (de_var 1) da_nil)) (dg_name (i := 4) sc_Lblock.nd)
   (dss_one (ds_set (i := 3) sc_Lblock.nd (de_bin op_add sn_add (de_var 3) (de_bin op_shlW sn_shl (de_bin op_sub sn_sub (de_bin op_shlW sn_shl de_int (de_var 0)) de_int) (de_bin op_mul sn_mul (de_var 4) (de_var 2)))))))
  (dss_one (ds_ret (de_var 3)))))
theorem ok_Lblock (T : Txt K mg)  {f : Addr} {fd : FuncData} (F : FunD K "_law_block" "_law_block" (defArgs s_Lblock) (defBody s_Lblock) (defScope s_Lblock) [] [] f fd) (hm : mg "_law_block" = some (.ref f))
    (hl : ∀ ds Q, C_Lblock ds Q → ds.length = 3) (hC : ∀ ds Q, C_Lblock ds Q → t_Lblock (retE Q) (startD N_Lblock ds)) : Cal P w K mg base CX0 1 "_law_block" ["_law_wide", "_law_high", "_law_cols"] (pureSp C_Lblock) :=
  ⟨f, fd, fn_pure F sc_Lblock hl (by decide) (fun cdv A outer s H E hr B => b_Lblock T  hr B) hC, hm, F.kp, F.bindsN fun _ _ _ _ _ _ us hl => match us, hl with | [_, _, _], _ => rfl⟩
/-! ### _law_quotient: 0 _law_thing, 1 _law_one -/
abbrev N_Lquotient : List Str := ["_law_thing", "_law_one"]
theorem sc_Lquotient : FnScope N_Lquotient ["_law_thing"] (defScope s_Lquotient) := ⟨rfl, rfl, rfl, by decide +kernel, rfl, by decide +kernel, by decide +kernel⟩
def t_Lquotient : DTS :=
  (dSeq (dIf (dOr (dNot (dTst (dUn (fIsi isTup) (dVar 0)))) (dTst (dBin fNe (dUn fLen (dVar 0)) (dC (.int 2)))))
   (dRet (dC (.bl false)))
   dNext)
  (dSeq (dFor (dSrcT (dVar 0)) (dgName 1)
   (dIf (dOr (dNot (dTst (dUn (fIsi isInt) (dVar 1)))) (dOr (dTst (dUn (fIsi isBool) (dVar 1))) (dTst (dBin fLt (dVar 1) (dC (.int 0))))))
   (dRet (dC (.bl false)))
   dNext))
  (dRet (dAndV (dBin fGt (dBin fIx (dVar 0) (dC (.int 1))) (dC (.int 0))) (dBin fEqP (dCall C_Llow (dCons (dBin fIx (dVar 0) (dC (.int 0))) (dCons (dBin fIx (dVar 0) (dC (.int 1))) dNil))) (dVar 0))))))
theorem b_Lquotient (T : Txt K mg) (c_Llow : Cal P w K mg base CX0 1 "_law_low" ["_law_top", "_law_bottom"] (pureSp C_Llow)) {f : Addr} {cdv : Value} {A : Around} {outer : List Env} {s : Shared} {H : Hp} {E : XK} (hr : Room 1 (A.deeper (envOfC "_law_quotient" (defScope s_Lquotient) s.heap.objs.size f cdv))) (B : Ent) :
    PSs (cxOf CX0 P w K mg base N_Lquotient "_law_quotient" (defScope s_Lquotient) f cdv A outer s H E).nox (defBody s_Lquotient) (liftS B t_Lquotient) := by
  exact (dss_cons (ds_if (L2.PW.pt (dw_or (dt_not (dt_val (de_isi kit_tup T.isinstance_ T.tuple_ (by decide +kernel) (de_var 0)))) (dw_or1 (dt_cmp op_ne sn_ne (de_len T.len_ (de_var 0)) de_int))))
   (dss_one (ds_ret de_bl))
   dss_nil)
  (dss_cons (ds_for PassesOwn.never rfl (di_tup (de_var 0)) (dg_name (i := 1) sc_Lquotient.nd)
   (dss_one (ds_if (L2.PW.pt (dw_or (dt_not (dt_val (de_isi kit_int T.isinstance_ T.int_ (by decide +kernel) (de_var 1)))) (dw_or (dt_val (de_isi kit_bool T.isinstance_ T.bool_ (by decide +kernel) (de_var 1))) (dw_or1 (dt_cmp op_lt sn_lt (de_var 1) de_int)))))
   (dss_one (ds_ret de_bl))
   dss_nil)))
  (dss_one (ds_ret (de_and (de_cmp op_gt sn_gt (de_ix (de_var 0) de_int (fun _ _ => rfl)) de_int) (de_one (de_cmp (op_eqD hr.units) sn_eqP (de_callC c_Llow (hr.mono (by decide)) (da_cons (de_ix (de_var 0) de_int (fun _ _ => rfl)) (da_cons (de_ix (de_var 0) de_int (fun _ _ => rfl)) da_nil))) (de_var 0))))))))
theorem ok_Lquotient (T : Txt K mg) (c_Llow : Cal P w K mg base CX0 1 "_law_low" ["_law_top", "_law_bottom"] (pureSp C_Llow)) {f : Addr} {fd : FuncData} (F : FunD K "_law_quotient" "_law_quotient" (defArgs s_Lquotient) (defBody s_Lquotient) (defScope s_Lquotient) [] [] f fd) (hm : mg "_law_quotient" = some (.ref f))
    (hl : ∀ ds Q, C_Lquotient ds Q → ds.length = 1) (hC : ∀ ds Q, C_Lquotient ds Q → t_Lquotient (retE Q) (startD N_Lquotient ds)) : Cal P w K mg base CX0 2 "_law_quotient" ["_law_thing"] (pureSp C_Lquotient) :=
  ⟨f, fd, fn_pure F sc_Lquotient hl (by decide) (fun cdv A outer s H E hr B => b_Lquotient T c_Llow hr B) hC, hm, F.kp, F.bindsN fun _ _ _ _ _ _ us hl => match us, hl with | [_], _ => rfl⟩
/-! ### _law_filled: 0 _law_feed_here, 1 _law_sizes_here, 2 _law_board, 3 _law_cols, 4 _law_rows, 5 _law_taken, 6 _law_put, 7 _law_way, 8 _law_k, 9 _law_kind, 10 _law_wide, 11 _law_high, 12 _law_mask, 13 _law_r, 14 _law_start, 15 _law_j, 16 _law_spot, 17 _law_c -/
abbrev N_Lfilled : List Str := ["_law_feed_here", "_law_sizes_here", "_law_board", "_law_cols", "_law_rows", "_law_taken", "_law_put", "_law_way", "_law_k", "_law_kind", "_law_wide", "_law_high", "_law_mask", "_law_r", "_law_start", "_law_j", "_law_spot", "_law_c"]
theorem sc_Lfilled : FnScope N_Lfilled ["_law_feed_here", "_law_sizes_here", "_law_board"] (defScope s_Lfilled) := ⟨rfl, rfl, rfl, by decide +kernel, rfl, by decide +kernel, by decide +kernel⟩
def t_Lfilled : DTS :=
  (dSeq (dAsg (dC2 gMin (dCons (dC (.int 20)) (dCons (dBin fDiv (dBin fIx (dVar 2) (dC (.int 0))) (dBin fIx (dBin fIx (dVar 1) (dC (.int 0))) (dC (.int 0)))) dNil))) (dgName 3))
  (dSeq (dAsg (dC2 gMin (dCons (dC (.int 20)) (dCons (dBin fDiv (dBin fIx (dVar 2) (dC (.int 1))) (dBin fIx (dBin fIx (dVar 1) (dC (.int 1))) (dC (.int 0)))) dNil))) (dgName 4))
  (dSeq (dAsg (dC (.int 0)) (dgName 5))
  (dSeq (dAsgL 6 (dLst dNil))
  (dSeq (dAsg (dCallF 0 C_Ltake (dCons (dC (.int 3)) dNil)) (dgName 7))
  (dSeq (dFor (dRng1 (dCons (dBin fAdd (dC (.int 6)) (dCallF 0 C_Ltake (dCons (dC (.int 16)) dNil))) dNil)) (dgName 8)
   (dSeq (dAsg (dTup (dCons (dCallF 0 C_Ltake (dCons (dUn fLen (dBin fIx (dVar 1) (dC (.int 0)))) dNil)) (dCons (dCallF 0 C_Ltake (dCons (dUn fLen (dBin fIx (dVar 1) (dC (.int 1)))) dNil)) dNil))) (dgName 9))
  (dSeq (dAsg (dBin fDiv (dBin fIx (dBin fIx (dVar 1) (dC (.int 0))) (dBin fIx (dVar 9) (dC (.int 0)))) (dBin fIx (dBin fIx (dVar 1) (dC (.int 0))) (dC (.int 0)))) (dgName 10))
  (dSeq (dAsg (dBin fDiv (dBin fIx (dBin fIx (dVar 1) (dC (.int 1))) (dBin fIx (dVar 9) (dC (.int 1)))) (dBin fIx (dBin fIx (dVar 1) (dC (.int 1))) (dC (.int 0)))) (dgName 11))
  (dSeq (dAsg (dC (.int 0)) (dgName 12))
  (dSeq (dFor (dRng1 (dCons (dVar 11) dNil)) (dgName 13)
   (dAsg (dBin fAdd (dVar 12) (dBin fShl (dBin fSub (dBin fShl (dC (.int 1)) (dVar 10)) (dC (.int 1))) (dBin fMul (dVar 13) (dVar 3)))) (dgName 12)))
  (dSeq (dAsg (dC (.int 0)) (dgName 14))
  (dSeq (dIf (dTst (dBin fEq (dVar 7) (dC (.int 2))))
   (dAsg (dCallF 0 C_Ltake (dCons (dBin fAdd (dBin fMul (dVar 3) (dVar 4)) (dC (.int 1))) dNil)) (dgName 14))
   dNext)
  (dSeq (dFor (dRng1 (dCons (dBin fMul (dVar 3) (dVar 4)) dNil)) (dgName 15)
   (dSeq (dAsg (dBin fMod (dUn fInt (dBin fAdd (dVar 14) (dVar 15))) (dBin fMul (dVar 3) (dVar 4))) (dgName 16))
  (dSeq (dAsg (dBin fMod (dUn fInt (dVar 16)) (dVar 3)) (dgName 17))
  (dSeq (dAsg (dBin fDiv (dVar 16) (dVar 3)) (dgName 13))
  (dSeq (dIf (dTst (dBin fEq (dVar 7) (dC (.int 1))))
   (dSeq (dAsg (dBin fDiv (dVar 16) (dVar 4)) (dgName 17))
  (dAsg (dBin fMod (dUn fInt (dVar 16)) (dVar 4)) (dgName 13)))
   dNext)
  (dIf (dAnd (dTst (dBin fLe (dBin fAdd (dVar 17) (dVar 10)) (dVar 3))) (dAnd (dTst (dBin fLe (dBin fAdd (dVar 13) (dVar 11)) (dVar 4))) (dTst (dBin fEq (dBin fAnd (dVar 5) (dBin fShl (dVar 12) (dBin fAdd (dVar 17) (dBin fMul (dVar 13) (dVar 3))))) (dC (.int 0))))))
   (dSeq (dAsg (dBin fOr (dVar 5) (dBin fShl (dVar 12) (dBin fAdd (dVar 17) (dBin fMul (dVar 13) (dVar 3))))) (dgName 5))
  (dSeq (dApp 6 (dBin fCatT (dVar 9) (dTup (dCons (dBin fMul (dVar 17) (dBin fIx (dBin fIx (dVar 1) (dC (.int 0))) (dC (.int 0)))) (dCons (dBin fMul (dVar 13) (dBin fIx (dBin fIx (dVar 1) (dC (.int 1))) (dC (.int 0)))) dNil)))))
  dBrk))
   dNext))))))
  (dIf (dTst (dBin fEq (dUn fLen (dVar 6)) (dC (.int 14))))
   dBrk
   dNext))))))))))
  (dRet (dVar 6))))))))
theorem b_Lfilled (T : Txt K mg) (c_Ltake : Cal P w K mg base CX0 1 "_law_take" ["_law_feed_here", "_law_many"] (feedSp C_Ltake)) {f : Addr} {cdv : Value} {A : Around} {outer : List Env} {s : Shared} {H : Hp} {E : XK} (hr : Room 1 (A.deeper (envOfC "_law_filled" (defScope s_Lfilled) s.heap.objs.size f cdv))) (B : Ent) :
    PSs (cxOf CX0 P w K mg base N_Lfilled "_law_filled" (defScope s_Lfilled) f cdv A outer s H E).nox (defBody s_Lfilled) (liftS B t_Lfilled) := by
  exact (dss_cons (ds_set (i := 3) sc_Lfilled.nd (de_min2 rfl T.min_ (da_cons de_int (da_cons (de_bin op_fdiv sn_div (de_ix (de_var 2) de_int (fun _ _ => rfl)) (de_ix (de_ix (de_var 1) de_int (fun _ _ => rfl)) de_int (fun _ _ => rfl))) da_nil))))
  (dss_cons (ds_set (i := 4) sc_Lfilled.nd (de_min2 rfl T.min_ (da_cons de_int (da_cons (de_bin op_fdiv sn_div (de_ix (de_var 2) de_int (fun _ _ => rfl)) (de_ix (de_ix (de_var 1) de_int (fun _ _ => rfl)) de_int (fun _ _ => rfl))) da_nil))))
  (dss_cons (ds_set (i := 5) sc_Lfilled.nd de_int)
  (dss_cons (ds_setL (i := 6) sc_Lfilled.nd (dl_lst da_nil))
  (dss_cons (ds_set (i := 7) sc_Lfilled.nd (de_callFC 0 c_Ltake (hr.mono (by decide)) (da_cons de_int da_nil)))
  (dss_cons (ds_for PassesOwn.never rfl (di_range1 T.range_ (da_cons (de_bin op_add sn_add de_int (de_callFC 0 c_Ltake (hr.mono (by decide)) (da_cons de_int da_nil))) da_nil)) (dg_name (i := 8) sc_Lfilled.nd)
   (dss_cons (ds_set (i := 9) sc_Lfilled.nd (de_tup (da_cons (de_callFC 0 c_Ltake (hr.mono (by decide)) (da_cons (de_len T.len_ (de_ix (de_var 1) de_int (fun _ _ => rfl))) da_nil)) (da_cons (de_callFC 0 c_Ltake (hr.mono (by decide)) (da_cons (de_len T.len_ (de_ix (de_var 1) de_int (fun _ _ => rfl))) da_nil)) da_nil))))
  (dss_cons (ds_set (i := 10) sc_Lfilled.nd (de_bin op_fdiv sn_div (de_ix (de_ix (de_var 1) de_int (fun _ _ => rfl)) (de_ix (de_var 9) de_int (fun _ _ => rfl)) (fun _ _ => rfl)) (de_ix (de_ix (de_var 1) de_int (fun _ _ => rfl)) de_int (fun _ _ => rfl))))
  (dss_cons (ds_set (i := 11) sc_Lfilled.nd (de_bin op_fdiv sn_div (de_ix (de_ix (de_var 1) de_int (fun _ _ => rfl)) (de_ix (de_var 9) de_int (fun _ _ => rfl)) (fun _ _ => rfl)) (de_ix (de_ix (de_var 1) de_int (fun _ _ => rfl)) de_int (fun _ _ => rfl))))
  (dss_cons (ds_set (i := 12) sc_Lfilled.nd de_int)
  (dss_cons (ds_for PassesOwn.never rfl (di_range1 T.range_ (da_cons (de_var 11) da_nil)) (dg_name (i := 13) sc_Lfilled.nd)
   (dss_one (ds_set (i := 12) sc_Lfilled.nd (de_bin op_add sn_add (de_var 12) (de_bin op_shlW sn_shl (de_bin op_sub sn_sub (de_bin op_shlW sn_shl de_int (de_var 10)) de_int) (de_bin op_mul sn_mul (de_var 13) (de_var 3)))))))
  (dss_cons (ds_set (i := 14) sc_Lfilled.nd de_int)
  (dss_cons (ds_if (dt_cmp op_eq sn_eq (de_var 7) de_int)
   (dss_one (ds_set (i := 14) sc_Lfilled.nd (de_callFC 0 c_Ltake (hr.mono (by decide)) (da_cons (de_bin op_add sn_add (de_bin op_mul sn_mul (de_var 3) (de_var 4)) de_int) da_nil))))
   dss_nil)
  (dss_cons (ds_for PassesOwn.never rfl (di_range1 T.range_ (da_cons (de_bin op_mul sn_mul (de_var 3) (de_var 4)) da_nil)) (dg_name (i := 15) sc_Lfilled.nd)
   (dss_cons (ds_set (i := 16) sc_Lfilled.nd (de_bin op_mod sn_mod (de_intOf T.int_ (de_bin op_add sn_add (de_var 14) (de_var 15))) (de_bin op_mul sn_mul (de_var 3) (de_var 4))))
  (dss_cons (ds_set (i := 17) sc_Lfilled.nd (de_bin op_mod sn_mod (de_intOf T.int_ (de_var 16)) (de_var 3)))
  (dss_cons (ds_set (i := 13) sc_Lfilled.nd (de_bin op_fdiv sn_div (de_var 16) (de_var 3)))
  (dss_cons (ds_if (dt_cmp op_eq sn_eq (de_var 7) de_int)
   (dss_cons (ds_set (i := 17) sc_Lfilled.nd (de_bin op_fdiv sn_div (de_var 16) (de_var 4)))
  (dss_one (ds_set (i := 13) sc_Lfilled.nd (de_bin op_mod sn_mod (de_intOf T.int_ (de_var 16)) (de_var 4)))))
   dss_nil)
  (dss_one (ds_if (L2.PW.pt (dw_and (dt_cmp op_le sn_le (de_bin op_add sn_add (de_var 17) (de_var 10)) (de_var 3)) (dw_and (dt_cmp op_le sn_le (de_bin op_add sn_add (de_var 13) (de_var 11)) (de_var 4)) (dw_and1 (dt_cmp op_eq sn_eq (de_bin op_and sn_and (de_var 5) (de_bin op_shlW sn_shl (de_var 12) (de_bin op_add sn_add (de_var 17) (de_bin op_mul sn_mul (de_var 13) (de_var 3))))) de_int)))))
   (dss_cons (ds_set (i := 5) sc_Lfilled.nd (de_bin op_or sn_or (de_var 5) (de_bin op_shlW sn_shl (de_var 12) (de_bin op_add sn_add (de_var 17) (de_bin op_mul sn_mul (de_var 13) (de_var 3))))))
  (dss_cons (ds_app (i := 6) (he := (de_bin op_catA sn_catT (de_var 9) (de_tup (da_cons (de_bin op_mul sn_mul (de_var 17) (de_ix (de_ix (de_var 1) de_int (fun _ _ => rfl)) de_int (fun _ _ => rfl))) (da_cons (de_bin op_mul sn_mul (de_var 13) (de_ix (de_ix (de_var 1) de_int (fun _ _ => rfl)) de_int (fun _ _ => rfl))) da_nil))))))
  (dss_one ds_break)))
   dss_nil)))))))
  (dss_one (ds_if (dt_cmp op_eq sn_eq (de_len T.len_ (de_var 6)) de_int)
   (dss_one ds_break)
   dss_nil)))))))))))
  (dss_one (ds_ret (de_var 6)))))))))
theorem ok_Lfilled (T : Txt K mg) (c_Ltake : Cal P w K mg base CX0 1 "_law_take" ["_law_feed_here", "_law_many"] (feedSp C_Ltake)) {f : Addr} {fd : FuncData} (F : FunD K "_law_filled" "_law_filled" (defArgs s_Lfilled) (defBody s_Lfilled) (defScope s_Lfilled) [] [] f fd) (hm : mg "_law_filled" = some (.ref f))
    (hl : ∀ ds Q, C_Lfilled ds Q → ds.length + 1 = 3) (hC : ∀ ds Q, C_Lfilled ds Q → t_Lfilled (retF Q) (startF N_Lfilled ds)) : Cal P w K mg base CX0 2 "_law_filled" ["_law_feed_here", "_law_sizes_here", "_law_board"] (feedSp C_Lfilled) :=
  ⟨f, fd, fn_feed F sc_Lfilled hl (by decide) (fun cdv A outer s H E hr B => b_Lfilled T c_Ltake hr B) hC, hm, F.kp, F.bindsN fun _ _ _ _ _ _ us hl => match us, hl with | [_, _, _], _ => rfl⟩
/-! ### _law_moved: 0 _law_feed_here, 1 _law_sizes_here, 2 _law_board, 3 _law_ticks, 4 _law_put, 5 _law_side_here, 6 _law_sequence, 7 _law_new, 8 _law_found, 9 _law_one, 10 _law_size, 11 _law_thick, 12 _law_end, 13 _law_two, 14 _law_slack, 15 _law_far, 16 _law_k -/
abbrev N_Lmoved : List Str := ["_law_feed_here", "_law_sizes_here", "_law_board", "_law_ticks", "_law_put", "_law_side_here", "_law_sequence", "_law_new", "_law_found", "_law_one", "_law_size", "_law_thick", "_law_end", "_law_two", "_law_slack", "_law_far", "_law_k"]
theorem sc_Lmoved : FnScope N_Lmoved ["_law_feed_here", "_law_sizes_here", "_law_board", "_law_ticks", "_law_put", "_law_side_here"] (defScope s_Lmoved) := ⟨rfl, rfl, rfl, by decide +kernel, rfl, by decide +kernel, by decide +kernel⟩
def t_Lmoved : DTS :=
  (dSeq (dAsgL 6 (dUL fSortP (dFrz (dLc (dRng1 (dCons (dUn fLen (dVar 4)) dNil)) (dgName 16) dYes (dTup (dCons (dBin fSub (dC (.int 0)) (dBin fIx (dBin fIx (dVar 4) (dVar 16)) (dBin fAdd (dC (.int 2)) (dVar 5)))) (dCons (dVar 16) dNil))) [16]))))
  (dSeq (dAsgL 7 (dUL fListOf (dVar 4)))
  (dSeq (dFor (dSrcL (dVar 6)) (dgName 8)
   (dSeq (dAsg (dBin fIx (dVar 7) (dBin fIx (dVar 8) (dC (.int 1)))) (dgName 9))
  (dSeq (dAsg (dBin fMul (dBin fIx (dBin fIx (dVar 1) (dVar 5)) (dBin fIx (dVar 9) (dVar 5))) (dVar 3)) (dgName 10))
  (dSeq (dAsg (dBin fMul (dBin fIx (dBin fIx (dVar 1) (dBin fSub (dC (.int 1)) (dVar 5))) (dBin fIx (dVar 9) (dBin fSub (dC (.int 1)) (dVar 5)))) (dVar 3)) (dgName 11))
  (dSeq (dAsg (dBin fMul (dBin fIx (dVar 2) (dVar 5)) (dVar 3)) (dgName 12))
  (dSeq (dForO 7 (dgName 13)
   (dIf (dAnd (dTst (dBin fGt (dBin fIx (dVar 13) (dBin fAdd (dC (.int 2)) (dVar 5))) (dBin fIx (dVar 9) (dBin fAdd (dC (.int 2)) (dVar 5))))) (dTst (dBin fLt (dBin fIx (dVar 13) (dBin fSub (dC (.int 3)) (dVar 5))) (dBin fAdd (dBin fIx (dVar 9) (dBin fSub (dC (.int 3)) (dVar 5))) (dVar 11)))))
   (dIf (dTst (dBin fLt (dBin fIx (dVar 9) (dBin fSub (dC (.int 3)) (dVar 5))) (dBin fAdd (dBin fIx (dVar 13) (dBin fSub (dC (.int 3)) (dVar 5))) (dBin fMul (dBin fIx (dBin fIx (dVar 1) (dBin fSub (dC (.int 1)) (dVar 5))) (dBin fIx (dVar 13) (dBin fSub (dC (.int 1)) (dVar 5)))) (dVar 3)))))
   (dAsg (dC2 gMin (dCons (dVar 12) (dCons (dBin fIx (dVar 13) (dBin fAdd (dC (.int 2)) (dVar 5))) dNil))) (dgName 12))
   dNext)
   dNext))
  (dSeq (dAsg (dBin fSub (dBin fSub (dVar 12) (dVar 10)) (dBin fIx (dVar 9) (dBin fAdd (dC (.int 2)) (dVar 5)))) (dgName 14))
  (dSeq (dAsg (dBin fAdd (dBin fIx (dVar 9) (dBin fAdd (dC (.int 2)) (dVar 5))) (dBin fIx (dFrz (dLst (dCons (dC (.int 0)) (dCons (dC (.int 0)) (dCons (dC (.int 0)) (dCons (dVar 14) (dCons (dC2 gMin (dCons (dVar 14) (dCons (dC (.int 1)) dNil))) (dCons (dCallF 0 C_Ltake (dCons (dBin fAdd (dVar 14) (dC (.int 1))) dNil)) dNil)))))))) (dCallF 0 C_Ltake (dCons (dC (.int 6)) dNil)))) (dgName 15))
  (dSetI 7 (dBin fIx (dFrz (dLst (dCons (dBin fCatT (dSlT (dVar 9) dNoPart (dPart (dC (.int 2)))) (dTup (dCons (dVar 15) (dCons (dBin fIx (dVar 9) (dC (.int 3))) dNil)))) (dCons (dBin fCatT (dSlT (dVar 9) dNoPart (dPart (dC (.int 3)))) (dTup (dCons (dVar 15) dNil))) dNil)))) (dVar 5)) (dBin fIx (dVar 8) (dC (.int 1))))))))))))
  (dRet (dVar 7)))))
theorem b_Lmoved (T : Txt K mg) (c_Ltake : Cal P w K mg base CX0 1 "_law_take" ["_law_feed_here", "_law_many"] (feedSp C_Ltake)) {f : Addr} {cdv : Value} {A : Around} {outer : List Env} {s : Shared} {H : Hp} {E : XK} (hr : Room 1 (A.deeper (envOfC "_law_moved" (defScope s_Lmoved) s.heap.objs.size f cdv))) (B : Ent) :
    PSs (cxOf CX0 P w K mg base N_Lmoved "_law_moved" (defScope s_Lmoved) f cdv A outer s H E).nox (defBody s_Lmoved) (liftS B t_Lmoved) := by
  exact (dss_cons (ds_setL (i := 6) sc_Lmoved.nd (dl_sortP T.sorted_ (de_frz (dl_lc [("_law_k", 16)] rfl sc_Lmoved.nd (di_range1 T.range_ (da_cons (de_len T.len_ (de_var 4)) da_nil)) (blkOk_by (N := N_Lmoved) (sc := defScope s_Lmoved) (by decide +kernel)) (blk_name (by decide)) (fun _ _ _ _ _ => pg_name (i := 16) sc_Lmoved.nd rfl (Or.inl rfl)) (fun _ _ _ _ _ => pts_nilD) (fun B _ _ _ _ _ => (de_tup (da_cons (de_bin op_sub sn_sub de_int (de_ix (de_ix (de_var 4) (de_var 16) (fun _ _ => rfl)) (de_bin op_add sn_add de_int (de_var 5)) (fun _ _ => rfl))) (da_cons (de_var 16) da_nil))))))))
  (dss_cons (ds_setL (i := 7) sc_Lmoved.nd (dl_listOf T.list_ (de_var 4)))
  (dss_cons (ds_for PassesOwn.never rfl (di_list (de_var 6)) (dg_name (i := 8) sc_Lmoved.nd)
   (dss_cons (ds_set (i := 9) sc_Lmoved.nd (de_ix (de_var 7) (de_ix (de_var 8) de_int (fun _ _ => rfl)) (fun _ _ => rfl)))
  (dss_cons (ds_set (i := 10) sc_Lmoved.nd (de_bin op_mul sn_mul (de_ix (de_ix (de_var 1) (de_var 5) (fun _ _ => rfl)) (de_ix (de_var 9) (de_var 5) (fun _ _ => rfl)) (fun _ _ => rfl)) (de_var 3)))
  (dss_cons (ds_set (i := 11) sc_Lmoved.nd (de_bin op_mul sn_mul (de_ix (de_ix (de_var 1) (de_bin op_sub sn_sub de_int (de_var 5)) (fun _ _ => rfl)) (de_ix (de_var 9) (de_bin op_sub sn_sub de_int (de_var 5)) (fun _ _ => rfl)) (fun _ _ => rfl)) (de_var 3)))
  (dss_cons (ds_set (i := 12) sc_Lmoved.nd (de_bin op_mul sn_mul (de_ix (de_var 2) (de_var 5) (fun _ _ => rfl)) (de_var 3)))
  (dss_cons (ds_forO (i := 7) PassesOwn.never rfl (fun _ => (dg_name (i := 13) sc_Lmoved.nd))
   (fun _ => (dss_one (ds_if (L2.PW.pt (dw_and (dt_cmp op_gt sn_gt (de_ix (de_var 13) (de_bin op_add sn_add de_int (de_var 5)) (fun _ _ => rfl)) (de_ix (de_var 9) (de_bin op_add sn_add de_int (de_var 5)) (fun _ _ => rfl))) (dw_and1 (dt_cmp op_lt sn_lt (de_ix (de_var 13) (de_bin op_sub sn_sub de_int (de_var 5)) (fun _ _ => rfl)) (de_bin op_add sn_add (de_ix (de_var 9) (de_bin op_sub sn_sub de_int (de_var 5)) (fun _ _ => rfl)) (de_var 11))))))
   (dss_one (ds_if (dt_cmp op_lt sn_lt (de_ix (de_var 9) (de_bin op_sub sn_sub de_int (de_var 5)) (fun _ _ => rfl)) (de_bin op_add sn_add (de_ix (de_var 13) (de_bin op_sub sn_sub de_int (de_var 5)) (fun _ _ => rfl)) (de_bin op_mul sn_mul (de_ix (de_ix (de_var 1) (de_bin op_sub sn_sub de_int (de_var 5)) (fun _ _ => rfl)) (de_ix (de_var 13) (de_bin op_sub sn_sub de_int (de_var 5)) (fun _ _ => rfl)) (fun _ _ => rfl)) (de_var 3))))
   (dss_one (ds_set (i := 12) sc_Lmoved.nd (de_min2 rfl T.min_ (da_cons (de_var 12) (da_cons (de_ix (de_var 13) (de_bin op_add sn_add de_int (de_var 5)) (fun _ _ => rfl)) da_nil)))))
   dss_nil))
   dss_nil))))
  (dss_cons (ds_set (i := 14) sc_Lmoved.nd (de_bin op_sub sn_sub (de_bin op_sub sn_sub (de_var 12) (de_var 10)) (de_ix (de_var 9) (de_bin op_add sn_add de_int (de_var 5)) (fun _ _ => rfl))))
  (dss_cons (ds_set (i := 15) sc_Lmoved.nd (de_bin op_add sn_add (de_ix (de_var 9) (de_bin op_add sn_add de_int (de_var 5)) (fun _ _ => rfl)) (de_ix (de_frz (dl_lst (da_cons de_int (da_cons de_int (da_cons de_int (da_cons (de_var 14) (da_cons (de_min2 rfl T.min_ (da_cons (de_var 14) (da_cons de_int da_nil))) (da_cons (de_callFC 0 c_Ltake (hr.mono (by decide)) (da_cons (de_bin op_add sn_add (de_var 14) de_int) da_nil)) da_nil)))))))) (de_callFC 0 c_Ltake (hr.mono (by decide)) (da_cons de_int da_nil)) (fun _ _ => rfl))))
  (dss_one (ds_setI (i := 7) (he := (de_ix (de_frz (dl_lst (da_cons (de_bin op_catA sn_catT (de_slT (de_var 9) do_none (do_some de_int)) (de_tup (da_cons (de_var 15) (da_cons (de_ix (de_var 9) de_int (fun _ _ => rfl)) da_nil)))) (da_cons (de_bin op_catA sn_catT (de_slT (de_var 9) do_none (do_some de_int)) (de_tup (da_cons (de_var 15) da_nil))) da_nil)))) (de_var 5) (fun _ _ => rfl))) (hi := (de_ix (de_var 8) de_int (fun _ _ => rfl)))))))))))))
  (dss_one (ds_ret (de_var 7))))))
theorem ok_Lmoved (T : Txt K mg) (c_Ltake : Cal P w K mg base CX0 1 "_law_take" ["_law_feed_here", "_law_many"] (feedSp C_Ltake)) {f : Addr} {fd : FuncData} (F : FunD K "_law_moved" "_law_moved" (defArgs s_Lmoved) (defBody s_Lmoved) (defScope s_Lmoved) [] [] f fd) (hm : mg "_law_moved" = some (.ref f))
    (hl : ∀ ds Q, C_Lmoved ds Q → ds.length + 1 = 6) (hC : ∀ ds Q, C_Lmoved ds Q → t_Lmoved (retF Q) (startF N_Lmoved ds)) : Cal P w K mg base CX0 2 "_law_moved" ["_law_feed_here", "_law_sizes_here", "_law_board", "_law_ticks", "_law_put", "_law_side_here"] (feedSp C_Lmoved) :=
  ⟨f, fd, fn_feed F sc_Lmoved hl (by decide) (fun cdv A outer s H E hr B => b_Lmoved T c_Ltake hr B) hC, hm, F.kp, F.bindsN fun _ _ _ _ _ _ us hl => match us, hl with | [_, _, _, _, _, _], _ => rfl⟩
end
end K28
end
section
set_option Elab.async false
set_option linter.all false
set_option maxRecDepth 100000
set_option maxHeartbeats 4000000
namespace K28
open PySem PySem.Spec PyProof.Rows L2 DL
section
variable {P : Program} {w : World} {K : PySem.W.Frag} {mg : Str → Option Value} {base : Heap}
/-! ### _law_scene: 0 _law_feed_here, 1 _law_sizes_here, 2 _law_store, 3 _law_ticks, 4 _law_spots, 5 _law_done, 6 _law_group, 7 _law_board, 8 _law_leaf, 9 _law_put, 10 _law_away, 11 _law_turn, 12 _law_one -/
abbrev N_Lscene : List Str := ["_law_feed_here", "_law_sizes_here", "_law_store", "_law_ticks", "_law_spots", "_law_done", "_law_group", "_law_board", "_law_leaf", "_law_put", "_law_away", "_law_turn", "_law_one"]
theorem sc_Lscene : FnScope N_Lscene ["_law_feed_here"] (defScope s_Lscene) := ⟨rfl, rfl, rfl, by decide +kernel, rfl, by decide +kernel, by decide +kernel⟩
def t_Lscene : DTS :=
  (dSeq (dAsg (dCallF 0 C_Lsizes dNil) (dgName 1))
  (dSeq (dAsg (dCallF 0 C_Lstock (dCons (dVar 1) dNil)) (dgName 2))
  (dSeq (dAsg (dBin fIx (dFrz (dLst (dCons (dC (.int 1)) (dCons (dC (.int 2)) (dCons (dC (.int 2)) (dCons (dC (.int 3)) (dCons (dC (.int 2)) (dCons (dC (.int 5)) (dCons (dC (.int 3)) (dCons (dC (.int 7)) dNil)))))))))) (dCallF 0 C_Ltake (dCons (dC (.int 8)) dNil))) (dgName 3))
  (dSeq (dIf (dTst (dBin fGt (dUn fMaxL (dFrz (dCatL (dFrz (dLst (dCons (dC (.int 0)) dNil))) (dFrz (dLc (dSrcT (dVar 2)) (dgName 7) dYes (dBin fMul (dBin fIx (dVar 7) (dC (.int 0))) (dBin fIx (dVar 7) (dC (.int 1)))) [7]))))) (dC (.int 30))))
   (dAsg (dC2 gMin (dCons (dVar 3) (dCons (dC (.int 3)) dNil))) (dgName 3))
   dNext)
  (dSeq (dAsgL 4 (dLst dNil))
  (dSeq (dAsgL 5 (dLst dNil))
  (dSeq (dFor (dRng1 (dCons (dUn fLen (dVar 2)) dNil)) (dgName 6)
   (dSeq (dAsg (dBin fIx (dVar 2) (dVar 6)) (dgName 7))
  (dFor (dSrcL (dFrz (dLst (dCons (dC (.int 0)) (dCons (dBin fSub (dBin fIx (dVar 7) (dC (.int 2))) (dC (.int 1))) dNil))))) (dgName 8)
   (dIf (dAnd (dTst (dBin fNotInP (dTup (dCons (dVar 6) (dCons (dVar 8) dNil))) (dVar 4))) (dOr (dTst (dBin fEq (dUn fLen (dVar 4)) (dC (.int 0)))) (dTst (dBin fGt (dCallF 0 C_Ltake (dCons (dC (.int 7)) dNil)) (dC (.int 0))))))
   (dSeq (dApp 4 (dTup (dCons (dVar 6) (dCons (dVar 8) dNil))))
  (dSeq (dAsg (dCallF 0 C_Lfilled (dCons (dVar 1) (dCons (dVar 7) dNil))) (dgName 9))
  (dSeq (dAsg (dBin fIx (dFrz (dLst (dCons (dC (.int 0)) (dCons (dC (.int 0)) (dCons (dC (.int 1)) (dCons (dC (.int 1)) (dCons (dC (.int 2)) (dCons (dC (.int 20)) dNil)))))))) (dCallF 0 C_Ltake (dCons (dC (.int 6)) dNil))) (dgName 10))
  (dSeq (dAsg (dCallF 0 C_Ltake (dCons (dBin fAdd (dUn fLen (dVar 9)) (dC (.int 1))) dNil)) (dgName 11))
  (dSeq (dAsgL 9 (dSlL (dFrz (dCatL (dFrz (dSlL (dVar 9) (dPart (dVar 11)) dNoPart)) (dFrz (dSlL (dVar 9) dNoPart (dPart (dVar 11)))))) (dPart (dVar 10)) dNoPart))
  (dSeq (dAsgL 9 (dLc (dSrcL (dVar 9)) (dgName 12) dYes (dBin fCatT (dSlT (dVar 12) dNoPart (dPart (dC (.int 2)))) (dTup (dCons (dBin fMul (dBin fIx (dVar 12) (dC (.int 2))) (dVar 3)) (dCons (dBin fMul (dBin fIx (dVar 12) (dC (.int 3))) (dVar 3)) dNil)))) [12]))
  (dSeq (dAsg (dCallF 0 C_Lmoved (dCons (dVar 1) (dCons (dVar 7) (dCons (dVar 3) (dCons (dVar 9) (dCons (dC (.int 0)) dNil)))))) (dgName 9))
  (dSeq (dAsg (dCallF 0 C_Lmoved (dCons (dVar 1) (dCons (dVar 7) (dCons (dVar 3) (dCons (dVar 9) (dCons (dC (.int 1)) dNil)))))) (dgName 9))
  (dFor (dSrcL (dVar 9)) (dgName 12)
   (dIns 5 (dCons (dCallF 0 C_Ltake (dCons (dBin fAdd (dUn fLen (dVar 5)) (dC (.int 1))) dNil)) (dCons (dBin fCatT (dBin fCatT (dSlT (dVar 12) dNoPart (dPart (dC (.int 2)))) (dTup (dCons (dVar 6) (dCons (dVar 8) dNil)))) (dSlT (dVar 12) (dPart (dC (.int 2))) dNoPart)) dNil))))))))))))
   dNext))))
  (dRet (dFrz (dLst (dCons (dVar 1) (dCons (dVar 2) (dCons (dVar 3) (dCons (dFrz (dSlL (dVar 5) dNoPart (dPart (dC (.int 58))))) dNil))))))))))))))
theorem b_Lscene (T : Txt K mg) (c_Lsizes : Cal P w K mg base CX0 2 "_law_sizes" ["_law_feed_here"] (feedSp C_Lsizes)) (c_Lstock : Cal P w K mg base CX0 3 "_law_stock" ["_law_feed_here", "_law_sizes_here"] (feedSp C_Lstock)) (c_Ltake : Cal P w K mg base CX0 1 "_law_take" ["_law_feed_here", "_law_many"] (feedSp C_Ltake)) (c_Lfilled : Cal P w K mg base CX0 2 "_law_filled" ["_law_feed_here", "_law_sizes_here", "_law_board"] (feedSp C_Lfilled)) (c_Lmoved : Cal P w K mg base CX0 2 "_law_moved" ["_law_feed_here", "_law_sizes_here", "_law_board", "_law_ticks", "_law_put", "_law_side_here"] (feedSp C_Lmoved)) {f : Addr} {cdv : Value} {A : Around} {outer : List Env} {s : Shared} {H : Hp} {E : XK} (hr : Room 3 (A.deeper (envOfC "_law_scene" (defScope s_Lscene) s.heap.objs.size f cdv))) (B : Ent) :
    PSs (cxOf CX0 P w K mg base N_Lscene "_law_scene" (defScope s_Lscene) f cdv A outer s H E).nox (defBody s_Lscene) (liftS B t_Lscene) := by
  exact (dss_cons (ds_set (i := 1) sc_Lscene.nd (de_callFC 0 c_Lsizes (hr.mono (by decide)) da_nil))
  (dss_cons (ds_set (i := 2) sc_Lscene.nd (de_callFC 0 c_Lstock (hr.mono (by decide)) (da_cons (de_var 1) da_nil)))
  (dss_cons (ds_set (i := 3) sc_Lscene.nd (de_ix (de_frz (dl_lst (da_cons de_int (da_cons de_int (da_cons de_int (da_cons de_int (da_cons de_int (da_cons de_int (da_cons de_int (da_cons de_int da_nil)))))))))) (de_callFC 0 c_Ltake (hr.mono (by decide)) (da_cons de_int da_nil)) (fun _ _ => rfl)))
  (dss_cons (ds_if (dt_cmp op_gt sn_gt (de_maxL rfl T.max_ (de_frz (dl_cat (de_frz (dl_lst (da_cons de_int da_nil))) (de_frz (dl_lc [("_law_board", 7)] rfl sc_Lscene.nd (di_tup (de_var 2)) (blkOk_by (N := N_Lscene) (sc := defScope s_Lscene) (by decide +kernel)) (blk_name (by decide)) (fun _ _ _ _ _ => pg_name (i := 7) sc_Lscene.nd rfl (Or.inl rfl)) (fun _ _ _ _ _ => pts_nilD) (fun B _ _ _ _ _ => (de_bin op_mul sn_mul (de_ix (de_var 7) de_int (fun _ _ => rfl)) (de_ix (de_var 7) de_int (fun _ _ => rfl))))))))) de_int)
   (dss_one (ds_set (i := 3) sc_Lscene.nd (de_min2 rfl T.min_ (da_cons (de_var 3) (da_cons de_int da_nil)))))
   dss_nil)
  (dss_cons (ds_setL (i := 4) sc_Lscene.nd (dl_lst da_nil))
  (dss_cons (ds_setL (i := 5) sc_Lscene.nd (dl_lst da_nil))
  (dss_cons (ds_for PassesOwn.never rfl (di_range1 T.range_ (da_cons (de_len T.len_ (de_var 2)) da_nil)) (dg_name (i := 6) sc_Lscene.nd)
   (dss_cons (ds_set (i := 7) sc_Lscene.nd (de_ix (de_var 2) (de_var 6) (fun _ _ => rfl)))
  (dss_one (ds_for PassesOwn.never rfl (di_list (de_frz (dl_lst (da_cons de_int (da_cons (de_bin op_sub sn_sub (de_ix (de_var 7) de_int (fun _ _ => rfl)) de_int) da_nil))))) (dg_name (i := 8) sc_Lscene.nd)
   (dss_one (ds_if (L2.PW.pt (dw_and (dt_cmp (op_notInD (hu65 hr)) sn_notInP (de_tup (da_cons (de_var 6) (da_cons (de_var 8) da_nil))) (de_var 4)) (dw_and1 (L2.PW.pt (dw_or (dt_cmp op_eq sn_eq (de_len T.len_ (de_var 4)) de_int) (dw_or1 (dt_cmp op_gt sn_gt (de_callFC 0 c_Ltake (hr.mono (by decide)) (da_cons de_int da_nil)) de_int)))))))
   (dss_cons (ds_app (i := 4) (he := (de_tup (da_cons (de_var 6) (da_cons (de_var 8) da_nil)))))
  (dss_cons (ds_set (i := 9) sc_Lscene.nd (de_callFC 0 c_Lfilled (hr.mono (by decide)) (da_cons (de_var 1) (da_cons (de_var 7) da_nil))))
  (dss_cons (ds_set (i := 10) sc_Lscene.nd (de_ix (de_frz (dl_lst (da_cons de_int (da_cons de_int (da_cons de_int (da_cons de_int (da_cons de_int (da_cons de_int da_nil)))))))) (de_callFC 0 c_Ltake (hr.mono (by decide)) (da_cons de_int da_nil)) (fun _ _ => rfl)))
  (dss_cons (ds_set (i := 11) sc_Lscene.nd (de_callFC 0 c_Ltake (hr.mono (by decide)) (da_cons (de_bin op_add sn_add (de_len T.len_ (de_var 9)) de_int) da_nil)))
  (dss_cons (ds_setL (i := 9) sc_Lscene.nd (dl_slL (de_frz (dl_cat (de_frz (dl_slL (de_var 9) (do_some (de_var 11)) do_none)) (de_frz (dl_slL (de_var 9) do_none (do_some (de_var 11)))))) (do_some (de_var 10)) do_none))
  (dss_cons (ds_setLc (i := 9) [("_law_one", 12)] rfl sc_Lscene.nd (di_list (de_var 9)) (blkOk_by (N := N_Lscene) (sc := defScope s_Lscene) (by decide +kernel)) (blk_name (by decide)) (fun _ _ _ _ _ => pg_name (i := 12) sc_Lscene.nd rfl (Or.inl rfl)) (fun _ _ _ _ _ => pts_nilD) (fun B _ _ _ _ _ => (de_bin op_catA sn_catT (de_slT (de_var 12) do_none (do_some de_int)) (de_tup (da_cons (de_bin op_mul sn_mul (de_ix (de_var 12) de_int (fun _ _ => rfl)) (de_var 3)) (da_cons (de_bin op_mul sn_mul (de_ix (de_var 12) de_int (fun _ _ => rfl)) (de_var 3)) da_nil))))) (sw_true rfl rfl rfl (by decide +kernel)))
  (dss_cons (ds_set (i := 9) sc_Lscene.nd (de_callFC 0 c_Lmoved (hr.mono (by decide)) (da_cons (de_var 1) (da_cons (de_var 7) (da_cons (de_var 3) (da_cons (de_var 9) (da_cons de_int da_nil)))))))
  (dss_cons (ds_set (i := 9) sc_Lscene.nd (de_callFC 0 c_Lmoved (hr.mono (by decide)) (da_cons (de_var 1) (da_cons (de_var 7) (da_cons (de_var 3) (da_cons (de_var 9) (da_cons de_int da_nil)))))))
  (dss_one (ds_for PassesOwn.never rfl (di_list (de_var 9)) (dg_name (i := 12) sc_Lscene.nd)
   (dss_one (ds_ins (i := 5) (ha := (da_cons (de_callFC 0 c_Ltake (hr.mono (by decide)) (da_cons (de_bin op_add sn_add (de_len T.len_ (de_var 5)) de_int) da_nil)) (da_cons (de_bin op_catA sn_catT (de_bin op_catA sn_catT (de_slT (de_var 12) do_none (do_some de_int)) (de_tup (da_cons (de_var 6) (da_cons (de_var 8) da_nil)))) (de_slT (de_var 12) (do_some de_int) do_none)) da_nil)))))))))))))))
   dss_nil))))))
  (dss_one (ds_ret (de_frz (dl_lst (da_cons (de_var 1) (da_cons (de_var 2) (da_cons (de_var 3) (da_cons (de_frz (dl_slL (de_var 5) do_none (do_some de_int))) da_nil)))))))))))))))
theorem ok_Lscene (T : Txt K mg) (c_Lsizes : Cal P w K mg base CX0 2 "_law_sizes" ["_law_feed_here"] (feedSp C_Lsizes)) (c_Lstock : Cal P w K mg base CX0 3 "_law_stock" ["_law_feed_here", "_law_sizes_here"] (feedSp C_Lstock)) (c_Ltake : Cal P w K mg base CX0 1 "_law_take" ["_law_feed_here", "_law_many"] (feedSp C_Ltake)) (c_Lfilled : Cal P w K mg base CX0 2 "_law_filled" ["_law_feed_here", "_law_sizes_here", "_law_board"] (feedSp C_Lfilled)) (c_Lmoved : Cal P w K mg base CX0 2 "_law_moved" ["_law_feed_here", "_law_sizes_here", "_law_board", "_law_ticks", "_law_put", "_law_side_here"] (feedSp C_Lmoved)) {f : Addr} {fd : FuncData} (F : FunD K "_law_scene" "_law_scene" (defArgs s_Lscene) (defBody s_Lscene) (defScope s_Lscene) [] [] f fd) (hm : mg "_law_scene" = some (.ref f))
    (hl : ∀ ds Q, C_Lscene ds Q → ds.length + 1 = 1) (hC : ∀ ds Q, C_Lscene ds Q → t_Lscene (retF Q) (startF N_Lscene ds)) : Cal P w K mg base CX0 4 "_law_scene" ["_law_feed_here"] (feedSp C_Lscene) :=
  ⟨f, fd, fn_feed F sc_Lscene hl (by decide) (fun cdv A outer s H E hr B => b_Lscene T c_Lsizes c_Lstock c_Ltake c_Lfilled c_Lmoved hr B) hC, hm, F.kp, F.bindsN fun _ _ _ _ _ _ us hl => match us, hl with | [_], _ => rfl⟩
/-! ### _law_open: 0 _law_scene_here, 1 _law_kind, 2 _law_group, 3 _law_leaf, 4 _law_board, 5 _law_sizes_here, 6 _law_wide, 7 _law_high, 8 _law_ticks, 9 _law_cols, 10 _law_taken, 11 _law_one, 12 _law_mask, 13 _law_r, 14 _law_c -/
abbrev N_Lopen : List Str := ["_law_scene_here", "_law_kind", "_law_group", "_law_leaf", "_law_board", "_law_sizes_here", "_law_wide", "_law_high", "_law_ticks", "_law_cols", "_law_taken", "_law_one", "_law_mask", "_law_r", "_law_c"]
theorem sc_Lopen : FnScope N_Lopen ["_law_scene_here", "_law_kind", "_law_group", "_law_leaf"] (defScope s_Lopen) := ⟨rfl, rfl, rfl, by decide +kernel, rfl, by decide +kernel, by decide +kernel⟩
def t_Lopen : DTS :=
  (dSeq (dAsg (dBin fIx (dBin fIx (dVar 0) (dC (.int 1))) (dVar 2)) (dgName 4))
  (dSeq (dAsg (dBin fIx (dVar 0) (dC (.int 0))) (dgName 5))
  (dSeq (dAsg (dBin fIx (dBin fIx (dVar 5) (dC (.int 0))) (dBin fIx (dVar 1) (dC (.int 0)))) (dgName 6))
  (dSeq (dAsg (dBin fIx (dBin fIx (dVar 5) (dC (.int 1))) (dBin fIx (dVar 1) (dC (.int 1)))) (dgName 7))
  (dSeq (dIf (dOr (dTst (dBin fGt (dVar 6) (dBin fIx (dVar 4) (dC (.int 0))))) (dTst (dBin fGt (dVar 7) (dBin fIx (dVar 4) (dC (.int 1))))))
   (dRet (dC (.bl false)))
   dNext)
  (dSeq (dIf (dTst (dBin fGt (dC2 gMax (dCons (dBin fIx (dVar 4) (dC (.int 0))) (dCons (dBin fIx (dVar 4) (dC (.int 1))) dNil))) (dC (.int 1000000))))
   (dRet (dC (.bl true)))
   dNext)
  (dSeq (dAsg (dBin fIx (dVar 0) (dC (.int 2))) (dgName 8))
  (dSeq (dAsg (dBin fMul (dBin fIx (dVar 4) (dC (.int 0))) (dVar 8)) (dgName 9))
  (dSeq (dAsg (dC (.int 0)) (dgName 10))
  (dSeq (dFor (dSrcL (dBin fIx (dVar 0) (dC (.int 3)))) (dgName 11)
   (dIf (dAnd (dTst (dBin fEq (dBin fIx (dVar 11) (dC (.int 2))) (dVar 2))) (dTst (dBin fEq (dBin fIx (dVar 11) (dC (.int 3))) (dVar 3))))
   (dSeq (dAsg (dCall C_Lblock (dCons (dBin fMul (dBin fIx (dBin fIx (dVar 5) (dC (.int 0))) (dBin fIx (dVar 11) (dC (.int 0)))) (dVar 8)) (dCons (dBin fMul (dBin fIx (dBin fIx (dVar 5) (dC (.int 1))) (dBin fIx (dVar 11) (dC (.int 1)))) (dVar 8)) (dCons (dVar 9) dNil)))) (dgName 12))
  (dAsg (dBin fOr (dVar 10) (dBin fShl (dVar 12) (dBin fAdd (dBin fIx (dVar 11) (dC (.int 4))) (dBin fMul (dBin fIx (dVar 11) (dC (.int 5))) (dVar 9))))) (dgName 10)))
   dNext))
  (dSeq (dAsg (dCall C_Lblock (dCons (dBin fMul (dVar 6) (dVar 8)) (dCons (dBin fMul (dVar 7) (dVar 8)) (dCons (dVar 9) dNil)))) (dgName 12))
  (dSeq (dFor (dRng1 (dCons (dBin fAdd (dBin fMul (dBin fSub (dBin fIx (dVar 4) (dC (.int 1))) (dVar 7)) (dVar 8)) (dC (.int 1))) dNil)) (dgName 13)
   (dFor (dRng1 (dCons (dBin fAdd (dBin fMul (dBin fSub (dBin fIx (dVar 4) (dC (.int 0))) (dVar 6)) (dVar 8)) (dC (.int 1))) dNil)) (dgName 14)
   (dIf (dTst (dBin fEq (dBin fAnd (dVar 10) (dBin fShl (dVar 12) (dBin fAdd (dVar 14) (dBin fMul (dVar 13) (dVar 9))))) (dC (.int 0))))
   (dRet (dC (.bl true)))
   dNext)))
  (dRet (dC (.bl false)))))))))))))))
theorem b_Lopen (T : Txt K mg) (c_Lblock : Cal P w K mg base CX0 1 "_law_block" ["_law_wide", "_law_high", "_law_cols"] (pureSp C_Lblock)) {f : Addr} {cdv : Value} {A : Around} {outer : List Env} {s : Shared} {H : Hp} {E : XK} (hr : Room 1 (A.deeper (envOfC "_law_open" (defScope s_Lopen) s.heap.objs.size f cdv))) (B : Ent) :
    PSs (cxOf CX0 P w K mg base N_Lopen "_law_open" (defScope s_Lopen) f cdv A outer s H E).nox (defBody s_Lopen) (liftS B t_Lopen) := by
  exact (dss_cons (ds_set (i := 4) sc_Lopen.nd (de_ix (de_ix (de_var 0) de_int (fun _ _ => rfl)) (de_var 2) (fun _ _ => rfl)))
  (dss_cons (ds_set (i := 5) sc_Lopen.nd (de_ix (de_var 0) de_int (fun _ _ => rfl)))
  (dss_cons (ds_set (i := 6) sc_Lopen.nd (de_ix (de_ix (de_var 5) de_int (fun _ _ => rfl)) (de_ix (de_var 1) de_int (fun _ _ => rfl)) (fun _ _ => rfl)))
  (dss_cons (ds_set (i := 7) sc_Lopen.nd (de_ix (de_ix (de_var 5) de_int (fun _ _ => rfl)) (de_ix (de_var 1) de_int (fun _ _ => rfl)) (fun _ _ => rfl)))
  (dss_cons (ds_if (L2.PW.pt (dw_or (dt_cmp op_gt sn_gt (de_var 6) (de_ix (de_var 4) de_int (fun _ _ => rfl))) (dw_or1 (dt_cmp op_gt sn_gt (de_var 7) (de_ix (de_var 4) de_int (fun _ _ => rfl))))))
   (dss_one (ds_ret de_bl))
   dss_nil)
  (dss_cons (ds_if (dt_cmp op_gt sn_gt (de_max2 rfl T.max_ (da_cons (de_ix (de_var 4) de_int (fun _ _ => rfl)) (da_cons (de_ix (de_var 4) de_int (fun _ _ => rfl)) da_nil))) (de_pow (n := 1000000) ⟨by decide, by decide, by decide⟩ (by decide)))
   (dss_one (ds_ret de_bl))
   dss_nil)
  (dss_cons (ds_set (i := 8) sc_Lopen.nd (de_ix (de_var 0) de_int (fun _ _ => rfl)))
  (dss_cons (ds_set (i := 9) sc_Lopen.nd (de_bin op_mul sn_mul (de_ix (de_var 4) de_int (fun _ _ => rfl)) (de_var 8)))
  (dss_cons (ds_set (i := 10) sc_Lopen.nd de_int)
  (dss_cons (ds_for PassesOwn.never rfl (di_list (de_ix (de_var 0) de_int (fun _ _ => rfl))) (dg_name (i := 11) sc_Lopen.nd)
   (dss_one (ds_if (L2.PW.pt (dw_and (dt_cmp op_eq sn_eq (de_ix (de_var 11) de_int (fun _ _ => rfl)) (de_var 2)) (dw_and1 (dt_cmp op_eq sn_eq (de_ix (de_var 11) de_int (fun _ _ => rfl)) (de_var 3)))))
   (dss_cons (ds_set (i := 12) sc_Lopen.nd (de_callC c_Lblock (hr.mono (by decide)) (da_cons (de_bin op_mul sn_mul (de_ix (de_ix (de_var 5) de_int (fun _ _ => rfl)) (de_ix (de_var 11) de_int (fun _ _ => rfl)) (fun _ _ => rfl)) (de_var 8)) (da_cons (de_bin op_mul sn_mul (de_ix (de_ix (de_var 5) de_int (fun _ _ => rfl)) (de_ix (de_var 11) de_int (fun _ _ => rfl)) (fun _ _ => rfl)) (de_var 8)) (da_cons (de_var 9) da_nil)))))
  (dss_one (ds_set (i := 10) sc_Lopen.nd (de_bin op_or sn_or (de_var 10) (de_bin op_shlW sn_shl (de_var 12) (de_bin op_add sn_add (de_ix (de_var 11) de_int (fun _ _ => rfl)) (de_bin op_mul sn_mul (de_ix (de_var 11) de_int (fun _ _ => rfl)) (de_var 9))))))))
   dss_nil)))
  (dss_cons (ds_set (i := 12) sc_Lopen.nd (de_callC c_Lblock (hr.mono (by decide)) (da_cons (de_bin op_mul sn_mul (de_var 6) (de_var 8)) (da_cons (de_bin op_mul sn_mul (de_var 7) (de_var 8)) (da_cons (de_var 9) da_nil)))))
  (dss_cons (ds_for PassesOwn.never rfl (di_range1 T.range_ (da_cons (de_bin op_add sn_add (de_bin op_mul sn_mul (de_bin op_sub sn_sub (de_ix (de_var 4) de_int (fun _ _ => rfl)) (de_var 7)) (de_var 8)) de_int) da_nil)) (dg_name (i := 13) sc_Lopen.nd)
   (dss_one (ds_for PassesOwn.never rfl (di_range1 T.range_ (da_cons (de_bin op_add sn_add (de_bin op_mul sn_mul (de_bin op_sub sn_sub (de_ix (de_var 4) de_int (fun _ _ => rfl)) (de_var 6)) (de_var 8)) de_int) da_nil)) (dg_name (i := 14) sc_Lopen.nd)
   (dss_one (ds_if (dt_cmp op_eq sn_eq (de_bin op_and sn_and (de_var 10) (de_bin op_shlW sn_shl (de_var 12) (de_bin op_add sn_add (de_var 14) (de_bin op_mul sn_mul (de_var 13) (de_var 9))))) de_int)
   (dss_one (ds_ret de_bl))
   dss_nil)))))
  (dss_one (ds_ret de_bl))))))))))))))
theorem ok_Lopen (T : Txt K mg) (c_Lblock : Cal P w K mg base CX0 1 "_law_block" ["_law_wide", "_law_high", "_law_cols"] (pureSp C_Lblock)) {f : Addr} {fd : FuncData} (F : FunD K "_law_open" "_law_open" (defArgs s_Lopen) (defBody s_Lopen) (defScope s_Lopen) [] [] f fd) (hm : mg "_law_open" = some (.ref f))
    (hl : ∀ ds Q, C_Lopen ds Q → ds.length = 4) (hC : ∀ ds Q, C_Lopen ds Q → t_Lopen (retE Q) (startD N_Lopen ds)) : Cal P w K mg base CX0 2 "_law_open" ["_law_scene_here", "_law_kind", "_law_group", "_law_leaf"] (pureSp C_Lopen) :=
  ⟨f, fd, fn_pure F sc_Lopen hl (by decide) (fun cdv A outer s H E hr B => b_Lopen T c_Lblock hr B) hC, hm, F.kp, F.bindsN fun _ _ _ _ _ _ us hl => match us, hl with | [_, _, _, _], _ => rfl⟩
/-! ### _law_any: 0 _law_scene_here, 1 _law_kind, 2 _law_group, 3 _law_seen, 4 _law_one, 5 _law_board, 6 _law_fits_here, 7 _law_leaf -/
abbrev N_Lany : List Str := ["_law_scene_here", "_law_kind", "_law_group", "_law_seen", "_law_one", "_law_board", "_law_fits_here", "_law_leaf"]
theorem sc_Lany : FnScope N_Lany ["_law_scene_here", "_law_kind"] (defScope s_Lany) := ⟨rfl, rfl, rfl, by decide +kernel, rfl, by decide +kernel, by decide +kernel⟩
def t_Lany : DTS :=
  (dSeq (dFor (dRng1 (dCons (dUn fLen (dBin fIx (dVar 0) (dC (.int 1)))) dNil)) (dgName 2)
   (dSeq (dAsgL 3 (dLst dNil))
  (dSeq (dFor (dSrcL (dBin fIx (dVar 0) (dC (.int 3)))) (dgName 4)
   (dIf (dAnd (dTst (dBin fEq (dBin fIx (dVar 4) (dC (.int 2))) (dVar 2))) (dTst (dBin fNotInI (dBin fIx (dVar 4) (dC (.int 3))) (dVar 3))))
   (dApp 3 (dBin fIx (dVar 4) (dC (.int 3))))
   dNext))
  (dSeq (dAsg (dBin fIx (dBin fIx (dVar 0) (dC (.int 1))) (dVar 2)) (dgName 5))
  (dSeq (dAsg (dAndV (dBin fLe (dBin fIx (dBin fIx (dBin fIx (dVar 0) (dC (.int 0))) (dC (.int 0))) (dBin fIx (dVar 1) (dC (.int 0)))) (dBin fIx (dVar 5) (dC (.int 0)))) (dBin fLe (dBin fIx (dBin fIx (dBin fIx (dVar 0) (dC (.int 0))) (dC (.int 1))) (dBin fIx (dVar 1) (dC (.int 1)))) (dBin fIx (dVar 5) (dC (.int 1))))) (dgName 6))
  (dSeq (dIf (dAnd (dTst (dVar 6)) (dTst (dBin fLt (dUn fLen (dVar 3)) (dBin fIx (dVar 5) (dC (.int 2))))))
   (dRet (dC (.bl true)))
   dNext)
  (dIf (dTst (dBin fGt (dUn fLen (dFrz (dLc (dSrcL (dVar 3)) (dgName 7) (dTst (dCall C_Lopen (dCons (dVar 0) (dCons (dVar 1) (dCons (dVar 2) (dCons (dVar 7) dNil)))))) (dC (.int 1)) [7]))) (dC (.int 0))))
   (dRet (dC (.bl true)))
   dNext)))))))
  (dRet (dC (.bl false))))
theorem b_Lany (T : Txt K mg) (c_Lopen : Cal P w K mg base CX0 2 "_law_open" ["_law_scene_here", "_law_kind", "_law_group", "_law_leaf"] (pureSp C_Lopen)) {f : Addr} {cdv : Value} {A : Around} {outer : List Env} {s : Shared} {H : Hp} {E : XK} (hr : Room 2 (A.deeper (envOfC "_law_any" (defScope s_Lany) s.heap.objs.size f cdv))) (B : Ent) :
    PSs (cxOf CX0 P w K mg base N_Lany "_law_any" (defScope s_Lany) f cdv A outer s H E).nox (defBody s_Lany) (liftS B t_Lany) := by
  exact (dss_cons (ds_for PassesOwn.never rfl (di_range1 T.range_ (da_cons (de_len T.len_ (de_ix (de_var 0) de_int (fun _ _ => rfl))) da_nil)) (dg_name (i := 2) sc_Lany.nd)
   (dss_cons (ds_setL (i := 3) sc_Lany.nd (dl_lst da_nil))
  (dss_cons (ds_for PassesOwn.never rfl (di_list (de_ix (de_var 0) de_int (fun _ _ => rfl))) (dg_name (i := 4) sc_Lany.nd)
   (dss_one (ds_if (L2.PW.pt (dw_and (dt_cmp op_eq sn_eq (de_ix (de_var 4) de_int (fun _ _ => rfl)) (de_var 2)) (dw_and1 (dt_cmp op_notIn_seq sn_notInI (de_ix (de_var 4) de_int (fun _ _ => rfl)) (de_var 3)))))
   (dss_one (ds_app (i := 3) (he := (de_ix (de_var 4) de_int (fun _ _ => rfl)))))
   dss_nil)))
  (dss_cons (ds_set (i := 5) sc_Lany.nd (de_ix (de_ix (de_var 0) de_int (fun _ _ => rfl)) (de_var 2) (fun _ _ => rfl)))
  (dss_cons (ds_set (i := 6) sc_Lany.nd (de_and (de_cmp op_le sn_le (de_ix (de_ix (de_ix (de_var 0) de_int (fun _ _ => rfl)) de_int (fun _ _ => rfl)) (de_ix (de_var 1) de_int (fun _ _ => rfl)) (fun _ _ => rfl)) (de_ix (de_var 5) de_int (fun _ _ => rfl))) (de_one (de_cmp op_le sn_le (de_ix (de_ix (de_ix (de_var 0) de_int (fun _ _ => rfl)) de_int (fun _ _ => rfl)) (de_ix (de_var 1) de_int (fun _ _ => rfl)) (fun _ _ => rfl)) (de_ix (de_var 5) de_int (fun _ _ => rfl))))))
  (dss_cons (ds_if (L2.PW.pt (dw_and (dt_val (de_var 6)) (dw_and1 (dt_cmp op_lt sn_lt (de_len T.len_ (de_var 3)) (de_ix (de_var 5) de_int (fun _ _ => rfl))))))
   (dss_one (ds_ret de_bl))
   dss_nil)
  (dss_one (ds_if (dt_cmp op_gt sn_gt (de_len T.len_ (de_frz (dl_lc [("_law_leaf", 7)] rfl sc_Lany.nd (di_list (de_var 3)) (blkOk_by (N := N_Lany) (sc := defScope s_Lany) (by decide +kernel)) (blk_name (by decide)) (fun _ _ _ _ _ => pg_name (i := 7) sc_Lany.nd rfl (Or.inl rfl)) (fun _ _ _ _ _ => pts_oneD fun B => (dt_val (de_callC c_Lopen (hr.mono (by decide)) (da_cons (de_var 0) (da_cons (de_var 1) (da_cons (de_var 2) (da_cons (de_var 7) da_nil))))))) (fun B _ _ _ _ _ => de_int)))) de_int)
   (dss_one (ds_ret de_bl))
   dss_nil))))))))
  (dss_one (ds_ret de_bl)))
theorem ok_Lany (T : Txt K mg) (c_Lopen : Cal P w K mg base CX0 2 "_law_open" ["_law_scene_here", "_law_kind", "_law_group", "_law_leaf"] (pureSp C_Lopen)) {f : Addr} {fd : FuncData} (F : FunD K "_law_any" "_law_any" (defArgs s_Lany) (defBody s_Lany) (defScope s_Lany) [] [] f fd) (hm : mg "_law_any" = some (.ref f))
    (hl : ∀ ds Q, C_Lany ds Q → ds.length = 2) (hC : ∀ ds Q, C_Lany ds Q → t_Lany (retE Q) (startD N_Lany ds)) : Cal P w K mg base CX0 3 "_law_any" ["_law_scene_here", "_law_kind"] (pureSp C_Lany) :=
  ⟨f, fd, fn_pure F sc_Lany hl (by decide) (fun cdv A outer s H E hr B => b_Lany T c_Lopen hr B) hC, hm, F.kp, F.bindsN fun _ _ _ _ _ _ us hl => match us, hl with | [_, _], _ => rfl⟩
end
end K28
end
section
set_option Elab.async false
set_option linter.all false
set_option maxRecDepth 100000
set_option maxHeartbeats 4000000
namespace K28
open PySem PySem.Spec PyProof.Rows L2 DL
section
variable {P : Program} {w : World} {K : PySem.W.Frag} {mg : Str → Option Value} {base : Heap}
/-! ### _law_fits: 0 _law_scene_here, 1 _law_kind, 2 _law_told, 3 _law_one, 4 _law_ticks, 5 _law_side_here, 6 _law_free, 7 _law_apart, 8 _law_far, 9 _law_unit -/
abbrev N_Lfits : List Str := ["_law_scene_here", "_law_kind", "_law_told", "_law_one", "_law_ticks", "_law_side_here", "_law_free", "_law_apart", "_law_far", "_law_unit"]
theorem sc_Lfits : FnScope N_Lfits ["_law_scene_here", "_law_kind", "_law_told"] (defScope s_Lfits) := ⟨rfl, rfl, rfl, by decide +kernel, rfl, by decide +kernel, by decide +kernel⟩
def t_Lfits : DTS :=
  (dSeq (dIf (dOr (dNot (dTst (dUn (fIsi isTup) (dVar 2)))) (dTst (dBin fNe (dUn fLen (dVar 2)) (dC (.int 4)))))
   (dRet (dC (.bl false)))
   dNext)
  (dSeq (dFor (dSrcT (dSlT (dVar 2) dNoPart (dPart (dC (.int 2))))) (dgName 3)
   (dIf (dOr (dNot (dTst (dUn (fIsi isInt) (dVar 3)))) (dOr (dTst (dUn (fIsi isBool) (dVar 3))) (dTst (dBin fLt (dVar 3) (dC (.int 0))))))
   (dRet (dC (.bl false)))
   dNext))
  (dSeq (dIf (dOr (dTst (dBin fGe (dBin fIx (dVar 2) (dC (.int 0))) (dUn fLen (dBin fIx (dVar 0) (dC (.int 1)))))) (dTst (dBin fGe (dBin fIx (dVar 2) (dC (.int 1))) (dBin fIx (dBin fIx (dBin fIx (dVar 0) (dC (.int 1))) (dBin fIx (dVar 2) (dC (.int 0)))) (dC (.int 2))))))
   (dRet (dC (.bl false)))
   dNext)
  (dSeq (dIf (dOr (dNot (dTst (dCall C_Lquotient (dCons (dBin fIx (dVar 2) (dC (.int 2))) dNil)))) (dNot (dTst (dCall C_Lquotient (dCons (dBin fIx (dVar 2) (dC (.int 3))) dNil)))))
   (dRet (dC (.bl false)))
   dNext)
  (dSeq (dAsg (dBin fIx (dVar 0) (dC (.int 2))) (dgName 4))
  (dSeq (dFor (dRng1 (dCons (dC (.int 2)) dNil)) (dgName 5)
   (dSeq (dAsg (dBin fSub (dBin fIx (dBin fIx (dBin fIx (dVar 0) (dC (.int 1))) (dBin fIx (dVar 2) (dC (.int 0)))) (dVar 5)) (dBin fIx (dBin fIx (dBin fIx (dVar 0) (dC (.int 0))) (dVar 5)) (dBin fIx (dVar 1) (dVar 5)))) (dgName 6))
  (dIf (dTst (dBin fGt (dBin fIx (dBin fIx (dVar 2) (dBin fAdd (dC (.int 2)) (dVar 5))) (dC (.int 0))) (dBin fMul (dVar 6) (dBin fIx (dBin fIx (dVar 2) (dBin fAdd (dC (.int 2)) (dVar 5))) (dC (.int 1))))))
   (dRet (dC (.bl false)))
   dNext)))
  (dSeq (dFor (dSrcL (dBin fIx (dVar 0) (dC (.int 3)))) (dgName 3)
   (dIf (dTst (dBin fEqP (dSlT (dVar 3) (dPart (dC (.int 2))) (dPart (dC (.int 4)))) (dSlT (dVar 2) dNoPart (dPart (dC (.int 2))))))
   (dSeq (dAsg (dC (.bl false)) (dgName 7))
  (dSeq (dFor (dRng1 (dCons (dC (.int 2)) dNil)) (dgName 5)
   (dSeq (dAsg (dBin fSub (dBin fMul (dBin fIx (dBin fIx (dVar 2) (dBin fAdd (dC (.int 2)) (dVar 5))) (dC (.int 0))) (dVar 4)) (dBin fMul (dBin fIx (dVar 3) (dBin fAdd (dC (.int 4)) (dVar 5))) (dBin fIx (dBin fIx (dVar 2) (dBin fAdd (dC (.int 2)) (dVar 5))) (dC (.int 1))))) (dgName 8))
  (dSeq (dAsg (dBin fMul (dBin fIx (dBin fIx (dVar 2) (dBin fAdd (dC (.int 2)) (dVar 5))) (dC (.int 1))) (dVar 4)) (dgName 9))
  (dIf (dOr (dTst (dBin fGe (dVar 8) (dBin fMul (dBin fIx (dBin fIx (dBin fIx (dVar 0) (dC (.int 0))) (dVar 5)) (dBin fIx (dVar 3) (dVar 5))) (dVar 9)))) (dTst (dBin fGe (dBin fSub (dC (.int 0)) (dVar 8)) (dBin fMul (dBin fIx (dBin fIx (dBin fIx (dVar 0) (dC (.int 0))) (dVar 5)) (dBin fIx (dVar 1) (dVar 5))) (dVar 9)))))
   (dAsg (dC (.bl true)) (dgName 7))
   dNext))))
  (dIf (dNot (dTst (dVar 7)))
   (dRet (dC (.bl false)))
   dNext)))
   dNext))
  (dRet (dC (.bl true))))))))))
theorem b_Lfits (T : Txt K mg) (c_Lquotient : Cal P w K mg base CX0 2 "_law_quotient" ["_law_thing"] (pureSp C_Lquotient)) {f : Addr} {cdv : Value} {A : Around} {outer : List Env} {s : Shared} {H : Hp} {E : XK} (hr : Room 2 (A.deeper (envOfC "_law_fits" (defScope s_Lfits) s.heap.objs.size f cdv))) (B : Ent) :
    PSs (cxOf CX0 P w K mg base N_Lfits "_law_fits" (defScope s_Lfits) f cdv A outer s H E).nox (defBody s_Lfits) (liftS B t_Lfits) := by
  exact (dss_cons (ds_if (L2.PW.pt (dw_or (dt_not (dt_val (de_isi kit_tup T.isinstance_ T.tuple_ (by decide +kernel) (de_var 2)))) (dw_or1 (dt_cmp op_ne sn_ne (de_len T.len_ (de_var 2)) de_int))))
   (dss_one (ds_ret de_bl))
   dss_nil)
  (dss_cons (ds_for PassesOwn.never rfl (di_tup (de_slT (de_var 2) do_none (do_some de_int))) (dg_name (i := 3) sc_Lfits.nd)
   (dss_one (ds_if (L2.PW.pt (dw_or (dt_not (dt_val (de_isi kit_int T.isinstance_ T.int_ (by decide +kernel) (de_var 3)))) (dw_or (dt_val (de_isi kit_bool T.isinstance_ T.bool_ (by decide +kernel) (de_var 3))) (dw_or1 (dt_cmp op_lt sn_lt (de_var 3) de_int)))))
   (dss_one (ds_ret de_bl))
   dss_nil)))
  (dss_cons (ds_if (L2.PW.pt (dw_or (dt_cmp op_ge sn_ge (de_ix (de_var 2) de_int (fun _ _ => rfl)) (de_len T.len_ (de_ix (de_var 0) de_int (fun _ _ => rfl)))) (dw_or1 (dt_cmp op_ge sn_ge (de_ix (de_var 2) de_int (fun _ _ => rfl)) (de_ix (de_ix (de_ix (de_var 0) de_int (fun _ _ => rfl)) (de_ix (de_var 2) de_int (fun _ _ => rfl)) (fun _ _ => rfl)) de_int (fun _ _ => rfl))))))
   (dss_one (ds_ret de_bl))
   dss_nil)
  (dss_cons (ds_if (L2.PW.pt (dw_or (dt_not (dt_val (de_callC c_Lquotient (hr.mono (by decide)) (da_cons (de_ix (de_var 2) de_int (fun _ _ => rfl)) da_nil)))) (dw_or1 (dt_not (dt_val (de_callC c_Lquotient (hr.mono (by decide)) (da_cons (de_ix (de_var 2) de_int (fun _ _ => rfl)) da_nil)))))))
   (dss_one (ds_ret de_bl))
   dss_nil)
  (dss_cons (ds_set (i := 4) sc_Lfits.nd (de_ix (de_var 0) de_int (fun _ _ => rfl)))
  (dss_cons (ds_for PassesOwn.never rfl (di_range1 T.range_ (da_cons de_int da_nil)) (dg_name (i := 5) sc_Lfits.nd)
   (dss_cons (ds_set (i := 6) sc_Lfits.nd (de_bin op_sub sn_sub (de_ix (de_ix (de_ix (de_var 0) de_int (fun _ _ => rfl)) (de_ix (de_var 2) de_int (fun _ _ => rfl)) (fun _ _ => rfl)) (de_var 5) (fun _ _ => rfl)) (de_ix (de_ix (de_ix (de_var 0) de_int (fun _ _ => rfl)) (de_var 5) (fun _ _ => rfl)) (de_ix (de_var 1) (de_var 5) (fun _ _ => rfl)) (fun _ _ => rfl))))
  (dss_one (ds_if (dt_cmp op_gt sn_gt (de_ix (de_ix (de_var 2) (de_bin op_add sn_add de_int (de_var 5)) (fun _ _ => rfl)) de_int (fun _ _ => rfl)) (de_bin op_mul sn_mul (de_var 6) (de_ix (de_ix (de_var 2) (de_bin op_add sn_add de_int (de_var 5)) (fun _ _ => rfl)) de_int (fun _ _ => rfl))))
   (dss_one (ds_ret de_bl))
   dss_nil))))
  (dss_cons (ds_for PassesOwn.never rfl (di_list (de_ix (de_var 0) de_int (fun _ _ => rfl))) (dg_name (i := 3) sc_Lfits.nd)
   (dss_one (ds_if (dt_cmp (op_eqD hr.units) sn_eqP (de_slT (de_var 3) (do_some de_int) (do_some de_int)) (de_slT (de_var 2) do_none (do_some de_int)))
   (dss_cons (ds_set (i := 7) sc_Lfits.nd de_bl)
  (dss_cons (ds_for PassesOwn.never rfl (di_range1 T.range_ (da_cons de_int da_nil)) (dg_name (i := 5) sc_Lfits.nd)
   (dss_cons (ds_set (i := 8) sc_Lfits.nd (de_bin op_sub sn_sub (de_bin op_mul sn_mul (de_ix (de_ix (de_var 2) (de_bin op_add sn_add de_int (de_var 5)) (fun _ _ => rfl)) de_int (fun _ _ => rfl)) (de_var 4)) (de_bin op_mul sn_mul (de_ix (de_var 3) (de_bin op_add sn_add de_int (de_var 5)) (fun _ _ => rfl)) (de_ix (de_ix (de_var 2) (de_bin op_add sn_add de_int (de_var 5)) (fun _ _ => rfl)) de_int (fun _ _ => rfl)))))
  (dss_cons (ds_set (i := 9) sc_Lfits.nd (de_bin op_mul sn_mul (de_ix (de_ix (de_var 2) (de_bin op_add sn_add de_int (de_var 5)) (fun _ _ => rfl)) de_int (fun _ _ => rfl)) (de_var 4)))
  (dss_one (ds_if (L2.PW.pt (dw_or (dt_cmp op_ge sn_ge (de_var 8) (de_bin op_mul sn_mul (de_ix (de_ix (de_ix (de_var 0) de_int (fun _ _ => rfl)) (de_var 5) (fun _ _ => rfl)) (de_ix (de_var 3) (de_var 5) (fun _ _ => rfl)) (fun _ _ => rfl)) (de_var 9))) (dw_or1 (dt_cmp op_ge sn_ge (de_bin op_sub sn_sub de_int (de_var 8)) (de_bin op_mul sn_mul (de_ix (de_ix (de_ix (de_var 0) de_int (fun _ _ => rfl)) (de_var 5) (fun _ _ => rfl)) (de_ix (de_var 1) (de_var 5) (fun _ _ => rfl)) (fun _ _ => rfl)) (de_var 9))))))
   (dss_one (ds_set (i := 7) sc_Lfits.nd de_bl))
   dss_nil)))))
  (dss_one (ds_if (dt_not (dt_val (de_var 7)))
   (dss_one (ds_ret de_bl))
   dss_nil))))
   dss_nil)))
  (dss_one (ds_ret de_bl)))))))))
theorem ok_Lfits (T : Txt K mg) (c_Lquotient : Cal P w K mg base CX0 2 "_law_quotient" ["_law_thing"] (pureSp C_Lquotient)) {f : Addr} {fd : FuncData} (F : FunD K "_law_fits" "_law_fits" (defArgs s_Lfits) (defBody s_Lfits) (defScope s_Lfits) [] [] f fd) (hm : mg "_law_fits" = some (.ref f))
    (hl : ∀ ds Q, C_Lfits ds Q → ds.length = 3) (hC : ∀ ds Q, C_Lfits ds Q → t_Lfits (retE Q) (startD N_Lfits ds)) : Cal P w K mg base CX0 3 "_law_fits" ["_law_scene_here", "_law_kind", "_law_told"] (pureSp C_Lfits) :=
  ⟨f, fd, fn_pure F sc_Lfits hl (by decide) (fun cdv A outer s H E hr B => b_Lfits T c_Lquotient hr B) hC, hm, F.kp, F.bindsN fun _ _ _ _ _ _ us hl => match us, hl with | [_, _, _], _ => rfl⟩
/-! ### _law_clear: 0 _law_scene_here, 1 _law_group, 2 _law_leaf, 3 _law_side_here, 4 _law_ticks, 5 _law_mine, 6 _law_one, 7 _law_ends, 8 _law_told, 9 _law_k, 10 _law_found -/
abbrev N_Lclear : List Str := ["_law_scene_here", "_law_group", "_law_leaf", "_law_side_here", "_law_ticks", "_law_mine", "_law_one", "_law_ends", "_law_told", "_law_k", "_law_found"]
theorem sc_Lclear : FnScope N_Lclear ["_law_scene_here", "_law_group", "_law_leaf", "_law_side_here"] (defScope s_Lclear) := ⟨rfl, rfl, rfl, by decide +kernel, rfl, by decide +kernel, by decide +kernel⟩
def t_Lclear : DTS :=
  (dSeq (dAsg (dBin fIx (dVar 0) (dC (.int 2))) (dgName 4))
  (dSeq (dAsgL 5 (dLst dNil))
  (dSeq (dFor (dSrcL (dBin fIx (dVar 0) (dC (.int 3)))) (dgName 6)
   (dIf (dAnd (dTst (dBin fEq (dBin fIx (dVar 6) (dC (.int 2))) (dVar 1))) (dTst (dBin fEq (dBin fIx (dVar 6) (dC (.int 3))) (dVar 2))))
   (dApp 5 (dTup (dCons (dBin fIx (dVar 6) (dBin fAdd (dC (.int 4)) (dVar 3))) (dCons (dBin fAdd (dBin fIx (dVar 6) (dBin fAdd (dC (.int 4)) (dVar 3))) (dBin fMul (dBin fIx (dBin fIx (dBin fIx (dVar 0) (dC (.int 0))) (dVar 3)) (dBin fIx (dVar 6) (dVar 3))) (dVar 4))) dNil))))
   dNext))
  (dSeq (dAsgL 7 (dCatL (dFrz (dCatL (dFrz (dLst (dCons (dC (.int 0)) (dCons (dBin fMul (dBin fIx (dBin fIx (dBin fIx (dVar 0) (dC (.int 1))) (dVar 1)) (dVar 3)) (dVar 4)) dNil)))) (dFrz (dLc (dSrcL (dVar 5)) (dgName 10) dYes (dBin fIx (dVar 10) (dC (.int 0))) [10])))) (dFrz (dLc (dSrcL (dVar 5)) (dgName 10) dYes (dBin fIx (dVar 10) (dC (.int 1))) [10]))))
  (dSeq (dAsgL 7 (dUL fSortSet (dVar 7)))
  (dSeq (dAsgL 8 (dLst dNil))
  (dSeq (dFor (dRng1 (dCons (dBin fSub (dUn fLen (dVar 7)) (dC (.int 1))) dNil)) (dgName 9)
   (dIf (dTst (dBin fEq (dUn fLen (dFrz (dLc (dSrcL (dVar 5)) (dgName 10) (dAnd (dTst (dBin fLe (dBin fIx (dVar 10) (dC (.int 0))) (dBin fIx (dVar 7) (dVar 9)))) (dTst (dBin fLe (dBin fIx (dVar 7) (dBin fAdd (dVar 9) (dC (.int 1)))) (dBin fIx (dVar 10) (dC (.int 1)))))) (dC (.int 1)) [10]))) (dC (.int 0))))
   (dIf (dAnd (dTst (dBin fGt (dUn fLen (dVar 8)) (dC (.int 0)))) (dTst (dBin fEq (dBin fIx (dBin fIx (dVar 8) (dUn fNeg (dC (.int 1)))) (dC (.int 1))) (dBin fIx (dVar 7) (dVar 9)))))
   (dSetI 8 (dTup (dCons (dBin fIx (dBin fIx (dVar 8) (dUn fNeg (dC (.int 1)))) (dC (.int 0))) (dCons (dBin fIx (dVar 7) (dBin fAdd (dVar 9) (dC (.int 1)))) dNil))) (dUn fNeg (dC (.int 1))))
   (dApp 8 (dTup (dCons (dBin fIx (dVar 7) (dVar 9)) (dCons (dBin fIx (dVar 7) (dBin fAdd (dVar 9) (dC (.int 1)))) dNil)))))
   dNext))
  (dRet (dUn fTupOf (dFrz (dLc (dSrcL (dVar 8)) (dgName 6) dYes (dTup (dCons (dCall C_Llow (dCons (dBin fIx (dVar 6) (dC (.int 0))) (dCons (dVar 4) dNil))) (dCons (dCall C_Llow (dCons (dBin fIx (dVar 6) (dC (.int 1))) (dCons (dVar 4) dNil))) dNil))) [6])))))))))))
theorem b_Lclear (T : Txt K mg) (c_Llow : Cal P w K mg base CX0 1 "_law_low" ["_law_top", "_law_bottom"] (pureSp C_Llow)) {f : Addr} {cdv : Value} {A : Around} {outer : List Env} {s : Shared} {H : Hp} {E : XK} (hr : Room 1 (A.deeper (envOfC "_law_clear" (defScope s_Lclear) s.heap.objs.size f cdv))) (B : Ent) :
    PSs (cxOf CX0 P w K mg base N_Lclear "_law_clear" (defScope s_Lclear) f cdv A outer s H E).nox (defBody s_Lclear) (liftS B t_Lclear) := by
  exact (dss_cons (ds_set (i := 4) sc_Lclear.nd (de_ix (de_var 0) de_int (fun _ _ => rfl)))
  (dss_cons (ds_setL (i := 5) sc_Lclear.nd (dl_lst da_nil))
  (dss_cons (ds_for PassesOwn.never rfl (di_list (de_ix (de_var 0) de_int (fun _ _ => rfl))) (dg_name (i := 6) sc_Lclear.nd)
   (dss_one (ds_if (L2.PW.pt (dw_and (dt_cmp op_eq sn_eq (de_ix (de_var 6) de_int (fun _ _ => rfl)) (de_var 1)) (dw_and1 (dt_cmp op_eq sn_eq (de_ix (de_var 6) de_int (fun _ _ => rfl)) (de_var 2)))))
   (dss_one (ds_app (i := 5) (he := (de_tup (da_cons (de_ix (de_var 6) (de_bin op_add sn_add de_int (de_var 3)) (fun _ _ => rfl)) (da_cons (de_bin op_add sn_add (de_ix (de_var 6) (de_bin op_add sn_add de_int (de_var 3)) (fun _ _ => rfl)) (de_bin op_mul sn_mul (de_ix (de_ix (de_ix (de_var 0) de_int (fun _ _ => rfl)) (de_var 3) (fun _ _ => rfl)) (de_ix (de_var 6) (de_var 3) (fun _ _ => rfl)) (fun _ _ => rfl)) (de_var 4))) da_nil))))))
   dss_nil)))
  (dss_cons (ds_setL (i := 7) sc_Lclear.nd (dl_cat (de_frz (dl_cat (de_frz (dl_lst (da_cons de_int (da_cons (de_bin op_mul sn_mul (de_ix (de_ix (de_ix (de_var 0) de_int (fun _ _ => rfl)) (de_var 1) (fun _ _ => rfl)) (de_var 3) (fun _ _ => rfl)) (de_var 4)) da_nil)))) (de_frz (dl_lc [("_law_found", 10)] rfl sc_Lclear.nd (di_list (de_var 5)) (blkOk_by (N := N_Lclear) (sc := defScope s_Lclear) (by decide +kernel)) (blk_name (by decide)) (fun _ _ _ _ _ => pg_name (i := 10) sc_Lclear.nd rfl (Or.inl rfl)) (fun _ _ _ _ _ => pts_nilD) (fun B _ _ _ _ _ => (de_ix (de_var 10) de_int (fun _ _ => rfl))))))) (de_frz (dl_lc [("_law_found", 10)] rfl sc_Lclear.nd (di_list (de_var 5)) (blkOk_by (N := N_Lclear) (sc := defScope s_Lclear) (by decide +kernel)) (blk_name (by decide)) (fun _ _ _ _ _ => pg_name (i := 10) sc_Lclear.nd rfl (Or.inl rfl)) (fun _ _ _ _ _ => pts_nilD) (fun B _ _ _ _ _ => (de_ix (de_var 10) de_int (fun _ _ => rfl)))))))
  (dss_cons (ds_setL (i := 7) sc_Lclear.nd (dl_sortSet rfl T.sorted_ T.set_ (de_var 7)))
  (dss_cons (ds_setL (i := 8) sc_Lclear.nd (dl_lst da_nil))
  (dss_cons (ds_for PassesOwn.never rfl (di_range1 T.range_ (da_cons (de_bin op_sub sn_sub (de_len T.len_ (de_var 7)) de_int) da_nil)) (dg_name (i := 9) sc_Lclear.nd)
   (dss_one (ds_if (dt_cmp op_eq sn_eq (de_len T.len_ (de_frz (dl_lc [("_law_found", 10)] rfl sc_Lclear.nd (di_list (de_var 5)) (blkOk_by (N := N_Lclear) (sc := defScope s_Lclear) (by decide +kernel)) (blk_name (by decide)) (fun _ _ _ _ _ => pg_name (i := 10) sc_Lclear.nd rfl (Or.inl rfl)) (fun _ _ _ _ _ => pts_oneD fun B => (L2.PW.pt (dw_and (dt_cmp op_le sn_le (de_ix (de_var 10) de_int (fun _ _ => rfl)) (de_ix (de_var 7) (de_var 9) (fun _ _ => rfl))) (dw_and1 (dt_cmp op_le sn_le (de_ix (de_var 7) (de_bin op_add sn_add (de_var 9) de_int) (fun _ _ => rfl)) (de_ix (de_var 10) de_int (fun _ _ => rfl))))))) (fun B _ _ _ _ _ => de_int)))) de_int)
   (dss_one (ds_if (L2.PW.pt (dw_and (dt_cmp op_gt sn_gt (de_len T.len_ (de_var 8)) de_int) (dw_and1 (dt_cmp op_eq sn_eq (de_ix (de_ix (de_var 8) (de_neg de_int) (fun _ _ => rfl)) de_int (fun _ _ => rfl)) (de_ix (de_var 7) (de_var 9) (fun _ _ => rfl))))))
   (dss_one (ds_setI (i := 8) (he := (de_tup (da_cons (de_ix (de_ix (de_var 8) (de_neg de_int) (fun _ _ => rfl)) de_int (fun _ _ => rfl)) (da_cons (de_ix (de_var 7) (de_bin op_add sn_add (de_var 9) de_int) (fun _ _ => rfl)) da_nil)))) (hi := (de_neg de_int))))
   (dss_one (ds_app (i := 8) (he := (de_tup (da_cons (de_ix (de_var 7) (de_var 9) (fun _ _ => rfl)) (da_cons (de_ix (de_var 7) (de_bin op_add sn_add (de_var 9) de_int) (fun _ _ => rfl)) da_nil))))))))
   dss_nil)))
  (dss_one (ds_ret (de_tupOf T.tuple_ (de_frz (dl_lc [("_law_one", 6)] rfl sc_Lclear.nd (di_list (de_var 8)) (blkOk_by (N := N_Lclear) (sc := defScope s_Lclear) (by decide +kernel)) (blk_name (by decide)) (fun _ _ _ _ _ => pg_name (i := 6) sc_Lclear.nd rfl (Or.inl rfl)) (fun _ _ _ _ _ => pts_nilD) (fun B _ _ _ _ _ => (de_tup (da_cons (de_callC c_Llow (hr.mono (by decide)) (da_cons (de_ix (de_var 6) de_int (fun _ _ => rfl)) (da_cons (de_var 4) da_nil))) (da_cons (de_callC c_Llow (hr.mono (by decide)) (da_cons (de_ix (de_var 6) de_int (fun _ _ => rfl)) (da_cons (de_var 4) da_nil))) da_nil))))))))))))))))
theorem ok_Lclear (T : Txt K mg) (c_Llow : Cal P w K mg base CX0 1 "_law_low" ["_law_top", "_law_bottom"] (pureSp C_Llow)) {f : Addr} {fd : FuncData} (F : FunD K "_law_clear" "_law_clear" (defArgs s_Lclear) (defBody s_Lclear) (defScope s_Lclear) [] [] f fd) (hm : mg "_law_clear" = some (.ref f))
    (hl : ∀ ds Q, C_Lclear ds Q → ds.length = 4) (hC : ∀ ds Q, C_Lclear ds Q → t_Lclear (retE Q) (startD N_Lclear ds)) : Cal P w K mg base CX0 2 "_law_clear" ["_law_scene_here", "_law_group", "_law_leaf", "_law_side_here"] (pureSp C_Lclear) :=
  ⟨f, fd, fn_pure F sc_Lclear hl (by decide) (fun cdv A outer s H E hr B => b_Lclear T c_Llow hr B) hC, hm, F.kp, F.bindsN fun _ _ _ _ _ _ us hl => match us, hl with | [_, _, _, _], _ => rfl⟩
end
end K28
end
section
set_option Elab.async false
set_option linter.all false
set_option maxRecDepth 100000
set_option maxHeartbeats 4000000
namespace K28
open PySem PySem.Spec PyProof.Rows L2 DL
section
variable {P : Program} {w : World} {K : PySem.W.Frag} {mg : Str → Option Value} {base : Heap}
/-! ### _law_same: 0 _law_one, 1 _law_other, 2 _law_k -/
abbrev N_Lsame : List Str := ["_law_one", "_law_other", "_law_k"]
theorem sc_Lsame : FnScope N_Lsame ["_law_one", "_law_other"] (defScope s_Lsame) := ⟨rfl, rfl, rfl, by decide +kernel, rfl, by decide +kernel, by decide +kernel⟩
def t_Lsame (n : Nat) : DTS :=
  (dSeq (dIf (dOr (dTst (dUn (fIsi isBool) (dVar 0))) (dTst (dUn (fIsi isBool) (dVar 1))))
   (dRet (dAndV (dUn (fIsi isBool) (dVar 0)) (dAndV (dUn (fIsi isBool) (dVar 1)) (dBin fEq (dVar 0) (dVar 1)))))
   dNext)
  (dSeq (dIf (dAnd (dTst (dUn (fIsi isTup) (dVar 0))) (dTst (dUn (fIsi isTup) (dVar 1))))
   (dSeq (dIf (dTst (dBin fNe (dUn fLen (dVar 0)) (dUn fLen (dVar 1))))
   (dRet (dC (.bl false)))
   dNext)
  (dSeq (dFor (dRng1 (dCons (dUn fLen (dVar 0)) dNil)) (dgName 2)
   (dIf (dNot (dTst (dCall (C_Ls n) (dCons (dBin fIx (dVar 0) (dVar 2)) (dCons (dBin fIx (dVar 1) (dVar 2)) dNil)))))
   (dRet (dC (.bl false)))
   dNext))
  (dRet (dC (.bl true)))))
   dNext)
  (dSeq (dIf (dAnd (dTst (dUn (fIsi isInt) (dVar 0))) (dTst (dUn (fIsi isInt) (dVar 1))))
   (dRet (dBin fEq (dVar 0) (dVar 1)))
   dNext)
  (dSeq (dIf (dAnd (dTst (dUn (fIsi isStr) (dVar 0))) (dTst (dUn (fIsi isStr) (dVar 1))))
   (dRet (dBin fEq (dVar 0) (dVar 1)))
   dNext)
  (dRet (dAndV (dUn (fD fIsN) (dVar 0)) (dUn (fD fIsN) (dVar 1))))))))
theorem b_Lsame (T : Txt K mg) {n k : Nat} (c_Ls : Cal P w K mg base CX0 k "_law_same" ["_law_one", "_law_other"] (pureSp (C_Ls n))) {f : Addr} {cdv : Value} {A : Around} {outer : List Env} {s : Shared} {H : Hp} {E : XK} (hr : Room k (A.deeper (envOfC "_law_same" (defScope s_Lsame) s.heap.objs.size f cdv))) (B : Ent) :
    PSs (cxOf CX0 P w K mg base N_Lsame "_law_same" (defScope s_Lsame) f cdv A outer s H E).nox (defBody s_Lsame) (liftS B (t_Lsame n)) := by
  exact (dss_cons (ds_if (L2.PW.pt (dw_or (dt_val (de_isi kit_bool T.isinstance_ T.bool_ (by decide +kernel) (de_var 0))) (dw_or1 (dt_val (de_isi kit_bool T.isinstance_ T.bool_ (by decide +kernel) (de_var 1))))))
   (dss_one (ds_ret (de_and (de_isi kit_bool T.isinstance_ T.bool_ (by decide +kernel) (de_var 0)) (de_and (de_isi kit_bool T.isinstance_ T.bool_ (by decide +kernel) (de_var 1)) (de_one (de_cmp op_eq sn_eq (de_var 0) (de_var 1)))))))
   dss_nil)
  (dss_cons (ds_if (L2.PW.pt (dw_and (dt_val (de_isi kit_tup T.isinstance_ T.tuple_ (by decide +kernel) (de_var 0))) (dw_and1 (dt_val (de_isi kit_tup T.isinstance_ T.tuple_ (by decide +kernel) (de_var 1))))))
   (dss_cons (ds_if (dt_cmp op_ne sn_ne (de_len T.len_ (de_var 0)) (de_len T.len_ (de_var 1)))
   (dss_one (ds_ret de_bl))
   dss_nil)
  (dss_cons (ds_for PassesOwn.never rfl (di_range1 T.range_ (da_cons (de_len T.len_ (de_var 0)) da_nil)) (dg_name (i := 2) sc_Lsame.nd)
   (dss_one (ds_if (dt_not (dt_val (de_callC c_Ls hr (da_cons (de_ix (de_var 0) (de_var 2) (fun _ _ => rfl)) (da_cons (de_ix (de_var 1) (de_var 2) (fun _ _ => rfl)) da_nil)))))
   (dss_one (ds_ret de_bl))
   dss_nil)))
  (dss_one (ds_ret de_bl))))
   dss_nil)
  (dss_cons (ds_if (L2.PW.pt (dw_and (dt_val (de_isi kit_int T.isinstance_ T.int_ (by decide +kernel) (de_var 0))) (dw_and1 (dt_val (de_isi kit_int T.isinstance_ T.int_ (by decide +kernel) (de_var 1))))))
   (dss_one (ds_ret (de_cmp op_eq sn_eq (de_var 0) (de_var 1))))
   dss_nil)
  (dss_cons (ds_if (L2.PW.pt (dw_and (dt_val (de_isi kit_str T.isinstance_ T.str_ (by decide +kernel) (de_var 0))) (dw_and1 (dt_val (de_isi kit_str T.isinstance_ T.str_ (by decide +kernel) (de_var 1))))))
   (dss_one (ds_ret (de_cmp op_eq sn_eq (de_var 0) (de_var 1))))
   dss_nil)
  (dss_one (ds_ret (de_and (de_isN (de_var 0)) (de_one (de_isN (de_var 1))))))))))
theorem ok_Lsame1 (T : Txt K mg) {n k : Nat} (c_Ls : Cal P w K mg base CX0 k "_law_same" ["_law_one", "_law_other"] (pureSp (C_Ls n))) {f : Addr} {fd : FuncData} (F : FunD K "_law_same" "_law_same" (defArgs s_Lsame) (defBody s_Lsame) (defScope s_Lsame) [] [] f fd) (hm : mg "_law_same" = some (.ref f))
    (hl : ∀ ds Q, C_Ls (n + 1) ds Q → ds.length = 2) (hC : ∀ ds Q, C_Ls (n + 1) ds Q → t_Lsame n (retE Q) (startD N_Lsame ds)) : Cal P w K mg base CX0 (k + 1) "_law_same" ["_law_one", "_law_other"] (pureSp (C_Ls (n + 1))) :=
  ⟨f, fd, fn_pure F sc_Lsame hl (by decide) (fun cdv A outer s H E hr B => b_Lsame T c_Ls hr B) hC, hm, F.kp, F.bindsN fun _ _ _ _ _ _ us hl => match us, hl with | [_, _], _ => rfl⟩
end
end K28
end
section
set_option Elab.async false
set_option linter.all false
set_option maxRecDepth 100000
set_option maxHeartbeats 4000000
namespace K28
open PySem PySem.Spec PyProof.Rows L2 DL
section
variable {P : Program} {w : World} {K : PySem.W.Frag} {mg : Str → Option Value} {base : Heap}
/-! ### _law_feed: 0 _law_script, 1 _law_mixed, 2 _law_digits, 3 _law_cell, 4 _law_left, 5 _law_k -/
abbrev N_Lfeed : List Str := ["_law_script", "_law_mixed", "_law_digits", "_law_cell", "_law_left", "_law_k"]
theorem sc_Lfeed : FnScope N_Lfeed ["_law_script"] (defScope s_Lfeed) := ⟨rfl, rfl, rfl, by decide +kernel, rfl, by decide +kernel, by decide +kernel⟩
def t_Lfeed (a : Addr) (ns : List Int) : DTS :=
  (dSeq (dAsg (dC (.int 618033)) (dgName 1))
  (dSeq (dAsgL 2 (dLst dNil))
  (dSeq (dFor (dPinSrc 0 a ns) (dgName 3)
   (dSeq (dAsg (dBin fMod (dUn fInt (dBin fAdd (dBin fAdd (dBin fMul (dVar 1) (dC (.int 8111))) (dBin fMul (dVar 3) (dC (.int 307)))) (dC (.int 7)))) (dC (.int 2147483549))) (dgName 1))
  (dIf (dTst (dBin fGe (dVar 3) (dC (.int 1000000000000000000))))
   (dSeq (dAsg (dVar 3) (dgName 4))
  (dFor (dRng1 (dCons (dC (.int 60)) dNil)) (dgName 5)
   (dSeq (dApp 2 (dBin fMod (dUn fInt (dVar 4)) (dC (.int 630))))
  (dSeq (dAsg (dBin fDiv (dVar 4) (dC (.int 630))) (dgName 4))
  (dIf (dTst (dBin fEq (dVar 4) (dC (.int 0))))
   dBrk
   dNext)))))
   dNext)))
  (dRet (dFrz (dLst (dCons (dVar 1) (dCons (dC (.int 0)) (dCons (dVar 2) dNil)))))))))
theorem b_Lfeed (T : Txt K mg) {a : Addr} {ns : List Int} {f : Addr} {cdv : Value} {A : Around} {outer : List Env} {s : Shared} {H : Hp} {E : XK} (hr : Room 0 (A.deeper (envOfC "_law_feed" (defScope s_Lfeed) s.heap.objs.size f cdv))) (B : Ent) (hS : SqL K B.S0 a (ns.map V.int)) :
    PSs (cxOf CX0 P w K mg base N_Lfeed "_law_feed" (defScope s_Lfeed) f cdv A outer s H E).nox (defBody s_Lfeed) (liftS B (t_Lfeed a ns)) := by
  exact (dss_cons (ds_set (i := 1) sc_Lfeed.nd de_int)
  (dss_cons (ds_setL (i := 2) sc_Lfeed.nd (dl_lst da_nil))
  (dss_cons (ds_for PassesOwn.never rfl (di_script hS) (dg_name (i := 3) sc_Lfeed.nd)
   (dss_cons (ds_set (i := 1) sc_Lfeed.nd (de_bin op_mod sn_mod (de_intOf T.int_ (de_bin op_add sn_add (de_bin op_add sn_add (de_bin op_mul sn_mul (de_var 1) de_int) (de_bin op_mul sn_mul (de_var 3) de_int)) de_int)) de_int))
  (dss_one (ds_if (dt_cmp op_ge sn_ge (de_var 3) (de_pow (n := 1000000000000000000) ⟨by decide, by decide, by decide⟩ (by decide)))
   (dss_cons (ds_set (i := 4) sc_Lfeed.nd (de_var 3))
  (dss_one (ds_for PassesOwn.never rfl (di_range1 T.range_ (da_cons de_int da_nil)) (dg_name (i := 5) sc_Lfeed.nd)
   (dss_cons (ds_app (i := 2) (he := (de_bin op_mod sn_mod (de_intOf T.int_ (de_var 4)) de_int)))
  (dss_cons (ds_set (i := 4) sc_Lfeed.nd (de_bin op_fdiv sn_div (de_var 4) de_int))
  (dss_one (ds_if (dt_cmp op_eq sn_eq (de_var 4) de_int)
   (dss_one ds_break)
   dss_nil)))))))
   dss_nil))))
  (dss_one (ds_ret (de_frz (dl_lst (da_cons (de_var 1) (da_cons de_int (da_cons (de_var 2) da_nil))))))))))
end
end K28
end
section
set_option Elab.async false
set_option linter.all false
set_option maxRecDepth 100000
set_option maxHeartbeats 4000000
namespace K28
open PySem PySem.Spec PyProof.Rows L2 DL
section
variable {P : Program} {w : World} {K : PySem.W.Frag} {mg : Str → Option Value} {base : Heap}
/-! ### _law_bent: 0 _law_feed_here, 1 _law_scene_here, 2 _law_thing, 3 _law_sizes_here, 4 _law_store, 5 _law_odd, 6 _law_which, 7 _law_told, 8 _law_names, 9 _law_first, 10 _law_k -/
abbrev N_Lbent : List Str := ["_law_feed_here", "_law_scene_here", "_law_thing", "_law_sizes_here", "_law_store", "_law_odd", "_law_which", "_law_told", "_law_names", "_law_first", "_law_k"]
theorem sc_Lbent : FnScope N_Lbent ["_law_feed_here", "_law_scene_here", "_law_thing"] (defScope s_Lbent) := ⟨rfl, rfl, rfl, by decide +kernel, rfl, by decide +kernel, by decide +kernel⟩
def t_Lbent : DTS :=
  (dSeq (dAsg (dBin fIx (dVar 1) (dC (.int 0))) (dgName 3))
  (dSeq (dAsg (dBin fIx (dVar 1) (dC (.int 1))) (dgName 4))
  (dSeq (dAsgL 5 (dLst (dCons (dFrz (dLst (dCons (dFrz (dUL fListOf (dVar 2))) (dCons (dC .non) (dCons (dBin fCatT (dVar 2) (dTup (dCons (dTup (dCons (dC (.int 0)) (dCons (dC (.int 0)) (dCons (dUn fLen (dVar 4)) (dCons (dC (.int 0)) (dCons (dTup (dCons (dC (.int 0)) (dCons (dC (.int 1)) dNil))) (dCons (dTup (dCons (dC (.int 0)) (dCons (dC (.int 1)) dNil))) dNil))))))) dNil))) (dCons (dBin fCatT (dVar 2) (dTup (dCons (dTup (dCons (dC (.int 0)) dNil)) dNil))) dNil)))))) dNil)))
  (dSeq (dIf (dTst (dBin fGt (dUn fLen (dVar 2)) (dC (.int 0))))
   (dAsgL 5 (dLst (dCons (dFrz (dCatL (dBin fIx (dVar 5) (dC (.int 0))) (dFrz (dLst (dCons (dBin fCatT (dVar 2) (dTup (dCons (dBin fIx (dVar 2) (dCallF 0 C_Ltake (dCons (dUn fLen (dVar 2)) dNil))) dNil))) (dCons (dBin fCatT (dTup (dCons (dFrz (dUL fListOf (dBin fIx (dVar 2) (dC (.int 0))))) dNil)) (dVar 2)) dNil)))))) dNil)))
   dNext)
  (dSeq (dAsg (dCallF 0 C_Ltake (dCons (dC (.int 6)) dNil)) (dgName 6))
  (dSeq (dIf (dTst (dBin fEq (dUn fLen (dVar 4)) (dC (.int 0))))
   (dAsg (dC (.int 0)) (dgName 6))
   dNext)
  (dSeq (dAsgL 7 (dLst (dCons (dVar 3) (dCons (dVar 4) (dCons (dVar 2) (dCons (dC (.int 0)) (dCons (dC (.int 0)) dNil)))))))
  (dSeq (dAsgL 8 (dLst (dCons (dC (.str "spread")) (dCons (dC (.str "sort")) (dCons (dC (.str "sheet")) dNil)))))
  (dSeq (dIf (dOr (dTst (dBin fEq (dVar 6) (dC (.int 0)))) (dTst (dBin fEq (dVar 6) (dC (.int 3)))))
   (dSeq (dAsgL 8 (dLst (dCons (dC (.str "spread")) (dCons (dC (.str "a")) (dCons (dC (.str "b")) dNil)))))
  (dSeq (dSetI 7 (dCallF 0 C_Ltake (dCons (dUn fLen (dBin fIx (dVar 3) (dC (.int 0)))) dNil)) (dC (.int 3)))
  (dSeq (dSetI 7 (dCallF 0 C_Ltake (dCons (dUn fLen (dBin fIx (dVar 3) (dC (.int 1)))) dNil)) (dC (.int 4)))
  (dSeq (dApp 5 (dFrz (dLst (dCons (dUn fLen (dBin fIx (dVar 3) (dC (.int 0)))) (dCons (dUn fNeg (dC (.int 1))) (dCons (dC .non) (dCons (dC (.bl true)) (dCons (dC (.str "0")) (dCons (dTup (dCons (dC (.int 0)) dNil)) dNil)))))))))
  (dApp 5 (dFrz (dLst (dCons (dUn fLen (dBin fIx (dVar 3) (dC (.int 1)))) (dCons (dUn fNeg (dC (.int 1))) (dCons (dC .non) (dCons (dC (.bl false)) (dCons (dC (.str "0")) (dCons (dTup (dCons (dC (.int 0)) dNil)) dNil)))))))))))))
   (dSeq (dSetI 7 (dCallF 0 C_Ltake (dCons (dUn fLen (dVar 4)) dNil)) (dC (.int 3)))
  (dSeq (dSetI 7 (dBin fSub (dBin fIx (dBin fIx (dVar 4) (dBin fIx (dVar 7) (dC (.int 3)))) (dC (.int 2))) (dC (.int 1))) (dC (.int 4)))
  (dSeq (dApp 5 (dFrz (dLst (dCons (dUn fLen (dVar 4)) (dCons (dUn fNeg (dC (.int 1))) (dCons (dC .non) (dCons (dC (.bl true)) (dCons (dC (.str "0")) (dCons (dTup (dCons (dC (.int 0)) dNil)) dNil)))))))))
  (dApp 5 (dFrz (dLst (dCons (dBin fIx (dBin fIx (dVar 4) (dBin fIx (dVar 7) (dC (.int 3)))) (dC (.int 2))) (dCons (dUn fNeg (dC (.int 1))) (dCons (dC .non) (dCons (dC (.bl false)) (dCons (dC (.str "0")) (dCons (dTup (dCons (dC (.int 0)) dNil)) dNil)))))))))))))
  (dSeq (dAsg (dCallF 0 C_Ltake (dCons (dC (.int 3)) dNil)) (dgName 9))
  (dSeq (dFor (dRng2 (dCons (dVar 9) (dCons (dC (.int 3)) dNil))) (dgName 10)
   (dIf (dOr (dTst (dBin fEq (dVar 10) (dVar 9))) (dTst (dBin fEq (dCallF 0 C_Ltake (dCons (dC (.int 3)) dNil)) (dC (.int 0)))))
   (dSetI 7 (dBin fIx (dBin fIx (dVar 5) (dVar 10)) (dCallF 0 C_Ltake (dCons (dUn fLen (dBin fIx (dVar 5) (dVar 10))) dNil))) (dBin fAdd (dC (.int 2)) (dVar 10)))
   dNext))
  (dRet (dCall (C_Ls 5) (dCons (dCall C_Lasked (dCons (dVar 6) (dCons (dVar 7) dNil))) (dCons (dTup (dCons (dC (.str "bad")) (dCons (dBin fIx (dVar 8) (dVar 9)) (dCons (dUn fNeg (dC (.int 1))) (dCons (dC (.bl true)) dNil))))) dNil)))))))))))))))
theorem b_Lbent (T : Txt K mg) (c_Ltake : Cal P w K mg base CX0 1 "_law_take" ["_law_feed_here", "_law_many"] (feedSp C_Ltake)) (c_Lsame : Cal P w K mg base CX0 5 "_law_same" ["_law_one", "_law_other"] (pureSp (C_Ls 5))) (c_Lasked : Cal P w K mg base CX0 9 "_law_asked" ["_law_which", "_law_told"] (pureSp C_Lasked)) {f : Addr} {cdv : Value} {A : Around} {outer : List Env} {s : Shared} {H : Hp} {E : XK} (hr : Room 9 (A.deeper (envOfC "_law_bent" (defScope s_Lbent) s.heap.objs.size f cdv))) (B : Ent) :
    PSs (cxOf CX0 P w K mg base N_Lbent "_law_bent" (defScope s_Lbent) f cdv A outer s H E).nox (defBody s_Lbent) (liftS B t_Lbent) := by
  exact (dss_cons (ds_set (i := 3) sc_Lbent.nd (de_ix (de_var 1) de_int (fun _ _ => rfl)))
  (dss_cons (ds_set (i := 4) sc_Lbent.nd (de_ix (de_var 1) de_int (fun _ _ => rfl)))
  (dss_cons (ds_setL (i := 5) sc_Lbent.nd (dl_lst (da_cons (de_frz (dl_lst (da_cons (de_frz (dl_listOf T.list_ (de_var 2))) (da_cons de_non (da_cons (de_bin op_catA sn_catT (de_var 2) (de_tup (da_cons (de_tup (da_cons de_int (da_cons de_int (da_cons (de_len T.len_ (de_var 4)) (da_cons de_int (da_cons (de_tup (da_cons de_int (da_cons de_int da_nil))) (da_cons (de_tup (da_cons de_int (da_cons de_int da_nil))) da_nil))))))) da_nil))) (da_cons (de_bin op_catA sn_catT (de_var 2) (de_tup (da_cons (de_tup (da_cons de_int da_nil)) da_nil))) da_nil)))))) da_nil)))
  (dss_cons (ds_if (dt_cmp op_gt sn_gt (de_len T.len_ (de_var 2)) de_int)
   (dss_one (ds_setL (i := 5) sc_Lbent.nd (dl_lst (da_cons (de_frz (dl_cat (de_ix (de_var 5) de_int (fun _ _ => rfl)) (de_frz (dl_lst (da_cons (de_bin op_catA sn_catT (de_var 2) (de_tup (da_cons (de_ix (de_var 2) (de_callFC 0 c_Ltake (hr.mono (by decide)) (da_cons (de_len T.len_ (de_var 2)) da_nil)) (fun _ _ => rfl)) da_nil))) (da_cons (de_bin op_catA sn_catT (de_tup (da_cons (de_frz (dl_listOf T.list_ (de_ix (de_var 2) de_int (fun _ _ => rfl)))) da_nil)) (de_var 2)) da_nil)))))) da_nil))))
   dss_nil)
  (dss_cons (ds_set (i := 6) sc_Lbent.nd (de_callFC 0 c_Ltake (hr.mono (by decide)) (da_cons de_int da_nil)))
  (dss_cons (ds_if (dt_cmp op_eq sn_eq (de_len T.len_ (de_var 4)) de_int)
   (dss_one (ds_set (i := 6) sc_Lbent.nd de_int))
   dss_nil)
  (dss_cons (ds_setL (i := 7) sc_Lbent.nd (dl_lst (da_cons (de_var 3) (da_cons (de_var 4) (da_cons (de_var 2) (da_cons de_int (da_cons de_int da_nil)))))))
  (dss_cons (ds_setL (i := 8) sc_Lbent.nd (dl_lst (da_cons de_str (da_cons de_str (da_cons de_str da_nil)))))
  (dss_cons (ds_if (L2.PW.pt (dw_or (dt_cmp op_eq sn_eq (de_var 6) de_int) (dw_or1 (dt_cmp op_eq sn_eq (de_var 6) de_int))))
   (dss_cons (ds_setL (i := 8) sc_Lbent.nd (dl_lst (da_cons de_str (da_cons de_str (da_cons de_str da_nil)))))
  (dss_cons (ds_setI (i := 7) (he := (de_callFC 0 c_Ltake (hr.mono (by decide)) (da_cons (de_len T.len_ (de_ix (de_var 3) de_int (fun _ _ => rfl))) da_nil))) (hi := de_int))
  (dss_cons (ds_setI (i := 7) (he := (de_callFC 0 c_Ltake (hr.mono (by decide)) (da_cons (de_len T.len_ (de_ix (de_var 3) de_int (fun _ _ => rfl))) da_nil))) (hi := de_int))
  (dss_cons (ds_app (i := 5) (he := (de_frz (dl_lst (da_cons (de_len T.len_ (de_ix (de_var 3) de_int (fun _ _ => rfl))) (da_cons (de_neg de_int) (da_cons de_non (da_cons de_bl (da_cons de_str (da_cons (de_tup (da_cons de_int da_nil)) da_nil))))))))))
  (dss_one (ds_app (i := 5) (he := (de_frz (dl_lst (da_cons (de_len T.len_ (de_ix (de_var 3) de_int (fun _ _ => rfl))) (da_cons (de_neg de_int) (da_cons de_non (da_cons de_bl (da_cons de_str (da_cons (de_tup (da_cons de_int da_nil)) da_nil)))))))))))))))
   (dss_cons (ds_setI (i := 7) (he := (de_callFC 0 c_Ltake (hr.mono (by decide)) (da_cons (de_len T.len_ (de_var 4)) da_nil))) (hi := de_int))
  (dss_cons (ds_setI (i := 7) (he := (de_bin op_sub sn_sub (de_ix (de_ix (de_var 4) (de_ix (de_var 7) de_int (fun _ _ => rfl)) (fun _ _ => rfl)) de_int (fun _ _ => rfl)) de_int)) (hi := de_int))
  (dss_cons (ds_app (i := 5) (he := (de_frz (dl_lst (da_cons (de_len T.len_ (de_var 4)) (da_cons (de_neg de_int) (da_cons de_non (da_cons de_bl (da_cons de_str (da_cons (de_tup (da_cons de_int da_nil)) da_nil))))))))))
  (dss_one (ds_app (i := 5) (he := (de_frz (dl_lst (da_cons (de_ix (de_ix (de_var 4) (de_ix (de_var 7) de_int (fun _ _ => rfl)) (fun _ _ => rfl)) de_int (fun _ _ => rfl)) (da_cons (de_neg de_int) (da_cons de_non (da_cons de_bl (da_cons de_str (da_cons (de_tup (da_cons de_int da_nil)) da_nil)))))))))))))))
  (dss_cons (ds_set (i := 9) sc_Lbent.nd (de_callFC 0 c_Ltake (hr.mono (by decide)) (da_cons de_int da_nil)))
  (dss_cons (ds_for PassesOwn.never rfl (di_range2 T.range_ (da_cons (de_var 9) (da_cons de_int da_nil))) (dg_name (i := 10) sc_Lbent.nd)
   (dss_one (ds_if (L2.PW.pt (dw_or (dt_cmp op_eq sn_eq (de_var 10) (de_var 9)) (dw_or1 (dt_cmp op_eq sn_eq (de_callFC 0 c_Ltake (hr.mono (by decide)) (da_cons de_int da_nil)) de_int))))
   (dss_one (ds_setI (i := 7) (he := (de_ix (de_ix (de_var 5) (de_var 10) (fun _ _ => rfl)) (de_callFC 0 c_Ltake (hr.mono (by decide)) (da_cons (de_len T.len_ (de_ix (de_var 5) (de_var 10) (fun _ _ => rfl))) da_nil)) (fun _ _ => rfl))) (hi := (de_bin op_add sn_add de_int (de_var 10)))))
   dss_nil)))
  (dss_one (ds_ret (de_callC c_Lsame (hr.mono (by decide)) (da_cons (de_callC c_Lasked (hr.mono (by decide)) (da_cons (de_var 6) (da_cons (de_var 7) da_nil))) (da_cons (de_tup (da_cons de_str (da_cons (de_ix (de_var 8) (de_var 9) (fun _ _ => rfl)) (da_cons (de_neg de_int) (da_cons de_bl da_nil))))) da_nil))))))))))))))))
theorem ok_Lbent (T : Txt K mg) (c_Ltake : Cal P w K mg base CX0 1 "_law_take" ["_law_feed_here", "_law_many"] (feedSp C_Ltake)) (c_Lsame : Cal P w K mg base CX0 5 "_law_same" ["_law_one", "_law_other"] (pureSp (C_Ls 5))) (c_Lasked : Cal P w K mg base CX0 9 "_law_asked" ["_law_which", "_law_told"] (pureSp C_Lasked)) {f : Addr} {fd : FuncData} (F : FunD K "_law_bent" "_law_bent" (defArgs s_Lbent) (defBody s_Lbent) (defScope s_Lbent) [] [] f fd) (hm : mg "_law_bent" = some (.ref f))
    (hl : ∀ ds Q, C_Lbent ds Q → ds.length + 1 = 3) (hC : ∀ ds Q, C_Lbent ds Q → t_Lbent (retF Q) (startF N_Lbent ds)) : Cal P w K mg base CX0 10 "_law_bent" ["_law_feed_here", "_law_scene_here", "_law_thing"] (feedSp C_Lbent) :=
  ⟨f, fd, fn_feed F sc_Lbent hl (by decide) (fun cdv A outer s H E hr B => b_Lbent T c_Ltake c_Lsame c_Lasked hr B) hC, hm, F.kp, F.bindsN fun _ _ _ _ _ _ us hl => match us, hl with | [_, _, _], _ => rfl⟩
end
end K28
end
section
set_option Elab.async false
set_option linter.all false
set_option maxRecDepth 100000
set_option maxHeartbeats 4000000
namespace K28
open PySem PySem.Spec PyProof.Rows L2 DL
section
variable {P : Program} {w : World} {K : PySem.W.Frag} {mg : Str → Option Value} {base : Heap}
/-! ### law: 0 _law_script, 1 _law_feed_here, 2 _law_scene_here, 3 _law_sizes_here, 4 _law_store, 5 _law_thing, 6 _law_kinds, 7 _law_kind, 8 _law_told, 9 _law_group, 10 _law_leaf, 11 _law_side_here -/
abbrev N_law : List Str := ["_law_script", "_law_feed_here", "_law_scene_here", "_law_sizes_here", "_law_store", "_law_thing", "_law_kinds", "_law_kind", "_law_told", "_law_group", "_law_leaf", "_law_side_here"]
theorem sc_law : FnScope N_law ["_law_script"] (defScope s_law) := ⟨rfl, rfl, rfl, by decide +kernel, rfl, by decide +kernel, by decide +kernel⟩
def t_law : DTS :=
  (dSeq (dAsg (dCallF 1 C_Lscene dNil) (dgName 2))
  (dSeq (dAsg (dBin fIx (dVar 2) (dC (.int 0))) (dgName 3))
  (dSeq (dAsg (dBin fIx (dVar 2) (dC (.int 1))) (dgName 4))
  (dSeq (dAsg (dCall C_Lspread (dCons (dBin fIx (dVar 2) (dC (.int 2))) (dCons (dBin fIx (dVar 2) (dC (.int 3))) dNil))) (dgName 5))
  (dSeq (dAsgL 6 (dLst (dCons (dTup (dCons (dBin fSub (dUn fLen (dBin fIx (dVar 3) (dC (.int 0)))) (dC (.int 1))) (dCons (dBin fSub (dUn fLen (dBin fIx (dVar 3) (dC (.int 1)))) (dC (.int 1))) dNil))) (dCons (dTup (dCons (dC (.int 0)) (dCons (dC (.int 0)) dNil))) (dCons (dTup (dCons (dBin fSub (dUn fLen (dBin fIx (dVar 3) (dC (.int 0)))) (dC (.int 1))) (dCons (dC (.int 0)) dNil))) (dCons (dTup (dCons (dC (.int 0)) (dCons (dBin fSub (dUn fLen (dBin fIx (dVar 3) (dC (.int 1)))) (dC (.int 1))) dNil))) dNil))))))
  (dSeq (dApp 6 (dTup (dCons (dCallF 1 C_Ltake (dCons (dUn fLen (dBin fIx (dVar 3) (dC (.int 0)))) dNil)) (dCons (dCallF 1 C_Ltake (dCons (dUn fLen (dBin fIx (dVar 3) (dC (.int 1)))) dNil)) dNil))))
  (dSeq (dFor (dSrcL (dVar 6)) (dgName 7)
   (dSeq (dAsg (dCall C_Lasked (dCons (dBin fMul (dC (.int 3)) (dCallF 1 C_Ltake (dCons (dC (.int 2)) dNil))) (dCons (dFrz (dLst (dCons (dVar 3) (dCons (dVar 4) (dCons (dVar 5) (dCons (dBin fIx (dVar 7) (dC (.int 0))) (dCons (dBin fIx (dVar 7) (dC (.int 1))) dNil))))))) dNil))) (dgName 8))
  (dSeq (dIf (dOr (dTst (dBin fNe (dBin fIx (dVar 8) (dC (.int 0))) (dC (.str "good")))) (dTst (dBin fEq (dUn (fD fIsN) (dBin fIx (dVar 8) (dC (.int 1)))) (dCall C_Lany (dCons (dVar 2) (dCons (dVar 7) dNil))))))
   (dRet (dC (.bl false)))
   dNext)
  (dIf (dAnd (dTst (dUn (fD fNotN) (dBin fIx (dVar 8) (dC (.int 1))))) (dNot (dTst (dCall C_Lfits (dCons (dVar 2) (dCons (dVar 7) (dCons (dBin fIx (dVar 8) (dC (.int 1))) dNil)))))))
   (dRet (dC (.bl false)))
   dNext))))
  (dSeq (dFor (dRng1 (dCons (dUn fLen (dVar 4)) dNil)) (dgName 9)
   (dFor (dSrcL (dFrz (dLst (dCons (dC (.int 0)) (dCons (dC2 gMin (dCons (dC (.int 1)) (dCons (dBin fSub (dBin fIx (dBin fIx (dVar 4) (dVar 9)) (dC (.int 2))) (dC (.int 1))) dNil))) (dCons (dBin fSub (dBin fIx (dBin fIx (dVar 4) (dVar 9)) (dC (.int 2))) (dC (.int 1))) dNil)))))) (dgName 10)
   (dIf (dOr (dTst (dBin fEq (dVar 10) (dC (.int 0)))) (dTst (dBin fEq (dCallF 1 C_Ltake (dCons (dC (.int 2)) dNil)) (dC (.int 0)))))
   (dFor (dRng1 (dCons (dC (.int 2)) dNil)) (dgName 11)
   (dSeq (dAsg (dCall C_Lasked (dCons (dBin fAdd (dBin fSub (dC (.int 2)) (dVar 11)) (dBin fMul (dC (.int 3)) (dCallF 1 C_Ltake (dCons (dC (.int 2)) dNil)))) (dCons (dFrz (dLst (dCons (dVar 3) (dCons (dVar 4) (dCons (dVar 5) (dCons (dVar 9) (dCons (dVar 10) dNil))))))) dNil))) (dgName 8))
  (dIf (dNot (dTst (dCall (C_Ls 5) (dCons (dVar 8) (dCons (dTup (dCons (dC (.str "good")) (dCons (dCall C_Lclear (dCons (dVar 2) (dCons (dVar 9) (dCons (dVar 10) (dCons (dVar 11) dNil))))) dNil))) dNil)))))
   (dRet (dC (.bl false)))
   dNext)))
   dNext)))
  (dRet (dCallF 1 C_Lbent (dCons (dVar 2) (dCons (dVar 5) dNil))))))))))))
theorem b_law (T : Txt K mg) (c_Lscene : Cal P w K mg base CX0 4 "_law_scene" ["_law_feed_here"] (feedSp C_Lscene)) (c_Lspread : Cal P w K mg base CX0 2 "_law_spread" ["_law_ticks", "_law_done"] (pureSp C_Lspread)) (c_Ltake : Cal P w K mg base CX0 1 "_law_take" ["_law_feed_here", "_law_many"] (feedSp C_Ltake)) (c_Lasked : Cal P w K mg base CX0 9 "_law_asked" ["_law_which", "_law_told"] (pureSp C_Lasked)) (c_Lany : Cal P w K mg base CX0 3 "_law_any" ["_law_scene_here", "_law_kind"] (pureSp C_Lany)) (c_Lfits : Cal P w K mg base CX0 3 "_law_fits" ["_law_scene_here", "_law_kind", "_law_told"] (pureSp C_Lfits)) (c_Lsame : Cal P w K mg base CX0 5 "_law_same" ["_law_one", "_law_other"] (pureSp (C_Ls 5))) (c_Lclear : Cal P w K mg base CX0 2 "_law_clear" ["_law_scene_here", "_law_group", "_law_leaf", "_law_side_here"] (pureSp C_Lclear)) (c_Lbent : Cal P w K mg base CX0 10 "_law_bent" ["_law_feed_here", "_law_scene_here", "_law_thing"] (feedSp C_Lbent)) {f : Addr} {cdv : Value} {A : Around} {outer : List Env} {s : Shared} {H : Hp} {E : XK} (hr : Room 10 (A.deeper (envOfC "law" (defScope s_law) s.heap.objs.size f cdv))) (B : Ent) :
    PSs (cxOf CX0 P w K mg base N_law "law" (defScope s_law) f cdv A outer s H E).nox ((defBody s_law).drop 1) (liftS B t_law) := by
  exact (dss_cons (ds_set (i := 2) sc_law.nd (de_callFC 1 c_Lscene (hr.mono (by decide)) da_nil))
  (dss_cons (ds_set (i := 3) sc_law.nd (de_ix (de_var 2) de_int (fun _ _ => rfl)))
  (dss_cons (ds_set (i := 4) sc_law.nd (de_ix (de_var 2) de_int (fun _ _ => rfl)))
  (dss_cons (ds_set (i := 5) sc_law.nd (de_callC c_Lspread (hr.mono (by decide)) (da_cons (de_ix (de_var 2) de_int (fun _ _ => rfl)) (da_cons (de_ix (de_var 2) de_int (fun _ _ => rfl)) da_nil))))
  (dss_cons (ds_setL (i := 6) sc_law.nd (dl_lst (da_cons (de_tup (da_cons (de_bin op_sub sn_sub (de_len T.len_ (de_ix (de_var 3) de_int (fun _ _ => rfl))) de_int) (da_cons (de_bin op_sub sn_sub (de_len T.len_ (de_ix (de_var 3) de_int (fun _ _ => rfl))) de_int) da_nil))) (da_cons (de_tup (da_cons de_int (da_cons de_int da_nil))) (da_cons (de_tup (da_cons (de_bin op_sub sn_sub (de_len T.len_ (de_ix (de_var 3) de_int (fun _ _ => rfl))) de_int) (da_cons de_int da_nil))) (da_cons (de_tup (da_cons de_int (da_cons (de_bin op_sub sn_sub (de_len T.len_ (de_ix (de_var 3) de_int (fun _ _ => rfl))) de_int) da_nil))) da_nil))))))
  (dss_cons (ds_app (i := 6) (he := (de_tup (da_cons (de_callFC 1 c_Ltake (hr.mono (by decide)) (da_cons (de_len T.len_ (de_ix (de_var 3) de_int (fun _ _ => rfl))) da_nil)) (da_cons (de_callFC 1 c_Ltake (hr.mono (by decide)) (da_cons (de_len T.len_ (de_ix (de_var 3) de_int (fun _ _ => rfl))) da_nil)) da_nil)))))
  (dss_cons (ds_for PassesOwn.never rfl (di_list (de_var 6)) (dg_name (i := 7) sc_law.nd)
   (dss_cons (ds_set (i := 8) sc_law.nd (de_callC c_Lasked (hr.mono (by decide)) (da_cons (de_bin op_mul sn_mul de_int (de_callFC 1 c_Ltake (hr.mono (by decide)) (da_cons de_int da_nil))) (da_cons (de_frz (dl_lst (da_cons (de_var 3) (da_cons (de_var 4) (da_cons (de_var 5) (da_cons (de_ix (de_var 7) de_int (fun _ _ => rfl)) (da_cons (de_ix (de_var 7) de_int (fun _ _ => rfl)) da_nil))))))) da_nil))))
  (dss_cons (ds_if (L2.PW.pt (dw_or (dt_cmp op_ne sn_ne (de_ix (de_var 8) de_int (fun _ _ => rfl)) de_str) (dw_or1 (dt_cmp op_eq sn_eq (de_isN (de_ix (de_var 8) de_int (fun _ _ => rfl))) (de_callC c_Lany (hr.mono (by decide)) (da_cons (de_var 2) (da_cons (de_var 7) da_nil)))))))
   (dss_one (ds_ret de_bl))
   dss_nil)
  (dss_one (ds_if (L2.PW.pt (dw_and (dt_notN (de_ix (de_var 8) de_int (fun _ _ => rfl))) (dw_and1 (dt_not (dt_val (de_callC c_Lfits (hr.mono (by decide)) (da_cons (de_var 2) (da_cons (de_var 7) (da_cons (de_ix (de_var 8) de_int (fun _ _ => rfl)) da_nil)))))))))
   (dss_one (ds_ret de_bl))
   dss_nil)))))
  (dss_cons (ds_for PassesOwn.never rfl (di_range1 T.range_ (da_cons (de_len T.len_ (de_var 4)) da_nil)) (dg_name (i := 9) sc_law.nd)
   (dss_one (ds_for PassesOwn.never rfl (di_list (de_frz (dl_lst (da_cons de_int (da_cons (de_min2 rfl T.min_ (da_cons de_int (da_cons (de_bin op_sub sn_sub (de_ix (de_ix (de_var 4) (de_var 9) (fun _ _ => rfl)) de_int (fun _ _ => rfl)) de_int) da_nil))) (da_cons (de_bin op_sub sn_sub (de_ix (de_ix (de_var 4) (de_var 9) (fun _ _ => rfl)) de_int (fun _ _ => rfl)) de_int) da_nil)))))) (dg_name (i := 10) sc_law.nd)
   (dss_one (ds_if (L2.PW.pt (dw_or (dt_cmp op_eq sn_eq (de_var 10) de_int) (dw_or1 (dt_cmp op_eq sn_eq (de_callFC 1 c_Ltake (hr.mono (by decide)) (da_cons de_int da_nil)) de_int))))
   (dss_one (ds_for PassesOwn.never rfl (di_range1 T.range_ (da_cons de_int da_nil)) (dg_name (i := 11) sc_law.nd)
   (dss_cons (ds_set (i := 8) sc_law.nd (de_callC c_Lasked (hr.mono (by decide)) (da_cons (de_bin op_add sn_add (de_bin op_sub sn_sub de_int (de_var 11)) (de_bin op_mul sn_mul de_int (de_callFC 1 c_Ltake (hr.mono (by decide)) (da_cons de_int da_nil)))) (da_cons (de_frz (dl_lst (da_cons (de_var 3) (da_cons (de_var 4) (da_cons (de_var 5) (da_cons (de_var 9) (da_cons (de_var 10) da_nil))))))) da_nil))))
  (dss_one (ds_if (dt_not (dt_val (de_callC c_Lsame (hr.mono (by decide)) (da_cons (de_var 8) (da_cons (de_tup (da_cons de_str (da_cons (de_callC c_Lclear (hr.mono (by decide)) (da_cons (de_var 2) (da_cons (de_var 9) (da_cons (de_var 10) (da_cons (de_var 11) da_nil))))) da_nil))) da_nil)))))
   (dss_one (ds_ret de_bl))
   dss_nil)))))
   dss_nil)))))
  (dss_one (ds_ret (de_callFC 1 c_Lbent (hr.mono (by decide)) (da_cons (de_var 2) (da_cons (de_var 5) da_nil)))))))))))))
end
end K28
end
section
set_option Elab.async false
set_option linter.all false
set_option maxRecDepth 100000
set_option maxHeartbeats 4000000
/-! by hand over HandS: NotUsable.__init__, the feed's turn -/
namespace K28
open PySem PySem.Spec PyProof.Rows L2 DL
section
variable {P : Program} {w : World} {K : PySem.W.Frag} {mg : Str → Option Value} {base : Heap}
theorem sc_init : FnScope ["self", "word", "at"] ["self", "word", "at"] (defScope s_init) := ⟨rfl, rfl, rfl, by decide +kernel, rfl, by decide +kernel, by decide +kernel⟩
theorem ok_init {Cl f : Addr} {fd : FuncData} (O : OexC K Cl) (n1 : PySem.W.findIn K (.ref Cl) "word" = some none) (n2 : PySem.W.findIn K (.ref Cl) "at" = some none) (F : FunD K "__init__" "NotUsable.__init__" (defArgs s_init) (defBody s_init) (defScope s_init) [] [] f fd) :
    FnOk P w K mg base CX0 1 f fd ["self", "word", "at"] (spInit Cl) := by
  refine F.ok sc_init (fun vs H Q E h => ?_) (fun cdv A outer s H vs Q E hr h => ⟨_, PSs.nox (pss_cons (ps_ost (pv 0) (pv 1)) (pss_one (ps_ost (pv 0) (pv 2)))), ?_⟩)
  · obtain ⟨a, w, z, rfl, _⟩ := h
    rfl
  · obtain ⟨a, w, z, rfl, ha, q⟩ := h
    refine ⟨_, rfl, _, rfl, a, Cl, rfl, O, n1, .inl ⟨ha, fun dx hd hne => ?_⟩⟩
    refine ⟨_, rfl, _, rfl, a, Cl, rfl, O, n2, .inr ⟨dx, [("word", w)], upd_same, ?_, (by show 1 ≤ 900; decide), q dx hd hne⟩⟩
    rw [upd_ne hne, upd_same]
theorem sc_Ltake : FnScope ["_law_feed_here", "_law_many", "_law_place"] ["_law_feed_here", "_law_many"] (defScope s_Ltake) := ⟨rfl, rfl, rfl, by decide +kernel, rfl, by decide +kernel, by decide +kernel⟩
theorem ok_Ltake (T : Txt K mg) {f : Addr} {fd : FuncData} (F : FunD K "_law_take" "_law_take" (defArgs s_Ltake) (defBody s_Ltake) (defScope s_Ltake) [] [] f fd) (hm : mg "_law_take" = some (.ref f)) :
    Cal P w K mg base CX0 1 "_law_take" ["_law_feed_here", "_law_many"] (feedSp C_Ltake) := by
  refine ⟨f, fd, ?_, hm, F.kp, F.bindsN fun _ _ _ _ _ _ us hl => match us, hl with | [_, _], _ => rfl⟩
  refine F.ok sc_Ltake (fun vs H Q E h => ?_) (fun cdv A outer s H vs Q E hr h => ⟨_, PSs.nox
    (pss_cons (ps_set (i := 2) sc_Ltake.nd rfl (Or.inl rfl) (pe_ix ix_list (pv 0) pe_int (fun _ _ => rfl)))
    (pss_cons (ps_asg (pe_op op_add (pv 2) pe_int) (pg_sub (pv 0) pe_int set_list (fun _ => rfl)))
    (pss_cons (ps_asg (pe_op op_mod (pe_callTy call_int1 rfl T.int_ (by decide +kernel) (pa_cons (pe_op op_add (pe_op op_add (pe_op op_mul (pe_ix ix_list (pv 0) pe_int (fun _ _ => rfl)) pe_int) (pe_op op_mul pe_int (pv 2))) pe_int) pa_nil)) pe_int) (pg_sub (pv 0) pe_int set_list (fun _ => rfl)))
    (pss_cons (ps_if (pt_cmpR op_lt (pv 2) (pe_callB call_len_seq rfl T.len_ PySem.boot_len (pa_cons (pe_ix ix_list (pv 0) pe_int (fun _ _ => rfl)) pa_nil)) (nomark _))
      (pss_one (ps_ret (pe_op op_mod (pe_callTy call_int1 rfl T.int_ (by decide +kernel) (pa_cons (pe_ix ix_list (pe_ix ix_list (pv 0) pe_int (fun _ _ => rfl)) (pv 2) (fun _ _ => rfl)) pa_nil)) (pv 1)))) pss_nil)
    (pss_one (ps_ret (pe_op op_mod (pe_op op_fdiv (pe_ix ix_list (pv 0) pe_int (fun _ _ => rfl)) pe_int) (pv 1)))))))), ?_⟩)
  · obtain ⟨S, g, us, ds, P', rfl, _, _, _, r, ⟨many, rfl, _⟩, _⟩ := h
    have := r.len
    simp at this
    simp [this]
  · obtain ⟨S, fa, us, ds, P', rfl, s1, hS, ⟨m, p, g, ns, hf, hg, hp⟩, r, ⟨many, rfl, hmany, hP⟩, k⟩ := h
    have r1 : us = [.int many] := by
      cases r with
      | cons a b => cases a; cases b; rfl
    subst r1
    have hgne : g ≠ fa := fun z => by rw [z, hS] at hg; cases hg
    have hgH : ∀ xs, upd H fa (.lst xs) g = some (.lst (ns.map V.int)) := fun xs => by rw [upd_ne hgne]; exact s1 _ _ hg
    -- place
    refine ⟨_, rfl, fa, _, 1, .int p, rfl, rfl, SqL.of hf, rfl, ?_⟩
    -- feed[1]
    refine ⟨_, rfl, _, _, rfl, rfl, ?_⟩
    refine ⟨_, rfl, fa, _, 1, 1, rfl, rfl, hf, rfl, ?_⟩
    have hm1 : CMul m 40692 := .inr ⟨by decide, by decide⟩
    have hm2 : CMul 17 p := .inl ⟨by decide, by decide⟩
    refine ⟨_, rfl, fa, _, 0, .int m, rfl, rfl, SqL.of upd_same, rfl, _, _, rfl, rfl, hm1, ?_⟩
    refine ⟨_, rfl, _, _, rfl, rfl, hm2, _, _, rfl, rfl, _, _, rfl, rfl, .inl ⟨_, rfl, ?_⟩⟩
    refine ⟨_, _, rfl, rfl, (by show (0 : Int) < 2147483549; decide), ?_⟩
    refine ⟨_, rfl, fa, _, 0, 0, rfl, rfl, upd_same, rfl, ?_⟩
    -- the feed as it stands now
    have hf2 : upd (upd H fa (.lst ([V.int m, V.int p, V.ref g].set 1 (V.int (p + 1))))) fa (.lst (([V.int m, V.int p, V.ref g].set 1 (V.int (p + 1))).set 0 (V.int ((m * 40692 + 17 * p + 5) % 2147483549)))) fa = some (.lst [V.int ((m * 40692 + 17 * p + 5) % 2147483549), V.int (p + 1), V.ref g]) := upd_same
    have hg2 : upd (upd H fa (.lst ([V.int m, V.int p, V.ref g].set 1 (V.int (p + 1))))) fa (.lst (([V.int m, V.int p, V.ref g].set 1 (V.int (p + 1))).set 0 (V.int ((m * 40692 + 17 * p + 5) % 2147483549)))) g = some (.lst (ns.map V.int)) := by rw [upd_ne hgne]; exact hgH _
    have same2 : Same S (upd (upd H fa (.lst ([V.int m, V.int p, V.ref g].set 1 (V.int (p + 1))))) fa (.lst (([V.int m, V.int p, V.ref g].set 1 (V.int (p + 1))).set 0 (V.int ((m * 40692 + 17 * p + 5) % 2147483549))))) := same_mut (same_mut s1 hS) hS
    have keep2 : ∀ (a : Addr) (o : HO), a ≠ fa → H a = some o → upd (upd H fa (.lst ([V.int m, V.int p, V.ref g].set 1 (V.int (p + 1))))) fa (.lst (([V.int m, V.int p, V.ref g].set 1 (V.int (p + 1))).set 0 (V.int ((m * 40692 + 17 * p + 5) % 2147483549)))) a = some o := fun a o ha e => by rw [upd_ne ha, upd_ne ha]; exact e
    have fin : ∀ n : Int, Q (.int (n % many)) (upd (upd H fa (.lst ([V.int m, V.int p, V.ref g].set 1 (V.int (p + 1))))) fa (.lst (([V.int m, V.int p, V.ref g].set 1 (V.int (p + 1))).set 0 (V.int ((m * 40692 + 17 * p + 5) % 2147483549))))) := fun n => k (.int (n % many)) S _ _ (hP _ (Int.emod_nonneg n (by omega)) (Int.emod_lt_of_pos n hmany)) (Same.refl S) same2 ⟨_, p + 1, g, ns, hf2, hg, by omega⟩ keep2 (fun a o q => .inl q) (.int _)
    -- the digits
    refine ⟨_, rfl, _, rfl, fa, _, 2, .ref g, rfl, rfl, SqL.of hf2, rfl, g, _, rfl, .inl (SqL.of hg2), _, _, rfl, rfl, _, rfl, ?_⟩
    refine ite2 (fun c => ?_) (fun c => ?_)
    · have c1 : p < ((ns.map V.int).length : Int) := of_decide_eq_true c
      rw [List.length_map] at c1
      have hpn : p.toNat < ns.length := by omega
      have hat : atI (ns.map V.int) p = some (.int ns[p.toNat]) := by
        rw [atI_z _ _ hp, List.getElem?_map, List.getElem?_eq_getElem hpn]
        rfl
      refine ⟨_, rfl, fa, _, 2, .ref g, rfl, rfl, SqL.of hf2, rfl, _, rfl, g, _, p, _, rfl, rfl, SqL.of hg2, hat, .inl ⟨_, rfl, ?_⟩⟩
      exact ⟨_, rfl, _, _, rfl, rfl, hmany, fin _⟩
    · refine ⟨_, rfl, fa, _, 0, _, rfl, rfl, SqL.of hf2, rfl, _, _, rfl, rfl, ⟨by decide, by decide⟩, ?_⟩
      exact ⟨_, rfl, _, _, rfl, rfl, hmany, fin _⟩
end
end K28
end
section
set_option Elab.async false
set_option linter.all false
set_option maxRecDepth 100000
set_option maxHeartbeats 4000000
namespace K28
open PySem PySem.Spec PyProof.Rows L2 DL
section
variable {P : Program} {w : World} {K : PySem.W.Frag} {mg : Str → Option Value} {base : Heap}
theorem ok_Lfeed (T : Txt K mg) {f : Addr} {fd : FuncData} (F : FunD K "_law_feed" "_law_feed" (defArgs s_Lfeed) (defBody s_Lfeed) (defScope s_Lfeed) [] [] f fd)
    (hC : ∀ a ns, ns.length ≤ 63 → t_Lfeed a ns (retE fedD) (some (.pin a) :: List.replicate (N_Lfeed.length - 1) none)) : FnOk P w K mg base CX0 1 f fd ["_law_script"] (spFeed K) := by
  refine F.ok sc_Lfeed (fun vs H Q E ⟨a, ns, e, _⟩ => by rw [e]; rfl) fun cdv A outer s H vs Q E hr ⟨a, ns, e, hS, hl, k⟩ => ?_
  subst e
  refine ⟨liftS ⟨H, H, none⟩ (t_Lfeed a ns), PSs.nox (b_Lfeed T hr _ hS), H, _, retE fedD, rst_pin (by decide), hC a ns hl, ⟨fun δ' S' H' σ' q s1 R1 => ?_, fun d δ' S' H' σ' v q s1 R1 r1 => ?_, fun δ' S' H' σ' q s1 R1 => q.elim, fun δ' S' H' σ' q s1 R1 => q.elim⟩⟩
  · obtain ⟨m, zs, e⟩ : fedD .non := q
    cases e
  · obtain ⟨m, zs, e⟩ : fedD d := q
    subst e
    cases r1 with
    | lst h1 h2 =>
      cases h2 with
      | cons a1 b1 =>
        cases b1 with
        | cons a2 b2 =>
          cases b2 with
          | cons a3 b3 =>
            cases b3
            cases a1
            cases a2
            cases a3 with
            | lst h3 h4 =>
              have e4 := Reps.ints h4
              subst e4
              exact k _ _ _ _ _ (R1.ex _ _ h1) (R1.ex _ _ h3)
end
end K28
end
section
set_option Elab.async false
set_option linter.all false
set_option maxRecDepth 100000
set_option maxHeartbeats 4000000
/-! calls by keyword over plain data; isinstance of a caught error that has fields -/
namespace DL
open PySem PySem.Spec PyProof.Rows L2
section
variable {X : Cx} {B : Ent} {S H : Hp} {σ : L2.St} {δ : En} {kws : List Keyword} {t t' : TA} {e : Expr} {es : List Expr} {te : DTE} {tr ta tk : DTA} {nm : Option Str} {kpos p pos : Pos}
theorem PK.imp (h : PK X kws t) (f : ∀ σ H Q, t' σ H Q → t σ H Q) : PK X kws t' := ⟨fun pos pins s σ H Q I q => h.run pos pins s σ H Q I (f σ H Q q)⟩
theorem dk_nil : PK X [] (liftA B dNil) := PK.imp pk_nil fun σ H Q ⟨S, δ, P, R0, h, k⟩ => k _ δ S H _ h (Same.refl S) R0 .nil
theorem dk_cons (ha : PE X e (lift B te)) (hr : PK X kws (liftA B tr)) : PK X (⟨nm, e, kpos⟩ :: kws) (liftA B (dCons te tr)) :=
  PK.imp (pk_cons ha hr) fun σ H Q ⟨S, δ, P, R0, h, k⟩ => ⟨S, δ, _, R0, h, fun r δ1 S1 H1 v q s1 R1 r1 => by
    obtain ⟨d, δ2, S2, q2, s2, R2, rd⟩ := val_ok R1 r1 q
    exact ⟨S2, δ2, _, R2, q2, fun ds δ3 S3 H3 vs q3 s3 R3 r3 => k _ δ3 S3 H3 _ q3 ((s1.trans s2).trans s3) R3 (.cons (Rep.up rd s3) r3)⟩⟩
/-- the last ones by keyword, from the last parameter on -/
abbrev revG {α : Type} (us ws : List α) : List α := us ++ ws.reverse
theorem vals_rev : ∀ {zs : List V} {ws : List Value}, Vals zs ws → Vals zs.reverse ws.reverse
  | _, _, .nil => .nil
  | _, _, .cons a b => by
    rw [List.reverse_cons, List.reverse_cons]
    exact (vals_rev b).append (.cons a .nil)
theorem reps_rev {S : Hp} : ∀ {vs : List V} {ds : List D}, Reps S vs ds → Reps S vs.reverse ds.reverse
  | _, _, .nil => .nil
  | _, _, .cons a b => by
    rw [List.reverse_cons, List.reverse_cons]
    exact (reps_rev b).app (.cons a .nil)
theorem kbn_of {K : PySem.W.Frag} {x qual : Str} {params : Arguments} {body : List Stmt} {scope : Scope} {f : Addr} {fd : FuncData} {ps ks : List Str} (n : Nat) (F : FunD K x qual params body scope [] [] f fd)
    (h : ∀ (kV doc pm : Value) (an : Option Addr) (cdv ct : Value) (us ws : List Value), us.length = n → ws.length = ks.length → bindArgs (PySem.W.fnOf x qual params body scope .none kV doc pm an cdv ct) ⟨us, ks.zip ws⟩ = pure (ps.zip (revG us ws))) :
    KBn K fd ps n ks revG revG := by
  obtain ⟨oc, od, dV, kV, doc, pm, an, cdv, ct, osl, e0, lk, hcd, hD, hK⟩ := F.ex
  rcases hD with ⟨_, e⟩ | ⟨e, _⟩
  · subst e
    subst e0
    exact ⟨fun s us ws X l1 l2 => BindsTo.of_eq (h kV doc pm an cdv ct us ws l1 l2), fun r1 r2 => r1.append (vals_rev r2)⟩
  · exact absurd rfl e
/-- the module's x, called with keywords -/
def CalK (P : Program) (w : World) (K : PySem.W.Frag) (mg : Str → Option Value) (base : Heap) (CXx : CXT) (k : Nat) (x : Str) (ps : List Str) (sp : Sp) (n : Nat) (ks : List Str) : Prop :=
  ∃ f fd, FnOk P w K mg base CXx k f fd ps sp ∧ mg x = some (.ref f) ∧ PySem.W.keepIn K (.ref f) = true ∧ KBn K fd ps n ks revG revG
def dCallXK (n m : Nat) (C : DCX) (xc : V → V → Prop) (ta tk : DTA) : DTE := fun δ Q => ta δ fun ds δ1 => tk δ1 fun es δ2 => (ds.length = n ∧ es.length = m) ∧ C (revG ds es) (fun d => Q (.dat d) δ2) xc
variable {k n : Nat} {x : Str} {ps ks : List Str} {CXx : DCX} {sp : Sp} {E : XK} {CX : CXT} {f : Addr} {fd : FuncData} {g : List Value → List Value → List Value} {gV : List V → List V → List V}
theorem kx_end {Cl : Addr} {xc : V → V → Prop} (hB : B.f = none) (Q : V → Hp → Prop) (h : lift B (dCallXK n ks.length CXx xc ta tk) σ H Q) : tCallN n ks.length (pureSpX Cl CXx) revG (EofC Cl B.H0 xc) (liftA B ta) (liftA B tk) σ H Q := by
  obtain ⟨S, δ, P, R0, h, k⟩ := h
  exact ⟨S, δ, _, R0, h, fun ds δ1 S1 H1 vs q s1 R1 r1 => ⟨S1, δ1, _, R1, q, fun es δ2 S2 H2 ws q2 s2 R2 r2 => by
    obtain ⟨⟨l1, l2⟩, q2⟩ := q2
    refine ⟨by rw [r1.len]; exact l1, by rw [r2.len]; exact l2, S2, _, _, xc, R2.ex, (r1.up s2).app (reps_rev r2), q2, fun d S3 H3 v q3 o r3 => k _ δ2 S3 H3 v q3 ((s1.trans s2).trans o.s1) (R2.out o) r3, fun cls d H' ⟨z1, z2, z3⟩ => ⟨z1, (fun a o q' => z2 a o (R2.keep a o q' (by rw [hB]; intro y; cases y))), z3⟩⟩⟩⟩
theorem de_callXK {Cl : Addr} {xc : V → V → Prop} (c : CalK X.prog X.w X.K X.mg X.base (L2.CX X.prog X.w) k x ps (pureSpX Cl CXx) n ks) (hr : Room k X.A) (hx : Passes (L2.CX X.prog X.w) X (EofC Cl B.H0 xc)) (hB : B.f = none) (ha : PA X (e :: es) (liftA B ta)) (hkw : PK X kws (liftA B tk)) (hg : Gl X x := by rfl)
    (hall : (backToKw pos (keywordEach kws X.env)).all (·.1.isSome) = true := by rfl) (hks : (backToKw pos (keywordEach kws X.env)).filterMap (·.1) = ks := by rfl)
    (hdb : (x == ("__debug__" : Str)) = false := by decide) (he : starEach (e :: es) X.env = (false, eval e X.env) :: starEach es X.env := by rfl)
    (hpl : ((backTo pos (starEach (e :: es) X.env)).any (·.1) || (backToKw pos (keywordEach kws X.env)).any (·.1.isNone)) = false := by rfl) :
    PE X (.Call (.Name x p) (e :: es) kws pos) (lift B (dCallXK n ks.length CXx xc ta tk)) := by
  obtain ⟨f, fd, F, hm, hk, hb⟩ := c
  exact PE.imp (pe_callN F hr hg hm hk hb hx ha hkw hall hks hdb he hpl) fun σ H Q h => kx_end hB Q h
theorem pe_callN0 (F : FnOk X.prog X.w X.K X.mg X.base CX k f fd ps sp) (hr : Room k X.A) (hg : Gl X x) (hm : X.mg x = some (.ref f)) (hk : PySem.W.keepIn X.K (.ref f) = true) (hb : KBn X.K fd ps 0 ks g gV) (hx : Passes CX X E) (hkw : PK X kws t)
    (hall : (backToKw pos (keywordEach kws X.env)).all (·.1.isSome) = true) (hks : (backToKw pos (keywordEach kws X.env)).filterMap (·.1) = ks) (hdb : (x == ("__debug__" : Str)) = false)
    (hpl : ((backTo pos (starEach [] X.env)).any (·.1) || (backToKw pos (keywordEach kws X.env)).any (·.1.isNone)) = false) :
    PE X (.Call (.Name x p) [] kws pos) (tCallN 0 ks.length sp gV E tNil t) := by
  refine ⟨fun pins s σ H Q I hq => wpAny_Call_Name_kw (ld_glob I hg hm (PySem.W.callWith_KW0 (h₀ := X.base) I.ok.mod.kin hk hall (thn (hkw.run pos pins s σ H _ I hq) fun ws s2 ⟨zs, H2, I2, rz, l1, l2, q2⟩ => ⟨I2.kIn, ?_⟩) hpl) hdb)⟩
  rw [hks]
  exact run_fnN (us := []) (vs := []) F hr hb hx I2 .nil rz rfl l2 q2
theorem de_callXK0 {Cl : Addr} {xc : V → V → Prop} (c : CalK X.prog X.w X.K X.mg X.base (L2.CX X.prog X.w) k x ps (pureSpX Cl CXx) 0 ks) (hr : Room k X.A) (hx : Passes (L2.CX X.prog X.w) X (EofC Cl B.H0 xc)) (hB : B.f = none) (hkw : PK X kws (liftA B tk)) (hg : Gl X x := by rfl)
    (hall : (backToKw pos (keywordEach kws X.env)).all (·.1.isSome) = true := by rfl) (hks : (backToKw pos (keywordEach kws X.env)).filterMap (·.1) = ks := by rfl)
    (hdb : (x == ("__debug__" : Str)) = false := by decide) (hpl : ((backTo pos (starEach [] X.env)).any (·.1) || (backToKw pos (keywordEach kws X.env)).any (·.1.isNone)) = false := by rfl) :
    PE X (.Call (.Name x p) [] kws pos) (lift B (dCallXK 0 ks.length CXx xc dNil tk)) := by
  obtain ⟨f, fd, F, hm, hk, hb⟩ := c
  exact PE.imp (pe_callN0 F hr hg hm hk hb hx hkw hall hks hdb hpl) fun σ H Q h => by
    obtain ⟨S, δ, P, R0, h, k⟩ := h
    have h2 := kx_end (Cl := Cl) (ta := dNil) hB Q ⟨S, δ, P, R0, h, k⟩
    obtain ⟨S1, δ1, P1, R1, h1, k1⟩ := h2
    exact k1 [] δ1 S1 H [] h1 (Same.refl _) R1 .nil
/-! ### isinstance(e, C) of a caught error with fields -/
structure IsX (K : PySem.W.Frag) (D : Addr) : Prop where
  hcl : (PySem.W.clsIn K D).isSome = true
  hg : PySem.W.findIn K (.ref D) "__getattribute__" = some (some (.builtin "BaseException.__getattribute__"))
  hk : PySem.W.findIn K (.ref D) "__getattr__" = some none
  hs : PySem.W.subIn K (.ref D) (.type "BaseException") = some true
  ha : PySem.W.findIn K (.ref D) "__class__" = some (some (.builtin "object.__class__"))
  hn : PySem.W.specialIn K (.builtin "object.__class__") "__get__" = some (some (.builtin "getset_descriptor.__get__"))
  ht : PySem.W.takesIn K (.builtin "object.__class__") = some true
  hm : PySem.W.mroIn K D (.type "object") = some true
def rIsX (K : PySem.W.Frag) (D a : Addr) (cls : Value) (d : Option Addr) : List V → Hp → VK → Prop := fun xs H Q => ∃ (c : V) (cv : Value) (b : Bool) (dd : Addr) (fs : List (Str × V)), xs = [.ref a, c] ∧ cls = .ref D ∧ d = some dd ∧ H dd = some (.xd fs) ∧ (∀ u, RelV c u → u = cv) ∧ PySem.W.kitOne K (.ref D) cv = some b ∧ Q (.bl b) H
theorem call_isX {a D : Addr} {oe : Obj} {cls : Value} {d : Option Addr} {pn : List (Addr × Obj)} (C : IsX X.K D) (hz : Zc cls d oe) (hf : ∃ vs, oe.data = .fields vs) : CallR (X.suite a ((a, oe) :: pn)) (.builtin "isinstance") (rIsX X.K D a cls d) := fun pins s σ H xs us Q I r h => by
  obtain ⟨c, cv, b, dd, fs, e1, e2, e3, hd, hcv, ek, q⟩ := h
  subst e1
  subst e2
  subst e3
  cases r with
  | cons rx rr =>
    cases rr with
    | cons rt rr =>
      cases rr
      cases rx
      obtain rfl := hcv _ rt
      have hpin := (I.pin (a, oe) (List.mem_append.mpr (.inl List.mem_cons_self))).1
      obtain ⟨vs, hv⟩ := hf
      obtain ⟨mA, hns, _⟩ : ObjOk X.prog X.w H s.heap dd (.xd fs) := I.hok dd _ hd
      obtain ⟨od, ho, _⟩ := lookIn_ns hns
      have J : PySem.W.InstAt s.heap a oe D (some od) := ⟨hpin, hz.1, by unfold PySem.W.notCls; rw [hv] <;> rfl, by rw [hz.2]; exact ho⟩
      exact PySem.W.kia_one (PySem.W.kitx_exc C.hcl C.hg C.hk C.hs C.ha C.hn C.ht C.hm) I.kIn J ek (fun z => nomatch z) fun tk => ⟨.bl b, H, I.kept (t' := tk) fun _ _ z => z, rfl, q⟩
end
end DL
end
section
set_option Elab.async false
set_option linter.all false
set_option maxRecDepth 100000
set_option maxHeartbeats 4000000
namespace K28
open PySem PySem.Spec PyProof.Rows L2 DL
section
variable {P : Program} {w : World} {K : PySem.W.Frag} {mg : Str → Option Value} {base : Heap}
def tryOf : List Stmt → List Stmt
  | [.Try b _ _ _ _] => b
  | _ => []
/-! ### _law_asked: 0 _law_which, 1 _law_told, 2 e -/
abbrev N_Lasked : List Str := ["_law_which", "_law_told", "e"]
theorem sc_Lasked : FnScope N_Lasked ["_law_which", "_law_told"] (defScope s_Lasked) := ⟨rfl, rfl, rfl, by decide +kernel, rfl, by decide +kernel, by decide +kernel⟩
def t_Ltry (xc : V → V → Prop) : DTS :=
  (dSeq (dIf (dTst (dBin fEq (dVar 0) (dC (.int 0))))
   (dRet (dTup (dCons (dC (.str "good")) (dCons (dCallX C_free_place xc (dCons (dBin fIx (dVar 1) (dC (.int 0))) (dCons (dBin fIx (dVar 1) (dC (.int 1))) (dCons (dBin fIx (dVar 1) (dC (.int 2))) (dCons (dBin fIx (dVar 1) (dC (.int 3))) (dCons (dBin fIx (dVar 1) (dC (.int 4))) dNil)))))) dNil))))
   dNext)
  (dSeq (dIf (dTst (dBin fEq (dVar 0) (dC (.int 1))))
   (dRet (dTup (dCons (dC (.str "good")) (dCons (dCallX C_clear_across xc (dCons (dBin fIx (dVar 1) (dC (.int 0))) (dCons (dBin fIx (dVar 1) (dC (.int 1))) (dCons (dBin fIx (dVar 1) (dC (.int 2))) (dCons (dBin fIx (dVar 1) (dC (.int 3))) (dCons (dBin fIx (dVar 1) (dC (.int 4))) dNil)))))) dNil))))
   dNext)
  (dSeq (dIf (dTst (dBin fEq (dVar 0) (dC (.int 2))))
   (dRet (dTup (dCons (dC (.str "good")) (dCons (dCallX C_clear_up xc (dCons (dBin fIx (dVar 1) (dC (.int 0))) (dCons (dBin fIx (dVar 1) (dC (.int 1))) (dCons (dBin fIx (dVar 1) (dC (.int 2))) (dCons (dBin fIx (dVar 1) (dC (.int 3))) (dCons (dBin fIx (dVar 1) (dC (.int 4))) dNil)))))) dNil))))
   dNext)
  (dSeq (dIf (dTst (dBin fEq (dVar 0) (dC (.int 3))))
   (dRet (dTup (dCons (dC (.str "good")) (dCons (dCallXK 0 (["b", "a", "spread", "stock", "lists"] : List Str).length C_free_place xc dNil (dCons (dBin fIx (dVar 1) (dC (.int 4))) (dCons (dBin fIx (dVar 1) (dC (.int 3))) (dCons (dBin fIx (dVar 1) (dC (.int 2))) (dCons (dBin fIx (dVar 1) (dC (.int 1))) (dCons (dBin fIx (dVar 1) (dC (.int 0))) dNil)))))) dNil))))
   dNext)
  (dSeq (dIf (dTst (dBin fEq (dVar 0) (dC (.int 4))))
   (dRet (dTup (dCons (dC (.str "good")) (dCons (dCallXK 1 (["sheet", "sort", "spread", "stock"] : List Str).length C_clear_across xc (dCons (dBin fIx (dVar 1) (dC (.int 0))) dNil) (dCons (dBin fIx (dVar 1) (dC (.int 4))) (dCons (dBin fIx (dVar 1) (dC (.int 3))) (dCons (dBin fIx (dVar 1) (dC (.int 2))) (dCons (dBin fIx (dVar 1) (dC (.int 1))) dNil))))) dNil))))
   dNext)
  (dRet (dTup (dCons (dC (.str "good")) (dCons (dCallXK 2 (["sheet", "sort", "spread"] : List Str).length C_clear_up xc (dCons (dBin fIx (dVar 1) (dC (.int 0))) (dCons (dBin fIx (dVar 1) (dC (.int 1))) dNil)) (dCons (dBin fIx (dVar 1) (dC (.int 4))) (dCons (dBin fIx (dVar 1) (dC (.int 3))) (dCons (dBin fIx (dVar 1) (dC (.int 2))) dNil)))) dNil)))))))))
theorem b_Ltry {Cl : Addr} (T : TxtX P w K mg base Cl) (c_free_place : Cal P w K mg base (L2.CX P w) 7 "free_place" ["lists", "stock", "spread", "a", "b"] (pureSpX Cl C_free_place)) (c_clear_across : Cal P w K mg base (L2.CX P w) 8 "clear_across" ["lists", "stock", "spread", "sort", "sheet"] (pureSpX Cl C_clear_across)) (c_clear_up : Cal P w K mg base (L2.CX P w) 8 "clear_up" ["lists", "stock", "spread", "sort", "sheet"] (pureSpX Cl C_clear_up)) (ck_free_place : CalK P w K mg base (L2.CX P w) 7 "free_place" ["lists", "stock", "spread", "a", "b"] (pureSpX Cl C_free_place) 0 ["b", "a", "spread", "stock", "lists"]) (ck_clear_across : CalK P w K mg base (L2.CX P w) 8 "clear_across" ["lists", "stock", "spread", "sort", "sheet"] (pureSpX Cl C_clear_across) 1 ["sheet", "sort", "spread", "stock"]) (ck_clear_up : CalK P w K mg base (L2.CX P w) 8 "clear_up" ["lists", "stock", "spread", "sort", "sheet"] (pureSpX Cl C_clear_up) 2 ["sheet", "sort", "spread"]) {f : Addr} {cdv : Value} {A : Around} {outer : List Env} {s : Shared} {H : Hp} {E : XK} {pn : List (Addr × Obj)} {xe : Value → Shared → Prop} (hr : Room 8 (A.deeper (envOfC "_law_asked" (defScope s_Lasked) s.heap.objs.size f cdv))) (B : Ent) (xc : V → V → Prop) (hB : B.f = none)
    (hx : Passes (L2.CX P w) ((cxOf CX0 P w K mg base N_Lasked "_law_asked" (defScope s_Lasked) f cdv A outer s H E).nox.tr pn xe) (EofC Cl B.H0 xc)) : PSs ((cxOf CX0 P w K mg base N_Lasked "_law_asked" (defScope s_Lasked) f cdv A outer s H E).nox.tr pn xe) (tryOf (defBody s_Lasked)) (liftS B (t_Ltry xc)) := by
  exact (dss_cons (ds_if (dt_cmp op_eq sn_eq (de_var 0) de_int)
   (dss_one (ds_ret (de_tup (da_cons de_str (da_cons (de_callXC c_free_place (hr.mono (by decide)) hx hB (da_cons (de_ix (de_var 1) de_int (fun _ _ => rfl)) (da_cons (de_ix (de_var 1) de_int (fun _ _ => rfl)) (da_cons (de_ix (de_var 1) de_int (fun _ _ => rfl)) (da_cons (de_ix (de_var 1) de_int (fun _ _ => rfl)) (da_cons (de_ix (de_var 1) de_int (fun _ _ => rfl)) da_nil)))))) da_nil)))))
   dss_nil)
  (dss_cons (ds_if (dt_cmp op_eq sn_eq (de_var 0) de_int)
   (dss_one (ds_ret (de_tup (da_cons de_str (da_cons (de_callXC c_clear_across (hr.mono (by decide)) hx hB (da_cons (de_ix (de_var 1) de_int (fun _ _ => rfl)) (da_cons (de_ix (de_var 1) de_int (fun _ _ => rfl)) (da_cons (de_ix (de_var 1) de_int (fun _ _ => rfl)) (da_cons (de_ix (de_var 1) de_int (fun _ _ => rfl)) (da_cons (de_ix (de_var 1) de_int (fun _ _ => rfl)) da_nil)))))) da_nil)))))
   dss_nil)
  (dss_cons (ds_if (dt_cmp op_eq sn_eq (de_var 0) de_int)
   (dss_one (ds_ret (de_tup (da_cons de_str (da_cons (de_callXC c_clear_up (hr.mono (by decide)) hx hB (da_cons (de_ix (de_var 1) de_int (fun _ _ => rfl)) (da_cons (de_ix (de_var 1) de_int (fun _ _ => rfl)) (da_cons (de_ix (de_var 1) de_int (fun _ _ => rfl)) (da_cons (de_ix (de_var 1) de_int (fun _ _ => rfl)) (da_cons (de_ix (de_var 1) de_int (fun _ _ => rfl)) da_nil)))))) da_nil)))))
   dss_nil)
  (dss_cons (ds_if (dt_cmp op_eq sn_eq (de_var 0) de_int)
   (dss_one (ds_ret (de_tup (da_cons de_str (da_cons (de_callXK0 ck_free_place (hr.mono (by decide)) hx hB (dk_cons (de_ix (de_var 1) de_int (fun _ _ => rfl)) (dk_cons (de_ix (de_var 1) de_int (fun _ _ => rfl)) (dk_cons (de_ix (de_var 1) de_int (fun _ _ => rfl)) (dk_cons (de_ix (de_var 1) de_int (fun _ _ => rfl)) (dk_cons (de_ix (de_var 1) de_int (fun _ _ => rfl)) dk_nil)))))) da_nil)))))
   dss_nil)
  (dss_cons (ds_if (dt_cmp op_eq sn_eq (de_var 0) de_int)
   (dss_one (ds_ret (de_tup (da_cons de_str (da_cons (de_callXK ck_clear_across (hr.mono (by decide)) hx hB (da_cons (de_ix (de_var 1) de_int (fun _ _ => rfl)) da_nil) (dk_cons (de_ix (de_var 1) de_int (fun _ _ => rfl)) (dk_cons (de_ix (de_var 1) de_int (fun _ _ => rfl)) (dk_cons (de_ix (de_var 1) de_int (fun _ _ => rfl)) (dk_cons (de_ix (de_var 1) de_int (fun _ _ => rfl)) dk_nil))))) da_nil)))))
   dss_nil)
  (dss_one (ds_ret (de_tup (da_cons de_str (da_cons (de_callXK ck_clear_up (hr.mono (by decide)) hx hB (da_cons (de_ix (de_var 1) de_int (fun _ _ => rfl)) (da_cons (de_ix (de_var 1) de_int (fun _ _ => rfl)) da_nil)) (dk_cons (de_ix (de_var 1) de_int (fun _ _ => rfl)) (dk_cons (de_ix (de_var 1) de_int (fun _ _ => rfl)) (dk_cons (de_ix (de_var 1) de_int (fun _ _ => rfl)) dk_nil)))) da_nil))))))))))
-- (c_free_place : Cal P w K mg base (L2.CX P w) 7 "free_place" ["lists", "stock", "spread", "a", "b"] (pureSpX Cl C_free_place)) (c_clear_across : Cal P w K mg base (L2.CX P w) 8 "clear_across" ["lists", "stock", "spread", "sort", "sheet"] (pureSpX Cl C_clear_across)) (c_clear_up : Cal P w K mg base (L2.CX P w) 8 "clear_up" ["lists", "stock", "spread", "sort", "sheet"] (pureSpX Cl C_clear_up)) (ck_free_place : CalK P w K mg base (L2.CX P w) 7 "free_place" ["lists", "stock", "spread", "a", "b"] (pureSpX Cl C_free_place) 0 ["b", "a", "spread", "stock", "lists"]) (ck_clear_across : CalK P w K mg base (L2.CX P w) 8 "clear_across" ["lists", "stock", "spread", "sort", "sheet"] (pureSpX Cl C_clear_across) 1 ["sheet", "sort", "spread", "stock"]) (ck_clear_up : CalK P w K mg base (L2.CX P w) 8 "clear_up" ["lists", "stock", "spread", "sort", "sheet"] (pureSpX Cl C_clear_up) 2 ["sheet", "sort", "spread"])
end
end K28
end
section
set_option Elab.async false
set_option linter.all false
set_option maxRecDepth 100000
set_option maxHeartbeats 4000000
namespace K28
open PySem PySem.Spec PyProof.Rows L2 DL
/-- what the head says of the two classes -/
structure TxtA (P : Program) (w : World) (K : PySem.W.Frag) (mg : Str → Option Value) (base : Heap) (Cl Ly : Addr) : Prop extends TxtX P w K mg base Cl where
  le : mg "LayError" = some (.ref Ly)
  xf : XfC K Cl
  nw : PySem.W.findIn K (.ref Cl) "word" = some none
  na : PySem.W.findIn K (.ref Cl) "at" = some none
  te : PySem.W.exmOne K (.ref Cl) (.ref Cl) = some true
  ix : IsX K Cl
  kit : PySem.W.kitOne K (.ref Cl) (.ref Ly) = some true
def xcOf (Q : D → Prop) : V → V → Prop := fun v u => u = .int (-1) ∧ ∃ w, v = .str w ∧ Q (badD w)
theorem passes_len {X : Cx} {W : WX} {E : XK} {n : Nat} (tk : Takes X W) (hn : X.N.length = n) (hW : ∀ cls d (σ : L2.St) H, σ.length = n → E cls d H → W cls d σ H) : Passes (L2.CX X.prog X.w) X E :=
  fun pins σ H s e s' I c => tk e s' (XE.of_call I (fun cls d H' z => hW cls d σ H' (I.len.trans hn) z) c)
section
variable {P : Program} {w : World} {K : PySem.W.Frag} {mg : Str → Option Value} {base : Heap}
theorem ok_Lasked {Cl Ly : Addr} (T : TxtA P w K mg base Cl Ly) (c_free_place : Cal P w K mg base (L2.CX P w) 7 "free_place" ["lists", "stock", "spread", "a", "b"] (pureSpX Cl C_free_place)) (c_clear_across : Cal P w K mg base (L2.CX P w) 8 "clear_across" ["lists", "stock", "spread", "sort", "sheet"] (pureSpX Cl C_clear_across)) (c_clear_up : Cal P w K mg base (L2.CX P w) 8 "clear_up" ["lists", "stock", "spread", "sort", "sheet"] (pureSpX Cl C_clear_up)) (ck_free_place : CalK P w K mg base (L2.CX P w) 7 "free_place" ["lists", "stock", "spread", "a", "b"] (pureSpX Cl C_free_place) 0 ["b", "a", "spread", "stock", "lists"]) (ck_clear_across : CalK P w K mg base (L2.CX P w) 8 "clear_across" ["lists", "stock", "spread", "sort", "sheet"] (pureSpX Cl C_clear_across) 1 ["sheet", "sort", "spread", "stock"]) (ck_clear_up : CalK P w K mg base (L2.CX P w) 8 "clear_up" ["lists", "stock", "spread", "sort", "sheet"] (pureSpX Cl C_clear_up) 2 ["sheet", "sort", "spread"])
    {f : Addr} {fd : FuncData} (F : FunD K "_law_asked" "_law_asked" (defArgs s_Lasked) (defBody s_Lasked) (defScope s_Lasked) [] [] f fd) (hm : mg "_law_asked" = some (.ref f))
    (hC : ∀ ds Q, C_Lasked ds Q → t_Ltry (xcOf Q) (retE Q) (startD N_Lasked ds)) : Cal P w K mg base CX0 9 "_law_asked" ["_law_which", "_law_told"] (pureSp C_Lasked) := by
  have hl : ∀ ds Q, C_Lasked ds Q → ds.length = 2 := fun ds Q ⟨wh, l, st, d, d1, d2, _, _, e, _⟩ => by rw [e]; rfl
  refine ⟨f, fd, ?_, hm, F.kp, F.bindsN fun _ _ _ _ _ _ us hl => match us, hl with | [_, _], _ => rfl⟩
  refine F.ok sc_Lasked (fun vs H Q E ⟨S, ds, P', s, r, c, _⟩ => r.len.trans (hl ds P' c)) fun cdv A outer s H vs Q E hr ⟨S, ds, P', s', r, c, k⟩ => ?_
  refine ⟨_, PSs.nox (pss_one (ps_try_as (tb := fun W D σ H' => (∀ cls d (σ' : L2.St) H'', σ'.length = 3 → EofC Cl H (xcOf P') cls d H'' → W cls d σ' H'') ∧ liftS ⟨S, H, none⟩ (t_Ltry (xcOf P')) D σ H') (i := 2) rfl rfl sc_Lasked.nd rfl rfl ⟨rfl, by decide, .inl T.nu⟩ takes0
    (fun W pn xe tk _ => ⟨fun pins s σ H' D I h => (b_Ltry T.toTxtX c_free_place c_clear_across c_clear_up ck_free_place ck_clear_across ck_clear_up hr ⟨S, H, none⟩ (xcOf P') rfl (passes_len tk rfl h.1)).run pins s σ H' D I h.2⟩)
    (fun a oe cls d pn hz hf => pss_one (ps_ret (pe_tup (pa_cons pe_str (pa_cons (pe_xf T.xf T.nw hz hf (pv 2)) (pa_cons (pe_xf T.xf T.na hz hf (pv 2)) (pa_cons (pe_callB (call_isX T.ix hz hf) rfl T.isinstance_ (by decide +kernel) (pa_cons (pv 2) (pa_cons (pe_glob (v := .ref Ly) rfl T.le rfl) pa_nil))) pa_nil))))))))), ?_⟩
  refine ⟨fun cls d σ' H'' hl3 he => ?_, S, _, retE P', rst_start s' r (by rw [hl ds P' c]; decide), hC ds P' c, ⟨fun δ' S' H' σ' q s1 R1 => ?_, fun d S1 S' H' σ' v q s1 R1 r1 => ?_, fun δ' S' H' σ' q s1 R1 => q.elim, fun δ' S' H' σ' q s1 R1 => q.elim⟩⟩
  · obtain ⟨ec, sm, dd, w0, z0, ed, hd, ez, w1, ew, q⟩ := he
    subst ec
    subst ed
    subst ez
    subst ew
    refine ⟨true, T.te, fun _ a ha => ?_, fun z => nomatch z⟩
    have hg : (σ'.set 2 (some (V.ref a)))[2]? = some (some (V.ref a)) := List.getElem?_set_self (by omega)
    refine ⟨_, hg, rfl, rfl, dd, _, .str w1, rfl, hd, rfl, ?_⟩
    refine ⟨_, hg, rfl, rfl, dd, _, .int (-1), rfl, hd, rfl, ?_⟩
    refine ⟨_, hg, .ref Ly, .ref Ly, true, dd, _, rfl, rfl, rfl, hd, (fun u h => h), T.kit, ?_⟩
    refine ⟨(by show 4 ≤ sizeLine; decide), fun p hp => ?_⟩
    have hpH : H p = none := same_back sm hp
    have hpS : S p = none := same_back s' hpH
    refine k (badD w1) (upd S p (.tup [.str "bad", .str w1, .int (-1), .bl true])) _ (.ref p) q ⟨same_upd hpS, same_upd2 (s'.trans sm), sm.trans (same_upd hp), fun b o e => ?_⟩ (.tup upd_same (.cons (.str _) (.cons (.str _) (.cons (.int _) (.cons (.bl _) .nil)))))
    by_cases hb : b = p
    · subst hb
      exact .inr hpH
    · rw [upd_ne hb] at e
      exact .inl e
  · exact k .non S' H' .non q ⟨R1.gr, R1.ex, fun a o q => R1.keep a o q (fun z => by cases z), R1.new⟩ .non
  · exact k d S' H' v q ⟨R1.gr, R1.ex, fun a o q => R1.keep a o q (fun z => by cases z), R1.new⟩ r1
end
end K28
end
section
set_option Elab.async false
set_option linter.all false
set_option maxRecDepth 100000
set_option maxHeartbeats 4000000
namespace K28
open PySem PySem.Spec PyProof.Rows L2 DL
def spLaw (K : PySem.W.Frag) : Sp := fun vs H Q _ => ∃ (a : Addr) (ns : List Int), vs = [.ref a] ∧ SqL K H a (ns.map V.int) ∧ ns.length ≤ 63 ∧ ∀ H', Q (.bl true) H'
theorem rst_fed {H : Hp} {f g : Addr} {m : Int} {zs : List Int} {a : Addr} (hf : H f = some (.lst [.int m, .int 0, .ref g])) (hg : H g = some (.lst (zs.map V.int))) :
    Rst ⟨upd (fun _ => none) g (.lst (zs.map V.int)), H, some f⟩ (upd (fun _ => none) g (.lst (zs.map V.int))) H ((L2.start N_law [.ref a]).set 1 (some (.ref f))) [none, some .feed, none, none, none, none, none, none, none, none, none, none] := by
  have hne : f ≠ g := fun z => by
    subst z
    rw [hf] at hg
    have e := HO.lst.inj (Option.some.inj hg)
    match zs, e with
    | [z0, z1, z2], e => cases e
    | [], e => cases e
    | [z0], e => cases e
    | [z0, z1], e => cases e
    | z0 :: z1 :: z2 :: z3 :: r, e => cases e
  refine ⟨fun b o q => ?_, Same.refl _, fun b o q => .inl q, fun b o q _ => q, fun b q => ?_, rfl, fun i c q => ?_, fun i j b ds es hij h1 h2 h3 h4 => ?_⟩
  · by_cases e : b = g
    · subst e
      rw [upd_same] at q
      cases q
      exact hg
    · rw [upd_ne e] at q
      cases q
  · cases q
    refine ⟨?_, ?_, ?_⟩
    · show H f ≠ none
      rw [hf]
      exact fun z => by cases z
    · rw [upd_ne hne]
    · rw [hf]
      exact fun z => by cases z
  · match i, q with
    | 0, q => cases q
    | 1, q =>
      cases q
      exact ⟨.ref f, rfl, f, rfl, rfl, m, 0, g, zs, hf, upd_same, Int.le_refl _⟩
    | 2, q => cases q
    | 3, q => cases q
    | 4, q => cases q
    | 5, q => cases q
    | 6, q => cases q
    | 7, q => cases q
    | 8, q => cases q
    | 9, q => cases q
    | 10, q => cases q
    | 11, q => cases q
    | i + 12, q => cases q
  · match i, h1 with
    | 0, q => cases q
    | 1, q => cases q
    | 2, q => cases q
    | 3, q => cases q
    | 4, q => cases q
    | 5, q => cases q
    | 6, q => cases q
    | 7, q => cases q
    | 8, q => cases q
    | 9, q => cases q
    | 10, q => cases q
    | 11, q => cases q
    | i + 12, q => cases q
section
variable {P : Program} {w : World} {K : PySem.W.Frag} {mg : Str → Option Value} {base : Heap}
theorem same0 {f : Addr} {fd : FuncData} (F : FunD K "_law_same" "_law_same" (defArgs s_Lsame) (defBody s_Lsame) (defScope s_Lsame) [] [] f fd) (hm : mg "_law_same" = some (.ref f)) : Cal P w K mg base CX0 0 "_law_same" ["_law_one", "_law_other"] (pureSp (C_Ls 0)) := by
  have no : ∀ vs H Q E, ¬ pureSp (C_Ls 0) vs H Q E := fun vs H Q E ⟨_, _, _, _, _, z, _⟩ => z
  exact ⟨f, fd, ⟨fun vs H Q E h => absurd h (no vs H Q E), fun A outer s H args us vs Q E _ _ _ _ h => absurd h (no vs H Q E)⟩, hm, F.kp, F.bindsN fun _ _ _ _ _ _ us hl => match us, hl with | [_, _], _ => rfl⟩
theorem ok_law (T : Txt K mg) (c_Lscene : Cal P w K mg base CX0 4 "_law_scene" ["_law_feed_here"] (feedSp C_Lscene)) (c_Lspread : Cal P w K mg base CX0 2 "_law_spread" ["_law_ticks", "_law_done"] (pureSp C_Lspread)) (c_Ltake : Cal P w K mg base CX0 1 "_law_take" ["_law_feed_here", "_law_many"] (feedSp C_Ltake)) (c_Lasked : Cal P w K mg base CX0 9 "_law_asked" ["_law_which", "_law_told"] (pureSp C_Lasked)) (c_Lany : Cal P w K mg base CX0 3 "_law_any" ["_law_scene_here", "_law_kind"] (pureSp C_Lany)) (c_Lfits : Cal P w K mg base CX0 3 "_law_fits" ["_law_scene_here", "_law_kind", "_law_told"] (pureSp C_Lfits)) (c_Lsame : Cal P w K mg base CX0 5 "_law_same" ["_law_one", "_law_other"] (pureSp (C_Ls 5))) (c_Lclear : Cal P w K mg base CX0 2 "_law_clear" ["_law_scene_here", "_law_group", "_law_leaf", "_law_side_here"] (pureSp C_Lclear)) (c_Lbent : Cal P w K mg base CX0 10 "_law_bent" ["_law_feed_here", "_law_scene_here", "_law_thing"] (feedSp C_Lbent)) {fF : Addr} {fdF : FuncData} (GF : FnOk P w K mg base CX0 1 fF fdF ["_law_script"] (spFeed K)) (mF : mg "_law_feed" = some (.ref fF)) (kF : PySem.W.keepIn K (.ref fF) = true) (bF : Binds K fdF ["_law_script"] [])
    {f : Addr} {fd : FuncData} (F : FunD K "law" "law" (defArgs s_law) (defBody s_law) (defScope s_law) [] [] f fd) (hC : t_law (retE (fun d => d = .bl true)) [none, some .feed, none, none, none, none, none, none, none, none, none, none]) : FnOk P w K mg base CX0 11 f fd ["_law_script"] (spLaw K) := by
  refine F.ok sc_law (fun vs H Q E ⟨a, ns, e, _⟩ => by rw [e]; rfl) fun cdv A outer s H vs Q E hr ⟨a, ns, e, hS, hl, k⟩ => ?_
  subst e
  have rest : PSs (cxOf CX0 P w K mg base N_law "law" (defScope s_law) f cdv A outer s H E).nox ((defBody s_law).drop 1) (fun D σ H => ∃ B, liftS B t_law D σ H) :=
    ⟨fun pins s' σ H' D I ⟨B, q⟩ => (b_law T c_Lscene c_Lspread c_Ltake c_Lasked c_Lany c_Lfits c_Lsame c_Lclear c_Lbent hr B).run pins s' σ H' D I q⟩
  refine ⟨_, PSs.nox (pss_cons (ps_set (i := 1) sc_law.nd rfl (Or.inl rfl) (pe_call GF (hr.mono (by decide)) rfl mF kF bF .nil pass0 (pa_cons (pv 0) pa_nil))) rest), ?_⟩
  refine ⟨_, rfl, a, ns, rfl, hS, hl, fun H' f' g m zs hf hg => ?_⟩
  refine ⟨⟨upd (fun _ => none) g (.lst (zs.map V.int)), H', some f'⟩, _, _, retE (fun d => d = .bl true), rst_fed hf hg, hC, ⟨fun δ' S' H2 σ' q s1 R1 => ?_, fun d δ' S' H2 σ' v q s1 R1 r1 => ?_, fun δ' S' H2 σ' q s1 R1 => q.elim, fun δ' S' H2 σ' q s1 R1 => q.elim⟩⟩
  · cases (show D.non = .bl true from q)
  · obtain rfl : d = .bl true := q
    cases r1
    exact k H2
end
end K28
end
section
set_option linter.all false
namespace K28
open PySem L2 DL
theorem hl_ends_of : ∀ ds Q, C_ends_of ds Q → ds.length = 3 := fun ds Q h => by
  obtain ⟨_, _, _, _, _, _, _, e, _⟩ := h
  rw [e]
  rfl
theorem hl_is_below : ∀ ds Q, C_is_below ds Q → ds.length = 2 := fun ds Q h => by
  obtain ⟨_, _, _, _, e, _⟩ := h
  rw [e]
  rfl
theorem hl_greater_of : ∀ ds Q, C_greater_of ds Q → ds.length = 2 := fun ds Q h => by
  obtain ⟨_, _, _, _, e, _⟩ := h
  rw [e]
  rfl
theorem hl_have_common : ∀ ds Q, C_have_common ds Q → ds.length = 2 := fun ds Q h => by
  obtain ⟨_, _, _, _, _, _, e, _⟩ := h
  rw [e]
  rfl
theorem hl_same_sheet : ∀ ds Q, C_same_sheet ds Q → ds.length = 2 := fun ds Q h => by
  obtain ⟨_, _, _, e, _⟩ := h
  rw [e]
  rfl
theorem hl_do_overlap : ∀ ds Q, C_do_overlap ds Q → ds.length = 3 := fun ds Q h => by
  obtain ⟨_, _, _, _, _, _, _, e, _⟩ := h
  rw [e]
  rfl
theorem hl_by_value : ∀ ds Q, C_by_value ds Q → ds.length = 1 := fun ds Q h => by
  obtain ⟨_, _, _, _, e, _⟩ := h
  rw [e]
  rfl
theorem hl_in_sheet : ∀ ds Q, C_in_sheet ds Q → ds.length = 3 := fun ds Q h => by
  obtain ⟨_, _, _, _, _, e, _⟩ := h
  rw [e]
  rfl
theorem hl_is_integer : ∀ ds Q, C_is_integer ds Q → ds.length = 1 := fun ds Q h => by
  obtain ⟨_, e, _⟩ := h
  rw [e]
  rfl
theorem hl_is_number : ∀ ds Q, C_is_number ds Q → ds.length = 1 := fun ds Q h => by
  obtain ⟨_, e, _⟩ := h
  rw [e]
  rfl
theorem hl_is_quotient : ∀ ds Q, C_is_quotient ds Q → ds.length = 1 := fun ds Q h => by
  obtain ⟨_, _, _, e, _⟩ := h
  rw [e]
  rfl
theorem hl_is_kind : ∀ ds Q, C_is_kind ds Q → ds.length = 2 := fun ds Q h => by
  obtain ⟨_, _, _, _, e, _⟩ := h
  rw [e]
  rfl
theorem hl_is_tuple_of : ∀ ds Q, C_is_tuple_of ds Q → ds.length = 2 := fun ds Q h => by
  obtain ⟨_, _, e, _⟩ := h
  rw [e]
  rfl
theorem hl_is_piece : ∀ ds Q, C_is_piece ds Q → ds.length = 2 := fun ds Q h => by
  obtain ⟨_, _, e, _⟩ := h
  rw [e]
  rfl
theorem hl_is_inside : ∀ ds Q, C_is_inside ds Q → ds.length = 3 := fun ds Q h => by
  obtain ⟨_, _, _, _, _, e, _⟩ := h
  rw [e]
  rfl
theorem hl_first_pair : ∀ ds Q, C_first_pair ds Q → ds.length = 2 := fun ds Q h => by
  obtain ⟨_, _, _, _, _, _, e, _⟩ := h
  rw [e]
  rfl
theorem hl_first_fault : ∀ ds Q, C_first_fault ds Q → ds.length = 3 := fun ds Q h => by
  obtain ⟨_, _, _, _, _, e, _⟩ := h
  rw [e]
  rfl
theorem hl_need_spread : ∀ ds Q xc, C_need_spread ds Q xc → ds.length = 3 := fun ds Q xc h => by
  obtain ⟨_, _, _, _, _, e, _⟩ := h
  rw [e]
  rfl
theorem hl_need_index : ∀ ds Q xc, C_need_index ds Q xc → ds.length = 3 := fun ds Q xc h => by
  obtain ⟨_, _, _, e, _⟩ := h
  rw [e]
  rfl
theorem hl_need_sheet : ∀ ds Q xc, C_need_sheet ds Q xc → ds.length = 3 := fun ds Q xc h => by
  obtain ⟨_, _, _, e, _⟩ := h
  rw [e]
  rfl
theorem hl_lowest : ∀ ds Q, C_lowest ds Q → ds.length = 4 := fun ds Q h => by
  obtain ⟨_, _, _, _, _, _, _, _, _, e, _⟩ := h
  rw [e]
  rfl
theorem hl_place_in : ∀ ds Q, C_place_in ds Q → ds.length = 5 := fun ds Q h => by
  obtain ⟨_, _, _, _, _, _, _, _, _, _, _, _, e, _⟩ := h
  rw [e]
  rfl
theorem hl_unused : ∀ ds Q, C_unused ds Q → ds.length = 1 := fun ds Q h => by
  obtain ⟨_, _, _, e, _⟩ := h
  rw [e]
  rfl
theorem hl_spot_in_sort : ∀ ds Q, C_spot_in_sort ds Q → ds.length = 6 := fun ds Q h => by
  obtain ⟨_, _, _, _, _, _, _, _, _, _, _, _, e, _⟩ := h
  rw [e]
  rfl
theorem hl_free_place : ∀ ds Q xc, C_free_place ds Q xc → ds.length = 5 := fun ds Q xc h => by
  obtain ⟨_, _, _, _, _, _, _, e, _⟩ := h
  rw [e]
  rfl
theorem hl_clear : ∀ ds Q, C_clear ds Q → ds.length = 3 := fun ds Q h => by
  obtain ⟨_, _, _, _, _, _, _, _, e, _⟩ := h
  rw [e]
  rfl
theorem hl_clear_side : ∀ ds Q xc, C_clear_side ds Q xc → ds.length = 6 := fun ds Q xc h => by
  obtain ⟨_, _, _, _, _, _, _, _, _, e, _⟩ := h
  rw [e]
  rfl
theorem hl_clear_across : ∀ ds Q xc, C_clear_across ds Q xc → ds.length = 5 := fun ds Q xc h => by
  obtain ⟨_, _, _, _, _, _, _, e, _⟩ := h
  rw [e]
  rfl
theorem hl_clear_up : ∀ ds Q xc, C_clear_up ds Q xc → ds.length = 5 := fun ds Q xc h => by
  obtain ⟨_, _, _, _, _, _, _, e, _⟩ := h
  rw [e]
  rfl
theorem hl_Lsame (n : Nat) : ∀ ds Q, C_Ls (n + 1) ds Q → ds.length = 2 := fun ds Q h => by
  obtain ⟨_, _, e, _⟩ := h
  rw [e]
  rfl
theorem hl_Llow : ∀ ds Q, C_Llow ds Q → ds.length = 2 := fun ds Q h => by
  obtain ⟨_, _, _, e, _⟩ := h
  rw [e]
  rfl
theorem hl_Lsizes : ∀ ds Q, C_Lsizes ds Q → ds.length + 1 = 1 := fun ds Q h => by
  obtain ⟨e, _⟩ := h
  rw [e]
  rfl
theorem hl_Lside : ∀ ds Q, C_Lside ds Q → ds.length + 1 = 2 := fun ds Q h => by
  obtain ⟨_, _, e, _⟩ := h
  rw [e]
  rfl
theorem hl_Lstock : ∀ ds Q, C_Lstock ds Q → ds.length + 1 = 2 := fun ds Q h => by
  obtain ⟨_, _, e, _⟩ := h
  rw [e]
  rfl
theorem hl_Lfilled : ∀ ds Q, C_Lfilled ds Q → ds.length + 1 = 3 := fun ds Q h => by
  obtain ⟨_, _, _, _, e, _⟩ := h
  rw [e]
  rfl
theorem hl_Lmoved : ∀ ds Q, C_Lmoved ds Q → ds.length + 1 = 6 := fun ds Q h => by
  obtain ⟨_, _, _, _, _, _, _, _, _, _, e, _⟩ := h
  rw [e]
  rfl
theorem hl_Lscene : ∀ ds Q, C_Lscene ds Q → ds.length + 1 = 1 := fun ds Q h => by
  obtain ⟨e, _⟩ := h
  rw [e]
  rfl
theorem hl_Lspread : ∀ ds Q, C_Lspread ds Q → ds.length = 2 := fun ds Q h => by
  obtain ⟨_, _, _, _, e, _⟩ := h
  rw [e]
  rfl
theorem hl_Lblock : ∀ ds Q, C_Lblock ds Q → ds.length = 3 := fun ds Q h => by
  obtain ⟨_, _, _, _, _, _, e, _⟩ := h
  rw [e]
  rfl
theorem hl_Lopen : ∀ ds Q, C_Lopen ds Q → ds.length = 4 := fun ds Q h => by
  obtain ⟨_, _, _, _, _, _, _, _, _, _, _, _, _, _, _, e, _⟩ := h
  rw [e]
  rfl
theorem hl_Lany : ∀ ds Q, C_Lany ds Q → ds.length = 2 := fun ds Q h => by
  obtain ⟨_, _, _, _, _, _, _, _, e, _⟩ := h
  rw [e]
  rfl
theorem hl_Lquotient : ∀ ds Q, C_Lquotient ds Q → ds.length = 1 := fun ds Q h => by
  obtain ⟨_, _, _, _, e, _⟩ := h
  rw [e]
  rfl
theorem hl_Lfits : ∀ ds Q, C_Lfits ds Q → ds.length = 3 := fun ds Q h => by
  obtain ⟨_, _, _, _, _, _, _, _, _, _, _, _, e, _⟩ := h
  rw [e]
  rfl
theorem hl_Lclear : ∀ ds Q, C_Lclear ds Q → ds.length = 4 := fun ds Q h => by
  obtain ⟨_, _, _, _, _, _, _, _, _, _, _, _, _, _, e, _⟩ := h
  rw [e]
  rfl
theorem hl_Lbent : ∀ ds Q, C_Lbent ds Q → ds.length + 1 = 3 := fun ds Q h => by
  obtain ⟨_, _, _, _, _, e, _⟩ := h
  rw [e]
  rfl
end K28
end
section
set_option linter.all false
namespace K28
open PySem L2 DL
theorem sd_ends_of {d0 d1 d2 : D} : startD N_ends_of [d0, d1, d2] = [some (.dat d0), some (.dat d1), some (.dat d2), none, none] := rfl
theorem sd_is_below {d0 d1 : D} : startD N_is_below [d0, d1] = [some (.dat d0), some (.dat d1)] := rfl
theorem sd_greater_of {d0 d1 : D} : startD N_greater_of [d0, d1] = [some (.dat d0), some (.dat d1)] := rfl
theorem sd_have_common {d0 d1 : D} : startD N_have_common [d0, d1] = [some (.dat d0), some (.dat d1)] := rfl
theorem sd_same_sheet {d0 d1 : D} : startD N_same_sheet [d0, d1] = [some (.dat d0), some (.dat d1)] := rfl
theorem sd_do_overlap {d0 d1 d2 : D} : startD N_do_overlap [d0, d1, d2] = [some (.dat d0), some (.dat d1), some (.dat d2), none] := rfl
theorem sd_by_value {d0 : D} : startD N_by_value [d0] = [some (.dat d0), none, none, none, none, none, none] := rfl
theorem sd_in_sheet {d0 d1 d2 : D} : startD N_in_sheet [d0, d1, d2] = [some (.dat d0), some (.dat d1), some (.dat d2), none] := rfl
theorem sd_is_integer {d0 : D} : startD N_is_integer [d0] = [some (.dat d0)] := rfl
theorem sd_is_number {d0 : D} : startD N_is_number [d0] = [some (.dat d0)] := rfl
theorem sd_is_quotient {d0 : D} : startD N_is_quotient [d0] = [some (.dat d0), none, none] := rfl
theorem sd_is_kind {d0 d1 : D} : startD N_is_kind [d0, d1] = [some (.dat d0), some (.dat d1), none, none] := rfl
theorem sd_is_tuple_of {d0 d1 : D} : startD N_is_tuple_of [d0, d1] = [some (.dat d0), some (.dat d1)] := rfl
theorem sd_is_piece {d0 d1 : D} : startD N_is_piece [d0, d1] = [some (.dat d0), some (.dat d1), none, none, none, none, none, none] := rfl
theorem sd_is_inside {d0 d1 d2 : D} : startD N_is_inside [d0, d1, d2] = [some (.dat d0), some (.dat d1), some (.dat d2), none, none, none, none] := rfl
theorem sd_first_pair {d0 d1 : D} : startD N_first_pair [d0, d1] = [some (.dat d0), some (.dat d1), none, none] := rfl
theorem sd_first_fault {d0 d1 d2 : D} : startD N_first_fault [d0, d1, d2] = [some (.dat d0), some (.dat d1), some (.dat d2), none, none, none] := rfl
theorem sd_need_spread {d0 d1 d2 : D} : startD N_need_spread [d0, d1, d2] = [some (.dat d0), some (.dat d1), some (.dat d2)] := rfl
theorem sd_need_index {d0 d1 d2 : D} : startD N_need_index [d0, d1, d2] = [some (.dat d0), some (.dat d1), some (.dat d2)] := rfl
theorem sd_need_sheet {d0 d1 d2 : D} : startD N_need_sheet [d0, d1, d2] = [some (.dat d0), some (.dat d1), some (.dat d2)] := rfl
theorem sd_lowest {d0 d1 d2 d3 : D} : startD N_lowest [d0, d1, d2, d3] = [some (.dat d0), some (.dat d1), some (.dat d2), some (.dat d3), none, none, none, none] := rfl
theorem sd_place_in {d0 d1 d2 d3 d4 : D} : startD N_place_in [d0, d1, d2, d3, d4] = [some (.dat d0), some (.dat d1), some (.dat d2), some (.dat d3), some (.dat d4), none, none, none, none, none, none, none, none] := rfl
theorem sd_unused {d0 : D} : startD N_unused [d0] = [some (.dat d0), none, none] := rfl
theorem sd_spot_in_sort {d0 d1 d2 d3 d4 d5 : D} : startD N_spot_in_sort [d0, d1, d2, d3, d4, d5] = [some (.dat d0), some (.dat d1), some (.dat d2), some (.dat d3), some (.dat d4), some (.dat d5), none, none, none, none, none, none] := rfl
theorem sd_free_place {d0 d1 d2 d3 d4 : D} : startD N_free_place [d0, d1, d2, d3, d4] = [some (.dat d0), some (.dat d1), some (.dat d2), some (.dat d3), some (.dat d4), none, none, none] := rfl
theorem sd_clear {d0 d1 d2 : D} : startD N_clear [d0, d1, d2] = [some (.dat d0), some (.dat d1), some (.dat d2), none, none, none, none] := rfl
theorem sd_clear_side {d0 d1 d2 d3 d4 d5 : D} : startD N_clear_side [d0, d1, d2, d3, d4, d5] = [some (.dat d0), some (.dat d1), some (.dat d2), some (.dat d3), some (.dat d4), some (.dat d5), none, none] := rfl
theorem sd_clear_across {d0 d1 d2 d3 d4 : D} : startD N_clear_across [d0, d1, d2, d3, d4] = [some (.dat d0), some (.dat d1), some (.dat d2), some (.dat d3), some (.dat d4)] := rfl
theorem sd_clear_up {d0 d1 d2 d3 d4 : D} : startD N_clear_up [d0, d1, d2, d3, d4] = [some (.dat d0), some (.dat d1), some (.dat d2), some (.dat d3), some (.dat d4)] := rfl
theorem sd_Llow {d0 d1 : D} : startD N_Llow [d0, d1] = [some (.dat d0), some (.dat d1), none, none, none, none] := rfl
theorem sd_Lsizes  : startF N_Lsizes [] = [some .feed, none] := rfl
theorem sd_Lside {d0 : D} : startF N_Lside [d0] = [some .feed, some (.dat d0), none] := rfl
theorem sd_Lstock {d0 : D} : startF N_Lstock [d0] = [some .feed, some (.dat d0), none, none, none, none] := rfl
theorem sd_Lspread {d0 d1 : D} : startD N_Lspread [d0, d1] = [some (.dat d0), some (.dat d1), none] := rfl
theorem sd_Lblock {d0 d1 d2 : D} : startD N_Lblock [d0, d1, d2] = [some (.dat d0), some (.dat d1), some (.dat d2), none, none] := rfl
theorem sd_Lquotient {d0 : D} : startD N_Lquotient [d0] = [some (.dat d0), none] := rfl
theorem sd_Lfilled {d0 d1 : D} : startF N_Lfilled [d0, d1] = [some .feed, some (.dat d0), some (.dat d1), none, none, none, none, none, none, none, none, none, none, none, none, none, none, none] := rfl
theorem sd_Lmoved {d0 d1 d2 d3 d4 : D} : startF N_Lmoved [d0, d1, d2, d3, d4] = [some .feed, some (.dat d0), some (.dat d1), some (.dat d2), some (.dat d3), some (.dat d4), none, none, none, none, none, none, none, none, none, none, none] := rfl
theorem sd_Lscene  : startF N_Lscene [] = [some .feed, none, none, none, none, none, none, none, none, none, none, none, none] := rfl
theorem sd_Lopen {d0 d1 d2 d3 : D} : startD N_Lopen [d0, d1, d2, d3] = [some (.dat d0), some (.dat d1), some (.dat d2), some (.dat d3), none, none, none, none, none, none, none, none, none, none, none] := rfl
theorem sd_Lany {d0 d1 : D} : startD N_Lany [d0, d1] = [some (.dat d0), some (.dat d1), none, none, none, none, none, none] := rfl
theorem sd_Lfits {d0 d1 d2 : D} : startD N_Lfits [d0, d1, d2] = [some (.dat d0), some (.dat d1), some (.dat d2), none, none, none, none, none, none, none] := rfl
theorem sd_Lclear {d0 d1 d2 d3 : D} : startD N_Lclear [d0, d1, d2, d3] = [some (.dat d0), some (.dat d1), some (.dat d2), some (.dat d3), none, none, none, none, none, none, none] := rfl
end K28
end
section
set_option linter.all false
set_option maxHeartbeats 1000000
namespace K28
open PySem L2 DL
section
variable {l : Ls} {st : List (Int × Int × Int)} {t X Y a b s h i : Int} {ps : List Pc} {p o : Pc} {Q : D → Prop} {ds : List D} {d d1 d2 : D}
theorem k_ends_of (ht : TOk t) (hk : KOk l p.a p.b) {side : Int} (hs : side = 0 ∨ side = 1) (q : Q (seD t (loS p side) (hiS l t p side))) : C_ends_of [lsD l, pcD t p, .int side] Q := ⟨t, l, p, side, ht, hk, hs, rfl, q⟩
theorem k_is_below (ht : TOk t) (q : Q (.bl (decide (X < Y)))) : C_is_below [qD t X, qD t Y] Q := ⟨t, X, Y, ht, rfl, q⟩
theorem k_greater_of (ht : TOk t) (q : Q (qD t (if X < Y then Y else X))) : C_greater_of [qD t X, qD t Y] Q := ⟨t, X, Y, ht, rfl, q⟩
theorem k_have_common (ht : TOk t) {X1 Y1 X2 Y2 : Int} (q : Q (.bl (decide (X1 < Y2) && decide (X2 < Y1)))) : C_have_common [seD t X1 Y1, seD t X2 Y2] Q := ⟨t, X1, Y1, X2, Y2, ht, rfl, q⟩
theorem k_same_sheet (q : Q (.bl (decide (p.s = o.s) && decide (p.h = o.h)))) : C_same_sheet [pcD t p, pcD t o] Q := ⟨t, p, o, rfl, q⟩
theorem k_do_overlap (ht : TOk t) (hp : KOk l p.a p.b) (ho : KOk l o.a o.b) (q : Q (.bl (ovB l t p o))) : C_do_overlap [lsD l, pcD t p, pcD t o] Q := ⟨t, l, p, o, ht, hp, ho, rfl, q⟩
theorem k_by_value {Xs : List Int} (ht : TOk t) (hl : Xs.length ≤ 100) (q : ∀ ks : List Nat, ks.Perm (List.range Xs.length) → ks.Pairwise (fun i j => Xs.getD i 0 ≤ Xs.getD j 0) → Q (.lst (ks.map natD))) : C_by_value [.lst (Xs.map (qD t))] Q := ⟨t, Xs, ht, hl, rfl, q⟩
theorem k_in_sheet (hl : ps.length ≤ 100) (q : Q (.lst (((List.range ps.length).filter (atSh ps s h)).map natD))) : C_in_sheet [spD t ps, .int s, .int h] Q := ⟨t, ps, s, h, hl, rfl, q⟩
theorem k_is_integer (q : Q (.bl (isInt d && !isBool d))) : C_is_integer [d] Q := ⟨d, rfl, q⟩
theorem k_is_number (q : Q (.bl (nnD d))) : C_is_number [d] Q := ⟨d, rfl, q⟩
theorem k_is_quotient (ht : TOk t) (q : Q (.bl true)) : C_is_quotient [qD t X] Q := ⟨t, X, ht, rfl, q⟩
theorem k_is_kind (hk : KOk l a b) (q : Q (.bl true)) : C_is_kind [lsD l, .tup [.int a, .int b]] Q := ⟨l, a, b, hk, rfl, q⟩
theorem k_is_tuple_of {es : List D} {n : Int} (q : Q (.bl (decide ((es.length : Int) = n)))) : C_is_tuple_of [.tup es, .int n] Q := ⟨es, n, rfl, q⟩
theorem k_take (hm : 0 < i) (q : ∀ n : Int, 0 ≤ n → n < i → Q (.int n)) : C_Ltake [.int i] Q := ⟨i, rfl, hm, q⟩
theorem k_low (ht : TOk t) (q : Q (qD t X)) : C_Llow [.int X, .int t] Q := ⟨X, t, ht, rfl, q⟩
theorem row_at {r : List Int} {a : Int} (h0 : 0 ≤ a) (h1 : a < r.length) : atI (r.map D.int) a = some (.int (r.getD a.toNat 0)) := by
  rw [atI_z _ _ h0, List.getElem?_map]
  have : a.toNat < r.length := by omega
  simp [this, List.getD]
theorem szW_at (h : KOk l a b) : atI (l.w.map D.int) a = some (.int (szW l a)) := row_at h.1 h.2.1
theorem szH_at (h : KOk l a b) : atI (l.h.map D.int) b = some (.int (szH l b)) := row_at h.2.2.1 h.2.2.2
theorem st_at {e : Int × Int × Int} (h0 : 0 ≤ s) (h : st[s.toNat]? = some e) : atI (st.map shD) s = some (shD e) := by
  rw [atI_z _ _ h0, List.getElem?_map, h]
  rfl
theorem map_at {α : Type} {xs : List α} {f : α → D} {x : α} {n : Nat} (h : xs[n]? = some x) : atI (xs.map f) (n : Int) = some (f x) := by
  rw [atI_n, List.getElem?_map, h]
  rfl
theorem CMden (h : TOk t) : CM i (qP t X).2 := .inr (by have := qP_den (X := X) h; omega)
theorem CMden2 (h : TOk t) : CM (qP t X).2 i := .inl (by have := qP_den (X := X) h; omega)
theorem CDden (h : TOk t) : CD i (qP t X).2 := by have := qP_den (X := X) h; exact ⟨by omega, by omega⟩
theorem CMt (h : TOk t) : CM i t := .inr (by have := h.1; have := h.2; omega)
theorem CMt2 (h : TOk t) : CM t i := .inl (by have := h.1; have := h.2; omega)
theorem qP_addD {k : Int} (ht : TOk t) : D.tup [.int ((qP t X).1 + k * (qP t X).2), .int (qP t X).2] = qD t (X + k * t) := by
  unfold qD
  rw [qP_add ht]
  rfl
theorem qP_le_whole {n : Int} (ht : TOk t) (h : X ≤ n * t) : ¬ (decide (n * (qP t X).2 < (qP t X).1) = true) := by
  rw [decide_eq_true_iff]
  intro c
  have := (qP_lt (X := n * t) (Y := X) ht).mp (by rw [qP_whole ht]; simpa using c)
  omega
theorem qD_zero (ht : TOk t) : D.tup [.int 0, .int 1] = qD t 0 := by
  unfold qD
  rw [qP_zero ht]
  rfl
theorem qD_whole {n : Int} (ht : TOk t) : D.tup [.int n, .int 1] = qD t (n * t) := by
  unfold qD
  rw [qP_whole ht]
  rfl
end
end K28
end
section
set_option linter.all false
set_option maxHeartbeats 1000000
namespace K28
open PySem L2 DL
section
variable {l : Ls} {st : List (Int × Int × Int)} {t X Y : Int} {ps : List Pc} {p : Pc} {δ : En} {e : Int × Int × Int} {r : List Int} {pr : Int × Int} {gs : List (Int × Int)}
theorem r_kAt {P : D → Prop} {o : Option D} {d : D} (h : o = some d) (q : P d) : kAt P o := by subst h; exact q
theorem r_kO {P : List D → Prop} {o : Option (List D)} {d : List D} (h : o = some d) (q : P d) : kO P o := by subst h; exact q
theorem r_eqP {Q : R → En → Prop} {d e : D} {i j k l : Int} (h1 : d = .tup [.int i, .int j]) (h2 : e = .tup [.int k, .int l]) (q : Q (.dat (.bl (decide (i = k) && decide (j = l)))) δ) : fEqP (.dat d) (.dat e) δ Q := by subst h1; subst h2; exact q
theorem e_seq_pcD : seqOf (.dat (pcD t p)) δ = some ([.int p.a, .int p.b, .int p.s, .int p.h, qD t p.x, qD t p.y]) := rfl
theorem e_kT_pcD {P : List D → Prop} : kT P (.dat (pcD t p)) = P ([.int p.a, .int p.b, .int p.s, .int p.h, qD t p.x, qD t p.y]) := rfl
theorem e_isT_pcD : isTup (pcD t p) = true := rfl
theorem e_seq_pcR : seqOf (.dat (pcR p)) δ = some ([.int p.a, .int p.b, .int p.s, .int p.h, .int p.x, .int p.y]) := rfl
theorem e_kT_pcR {P : List D → Prop} : kT P (.dat (pcR p)) = P ([.int p.a, .int p.b, .int p.s, .int p.h, .int p.x, .int p.y]) := rfl
theorem e_isT_pcR : isTup (pcR p) = true := rfl
theorem e_seq_p4D : seqOf (.dat (p4D p)) δ = some ([.int p.a, .int p.b, .int p.x, .int p.y]) := rfl
theorem e_kT_p4D {P : List D → Prop} : kT P (.dat (p4D p)) = P ([.int p.a, .int p.b, .int p.x, .int p.y]) := rfl
theorem e_isT_p4D : isTup (p4D p) = true := rfl
theorem e_seq_qD : seqOf (.dat (qD t X)) δ = some ([.int (qP t X).1, .int (qP t X).2]) := rfl
theorem e_kT_qD {P : List D → Prop} : kT P (.dat (qD t X)) = P ([.int (qP t X).1, .int (qP t X).2]) := rfl
theorem e_isT_qD : isTup (qD t X) = true := rfl
theorem e_seq_seD : seqOf (.dat (seD t X Y)) δ = some ([qD t X, qD t Y]) := rfl
theorem e_kT_seD {P : List D → Prop} : kT P (.dat (seD t X Y)) = P ([qD t X, qD t Y]) := rfl
theorem e_isT_seD : isTup (seD t X Y) = true := rfl
theorem e_seq_lsD : seqOf (.dat (lsD l)) δ = some ([rowD l.w, rowD l.h]) := rfl
theorem e_kT_lsD {P : List D → Prop} : kT P (.dat (lsD l)) = P ([rowD l.w, rowD l.h]) := rfl
theorem e_isT_lsD : isTup (lsD l) = true := rfl
theorem e_seq_shD : seqOf (.dat (shD e)) δ = some ([.int e.1, .int e.2.1, .int e.2.2]) := rfl
theorem e_kT_shD {P : List D → Prop} : kT P (.dat (shD e)) = P ([.int e.1, .int e.2.1, .int e.2.2]) := rfl
theorem e_isT_shD : isTup (shD e) = true := rfl
theorem e_seq_rowD : seqOf (.dat (rowD r)) δ = some (r.map D.int) := rfl
theorem e_kT_rowD {P : List D → Prop} : kT P (.dat (rowD r)) = P (r.map D.int) := rfl
theorem e_isT_rowD : isTup (rowD r) = true := rfl
theorem e_seq_stD : seqOf (.dat (stD st)) δ = some (st.map shD) := rfl
theorem e_kT_stD {P : List D → Prop} : kT P (.dat (stD st)) = P (st.map shD) := rfl
theorem e_isT_stD : isTup (stD st) = true := rfl
theorem e_seq_spD : seqOf (.dat (spD t ps)) δ = some (ps.map (pcD t)) := rfl
theorem e_kT_spD {P : List D → Prop} : kT P (.dat (spD t ps)) = P (ps.map (pcD t)) := rfl
theorem e_isT_spD : isTup (spD t ps) = true := rfl
theorem e_seq_prD : seqOf (.dat (prD pr)) δ = some ([.int pr.1, .int pr.2]) := rfl
theorem e_kT_prD {P : List D → Prop} : kT P (.dat (prD pr)) = P ([.int pr.1, .int pr.2]) := rfl
theorem e_isT_prD : isTup (prD pr) = true := rfl
theorem e_seq_gapsD : seqOf (.dat (gapsD t gs)) δ = some (gs.map fun g => seD t g.1 g.2) := rfl
theorem e_kT_gapsD {P : List D → Prop} : kT P (.dat (gapsD t gs)) = P (gs.map fun g => seD t g.1 g.2) := rfl
theorem e_isT_gapsD : isTup (gapsD t gs) = true := rfl
theorem e_seq_scD : seqOf (.dat (scD l st t ps)) δ = some ([lsD l, stD st, .int t, .lst (ps.map pcR)]) := rfl
theorem e_lst_scD : lstOf (.dat (scD l st t ps)) δ = some ([lsD l, stD st, .int t, .lst (ps.map pcR)]) := rfl
theorem e_cut6_2_4 {a0 a1 a2 a3 a4 a5 : D} : cut [a0, a1, a2, a3, a4, a5] (some 2) (some 4) = [a2, a3] := rfl
theorem e_cut6_n_4 {a0 a1 a2 a3 a4 a5 : D} : cut [a0, a1, a2, a3, a4, a5] none (some 4) = [a0, a1, a2, a3] := rfl
theorem e_cut6_n_2 {a0 a1 a2 a3 a4 a5 : D} : cut [a0, a1, a2, a3, a4, a5] none (some 2) = [a0, a1] := rfl
theorem e_cut6_2_n {a0 a1 a2 a3 a4 a5 : D} : cut [a0, a1, a2, a3, a4, a5] (some 2) none = [a2, a3, a4, a5] := rfl
theorem e_cut4_n_2 {a0 a1 a2 a3 : D} : cut [a0, a1, a2, a3] none (some 2) = [a0, a1] := rfl
theorem e_cut4_n_3 {a0 a1 a2 a3 : D} : cut [a0, a1, a2, a3] none (some 3) = [a0, a1, a2] := rfl
theorem e_cut3_n_2 {a0 a1 a2 : D} : cut [a0, a1, a2] none (some 2) = [a0, a1] := rfl
theorem e_cut6_n_3 {a0 a1 a2 a3 a4 a5 : D} : cut [a0, a1, a2, a3, a4, a5] none (some 3) = [a0, a1, a2] := rfl
end
end K28
end
section
set_option linter.all false
namespace K28
open PySem L2 DL
section
variable {l : Ls} {t XL XR H : Int}
def crossP (l : Ls) (t XL XR : Int) (p : Pc) : Prop := XL < hiS l t p 0 ∧ loS p 0 < XR
def hitP (l : Ls) (t Y Ht : Int) (p : Pc) : Prop := Y < hiS l t p 1 ∧ loS p 1 < Y + Ht
theorem lowF_ok : ∀ (ps : List Pc) (low : Int), ps.Pairwise (fun p q => loS p 1 ≤ loS q 1) →
    low ≤ lowF l t XL XR H ps low ∧ (∀ p, p ∈ ps → crossP l t XL XR p → ¬ hitP l t (lowF l t XL XR H ps low) (H * t) p) ∧
    ∀ Y, low ≤ Y → (∀ p, p ∈ ps → crossP l t XL XR p → ¬ hitP l t Y (H * t) p) → lowF l t XL XR H ps low ≤ Y
  | [], low, _ => ⟨Int.le_refl _, fun p h => (List.not_mem_nil h).elim, fun Y h _ => h⟩
  | p :: ps, low, hs => by
    obtain ⟨h1, h2⟩ := List.pairwise_cons.mp hs
    rw [lowF]
    by_cases c : XL < hiS l t p 0 ∧ loS p 0 < XR
    · rw [if_pos c]
      by_cases c2 : loS p 1 < low + H * t
      · rw [if_pos c2]
        have hm : low ≤ (if low < hiS l t p 1 then hiS l t p 1 else low) ∧ hiS l t p 1 ≤ (if low < hiS l t p 1 then hiS l t p 1 else low) := by
          split <;> omega
        obtain ⟨i1, i2, i3⟩ := lowF_ok ps (if low < hiS l t p 1 then hiS l t p 1 else low) h2
        refine ⟨by omega, fun q hq hc hh => ?_, fun Y hY hf => ?_⟩
        · rcases List.mem_cons.mp hq with rfl | hq
          · have := hh.1
            omega
          · exact i2 q hq hc hh
        · refine i3 Y ?_ fun q hq => hf q (List.mem_cons_of_mem _ hq)
          have := hf p (List.mem_cons_self ..) c
          unfold hitP at this
          split <;> omega
      · rw [if_neg c2]
        refine ⟨Int.le_refl _, fun q hq hc hh => ?_, fun Y hY hf => hY⟩
        rcases List.mem_cons.mp hq with rfl | hq
        · exact c2 hh.2
        · have := h1 q hq
          have := hh.2
          omega
    · rw [if_neg c]
      obtain ⟨i1, i2, i3⟩ := lowF_ok ps low h2
      refine ⟨i1, fun q hq hc hh => ?_, fun Y hY hf => i3 Y hY fun q hq => hf q (List.mem_cons_of_mem _ hq)⟩
      rcases List.mem_cons.mp hq with rfl | hq
      · exact c hc
      · exact i2 q hq hc hh
theorem max_le {X : Int} : ∀ (L : List Int), (∃ x, x ∈ L ∧ x ≤ X) → ∃ m, m ∈ L ∧ m ≤ X ∧ ∀ y, y ∈ L → y ≤ X → y ≤ m
  | [], ⟨x, h, _⟩ => (List.not_mem_nil h).elim
  | a :: L, h => by
    by_cases c : ∃ x, x ∈ L ∧ x ≤ X
    · obtain ⟨m, m1, m2, m3⟩ := max_le L c
      by_cases c2 : a ≤ X ∧ m < a
      · refine ⟨a, List.mem_cons_self .., c2.1, fun y hy hyx => ?_⟩
        rcases List.mem_cons.mp hy with rfl | hy
        · omega
        · have := m3 y hy hyx; omega
      · refine ⟨m, List.mem_cons_of_mem _ m1, m2, fun y hy hyx => ?_⟩
        rcases List.mem_cons.mp hy with rfl | hy
        · omega
        · exact m3 y hy hyx
    · obtain ⟨x, h1, h2⟩ := h
      rcases List.mem_cons.mp h1 with rfl | h1
      · refine ⟨x, List.mem_cons_self .., h2, fun y hy hyx => ?_⟩
        rcases List.mem_cons.mp hy with rfl | hy
        · omega
        · exact absurd ⟨y, hy, hyx⟩ c
      · exact absurd ⟨x, h1, h2⟩ c
theorem rows_pos : ∀ r, r ∈ rowsL → ∀ x, x ∈ r → 1 ≤ x ∧ x ≤ 6 := by decide
theorem row_pos {r : List Int} {a : Int} (h : ROk r) (h0 : 0 ≤ a) (h1 : a < r.length) : 1 ≤ r.getD a.toNat 0 ∧ r.getD a.toNat 0 ≤ 6 := by
  have hl : a.toNat < r.length := by omega
  have e : r.getD a.toNat 0 = r[a.toNat] := by simp [List.getD, List.getElem?_eq_getElem hl]
  rw [e]
  exact rows_pos r h _ (List.getElem_mem hl)
theorem szW_pos {l : Ls} {a b : Int} (h : ROk l.w) (k : KOk l a b) : 1 ≤ szW l a ∧ szW l a ≤ 6 := row_pos h k.1 k.2.1
theorem szH_pos {l : Ls} {a b : Int} (h : ROk l.h) (k : KOk l a b) : 1 ≤ szH l b ∧ szH l b ≤ 6 := row_pos h k.2.2.1 k.2.2.2
/-- a place can be slid to the left, on to a candidate -/
theorem slide {W Hh a b X Y : Int} {ps : List Pc} (h : placeFor l t W Hh a b ps X Y) : ∃ X', X' ∈ (0 :: ps.map fun p => hiS l t p 0) ∧ X' ≤ X ∧ placeFor l t W Hh a b ps X' Y := by
  obtain ⟨h1, h2, h3, h4, h5⟩ := h
  obtain ⟨m, m1, m2, m3⟩ := max_le (X := X) (0 :: ps.map fun p => hiS l t p 0) ⟨0, List.mem_cons_self .., h1⟩
  have m0 : 0 ≤ m := m3 0 (List.mem_cons_self ..) h1
  refine ⟨m, m1, m2, m0, by omega, h3, h4, fun p hp hh => ?_⟩
  have n := h5 p hp
  by_cases c : hiS l t p 0 ≤ X
  · have := m3 _ (List.mem_cons_of_mem _ (List.mem_map.mpr ⟨p, hp, rfl⟩)) c
    omega
  · exact n ⟨⟨by omega, by omega⟩, hh.2⟩
end
end K28
end
section
set_option linter.all false
namespace K28
open PySem L2 DL
def p0 : Pc := ⟨0, 0, 0, 0, 0, 0⟩
theorem range_get (ps : List Pc) : (List.range ps.length).map (fun i => ps.getD i p0) = ps := by
  apply List.ext_getElem?
  intro i
  rw [List.getElem?_map]
  by_cases h : i < ps.length
  · rw [List.getElem?_range h, List.getElem?_eq_getElem h]
    simp [List.getD, List.getElem?_eq_getElem h]
  · rw [List.getElem?_eq_none (by simpa using h), List.getElem?_eq_none (by omega)]
    rfl
theorem filter_range (ps : List Pc) (s h : Int) : ((List.range ps.length).filter (atSh ps s h)).map (fun i => ps.getD i p0) = ps.filter (onSh s h) := by
  conv => rhs; rw [← range_get ps]
  rw [List.filter_map]
  congr 1
  apply List.filter_congr
  intro i hi
  have h := List.mem_range.mp hi
  simp [atSh, List.getD, List.getElem?_eq_getElem h]
theorem inc_step {us : List Int} (hs : us.Pairwise (· < ·)) : ∀ (d i : Nat) (hj : i + d < us.length), us[i]'(by omega) + d ≤ us[i + d]
  | 0, i, hj => by simp
  | d + 1, i, hj => by
    have h1 := inc_step hs d i (by omega)
    have h2 := List.pairwise_iff_getElem.mp hs (i + d) (i + (d + 1)) (by omega) hj (by omega)
    omega
theorem full_list {us : List Int} {c h : Int} (hs : us.Pairwise (· < ·)) (h0 : ∀ x, x ∈ us → 0 ≤ x ∧ x < c) (hl : c ≤ us.length) (h1 : 0 ≤ h) (h2 : h < c) : h ∈ us := by
  have hh : h.toNat < us.length := by omega
  have a1 := inc_step hs h.toNat 0 (by omega)
  have a2 := inc_step hs (us.length - 1 - h.toNat) h.toNat (by omega)
  have b1 := h0 _ (List.getElem_mem (show 0 < us.length by omega))
  have e : h.toNat + (us.length - 1 - h.toNat) = us.length - 1 := by omega
  have b2 := h0 (us[h.toNat + (us.length - 1 - h.toNat)]'(by omega)) (List.getElem_mem _)
  simp only [Nat.zero_add] at a1
  have e2 : us[h.toNat] = h := by omega
  rw [← e2]
  exact List.getElem_mem hh
section
variable {l : Ls} {st : List (Int × Int × Int)} {t : Int} {ps : List Pc} {a b s h X Y : Int} {e : Int × Int × Int}
theorem onSh_iff {p : Pc} : onSh s h p = true ↔ p.s = s ∧ p.h = h := by
  unfold onSh
  simp
/-- free at: no piece of the sheet is met -/
theorem freeAt_iff (hs : 0 ≤ s) (he : st[s.toNat]? = some e) (hk : KOk l a b) : FreeAt l st t ps a b s h X Y ↔ (0 ≤ h ∧ h < e.2.2 ∧ placeFor l t e.1 e.2.1 a b (ps.filter (onSh s h)) X Y) := by
  have ov : ∀ p : Pc, p.s = s → p.h = h → (ovB l t ⟨a, b, s, h, X, Y⟩ p = false ↔ ¬ ((X < hiS l t p 0 ∧ loS p 0 < X + szW l a * t) ∧ (Y < hiS l t p 1 ∧ loS p 1 < Y + szH l b * t))) := fun p h1 h2 => by
    unfold ovB ovS
    rw [h1, h2]
    simp [loS, hiS, szS]
  constructor
  · rintro ⟨⟨_, _, e', he', h0, h1, i1, i2, i3, i4⟩, hd⟩
    have : e' = e := by
      have he2 : st[s.toNat]? = some e' := he'
      rw [he] at he2
      exact (Option.some.inj he2).symm
    subst this
    refine ⟨h0, h1, i1, i2, i3, i4, fun p hp => ?_⟩
    obtain ⟨hp1, hp2⟩ := List.mem_filter.mp hp
    obtain ⟨g1, g2⟩ := onSh_iff.mp hp2
    exact (ov p g1 g2).mp (hd p hp1)
  · rintro ⟨h0, h1, i1, i2, i3, i4, hd⟩
    refine ⟨⟨hk, hs, e, he, h0, h1, i1, i2, i3, i4⟩, fun p hp => ?_⟩
    by_cases c : p.s = s ∧ p.h = h
    · exact (ov p c.1 c.2).mpr (hd p (List.mem_filter.mpr ⟨hp, onSh_iff.mpr c⟩))
    · unfold ovB
      have : (decide ((⟨a, b, s, h, X, Y⟩ : Pc).s = p.s) && decide ((⟨a, b, s, h, X, Y⟩ : Pc).h = p.h)) = false := by
        rw [Bool.and_eq_false_iff, decide_eq_false_iff_not, decide_eq_false_iff_not]
        by_cases c1 : p.s = s
        · right; intro z; exact c ⟨c1, z.symm⟩
        · left; intro z; exact c1 z.symm
      rw [this, Bool.false_and]
theorem POk.pos {p : Pc} (hL : LOk l) (ht : TOk t) (h : POk l st t p) : PosP l t p := by
  obtain ⟨k, _, e, _, _, _, h1, _, h2, _⟩ := h
  have w := szW_pos hL.w k
  have v := szH_pos hL.h k
  have ht1 := ht.1
  have m1 : 0 < szW l p.a * t := Int.mul_pos (by omega) (by omega)
  have m2 : 0 < szH l p.b * t := Int.mul_pos (by omega) (by omega)
  refine ⟨k, ?_, ?_, h1, h2⟩
  · show p.x < p.x + szW l p.a * t
    omega
  · show p.y < p.y + szH l p.b * t
    omega
end
end K28
end
section
set_option linter.all false
namespace K28
open PySem L2 DL
def mrg (L : Int) : List (Int × Int) → Int → List (Int × Int)
  | [], s => if s < L then [(s, L)] else []
  | x :: xs, s => (if s < x.1 then [(s, x.1)] else []) ++ mrg L xs (if s < x.2 then x.2 else s)
def cov (gs : List (Int × Int)) (c : Int) : Prop := ∃ g, g ∈ gs ∧ g.1 ≤ c ∧ c < g.2
theorem mrg_len (L : Int) : ∀ (xs : List (Int × Int)) (s : Int), (mrg L xs s).length ≤ xs.length + 1
  | [], s => by rw [mrg]; split <;> simp
  | x :: xs, s => by
    have := mrg_len L xs (if s < x.2 then x.2 else s)
    rw [mrg, List.length_append, List.length_cons]
    split <;> simp <;> omega
theorem mrg_ok (L : Int) : ∀ (xs : List (Int × Int)) (s : Int), xs.Pairwise (fun x y => x.1 ≤ y.1) → (∀ x, x ∈ xs → x.1 < x.2 ∧ x.2 ≤ L) →
    (∀ g, g ∈ mrg L xs s → s ≤ g.1 ∧ g.1 < g.2) ∧ (mrg L xs s).Pairwise (fun g h => g.2 < h.1) ∧
    ∀ c, cov (mrg L xs s) c ↔ (s ≤ c ∧ c < L ∧ ∀ x, x ∈ xs → ¬ (x.1 ≤ c ∧ c < x.2))
  | [], s, _, _ => by
    rw [mrg]
    by_cases h : s < L
    · rw [if_pos h]
      refine ⟨fun g hg => ?_, List.pairwise_singleton _ _, fun c => ⟨?_, ?_⟩⟩
      · cases List.mem_singleton.mp hg; exact ⟨Int.le_refl _, h⟩
      · rintro ⟨g, hg, h1, h2⟩
        cases List.mem_singleton.mp hg
        exact ⟨h1, h2, fun x hx => (List.not_mem_nil hx).elim⟩
      · rintro ⟨h1, h2, _⟩
        exact ⟨(s, L), List.mem_singleton.mpr rfl, h1, h2⟩
    · rw [if_neg h]
      refine ⟨fun g hg => (List.not_mem_nil hg).elim, List.Pairwise.nil, fun c => ⟨?_, ?_⟩⟩
      · rintro ⟨g, hg, _⟩; exact (List.not_mem_nil hg).elim
      · rintro ⟨h1, h2, _⟩; omega
  | x :: xs, s, hs, hx => by
    obtain ⟨s1, s2⟩ := List.pairwise_cons.mp hs
    have hxx := hx x (List.mem_cons_self ..)
    obtain ⟨i1, i2, i3⟩ := mrg_ok L xs (if s < x.2 then x.2 else s) s2 fun y hy => hx y (List.mem_cons_of_mem _ hy)
    have hm : s ≤ (if s < x.2 then x.2 else s) ∧ x.2 ≤ (if s < x.2 then x.2 else s) ∧ ∀ c, (if s < x.2 then x.2 else s) ≤ c ↔ s ≤ c ∧ x.2 ≤ c := by
      split
      · exact ⟨by omega, by omega, fun c => by omega⟩
      · exact ⟨by omega, by omega, fun c => by omega⟩
    rw [mrg]
    generalize (if s < x.2 then x.2 else s) = s' at i1 i2 i3 hm ⊢
    have hcov : ∀ c, cov ((if s < x.1 then [(s, x.1)] else []) ++ mrg L xs s') c ↔ ((s ≤ c ∧ c < x.1) ∨ cov (mrg L xs s') c) := fun c => by
      constructor
      · rintro ⟨g, hg, h1, h2⟩
        rcases List.mem_append.mp hg with hg | hg
        · split at hg
          · cases List.mem_singleton.mp hg
            exact .inl ⟨h1, h2⟩
          · exact (List.not_mem_nil hg).elim
        · exact .inr ⟨g, hg, h1, h2⟩
      · rintro (⟨h1, h2⟩ | ⟨g, hg, h1, h2⟩)
        · refine ⟨(s, x.1), List.mem_append_left _ ?_, h1, h2⟩
          rw [if_pos (by omega)]
          exact List.mem_singleton.mpr rfl
        · exact ⟨g, List.mem_append_right _ hg, h1, h2⟩
    refine ⟨fun g hg => ?_, ?_, fun c => ?_⟩
    · rcases List.mem_append.mp hg with hg | hg
      · split at hg
        · cases List.mem_singleton.mp hg
          exact ⟨Int.le_refl _, by assumption⟩
        · exact (List.not_mem_nil hg).elim
      · have := i1 g hg
        exact ⟨by omega, this.2⟩
    · refine List.pairwise_append.mpr ⟨?_, i2, fun g hg h hh => ?_⟩
      · split
        · exact List.pairwise_singleton _ _
        · exact List.Pairwise.nil
      · split at hg
        · cases List.mem_singleton.mp hg
          have := i1 h hh
          show x.1 < h.1
          omega
        · exact (List.not_mem_nil hg).elim
    · rw [hcov c, i3 c, hm.2.2 c]
      constructor
      · rintro (⟨h1, h2⟩ | ⟨⟨h1, h2⟩, h3, h4⟩)
        · refine ⟨h1, by omega, fun y hy => ?_⟩
          rcases List.mem_cons.mp hy with rfl | hy
          · omega
          · have := s1 y hy; omega
        · refine ⟨h1, h3, fun y hy => ?_⟩
          rcases List.mem_cons.mp hy with rfl | hy
          · omega
          · exact h4 y hy
      · rintro ⟨h1, h2, h3⟩
        have := h3 x (List.mem_cons_self ..)
        by_cases c2 : c < x.1
        · exact .inl ⟨h1, c2⟩
        · exact .inr ⟨⟨h1, by omega⟩, h2, fun y hy => h3 y (List.mem_cons_of_mem _ hy)⟩
theorem gaps_mrg {L : Int} {ss xs : List (Int × Int)} (hs : xs.Pairwise (fun x y => x.1 ≤ y.1)) (hm : ∀ x, x ∈ xs ↔ x ∈ ss) (hx : ∀ x, x ∈ ss → x.1 < x.2 ∧ x.2 ≤ L) : Gaps L ss (mrg L xs 0) := by
  obtain ⟨i1, i2, i3⟩ := mrg_ok L xs 0 hs fun x h => hx x ((hm x).mp h)
  refine ⟨fun g hg => (i1 g hg).2, i2, fun c => ?_⟩
  rw [show (∃ g, g ∈ mrg L xs 0 ∧ g.1 ≤ c ∧ c < g.2) ↔ cov (mrg L xs 0) c from Iff.rfl, i3 c]
  constructor
  · rintro ⟨h1, h2, h3⟩
    exact ⟨h1, h2, fun x h => h3 x ((hm x).mpr h)⟩
  · rintro ⟨h1, h2, h3⟩
    exact ⟨h1, h2, fun x h => h3 x ((hm x).mp h)⟩
theorem cov_uniq : ∀ (g1 g2 : List (Int × Int)), (∀ g, g ∈ g1 → g.1 < g.2) → (∀ g, g ∈ g2 → g.1 < g.2) → g1.Pairwise (fun g h => g.2 < h.1) → g2.Pairwise (fun g h => g.2 < h.1) → (∀ c, cov g1 c ↔ cov g2 c) → g1 = g2
  | [], [], _, _, _, _, _ => rfl
  | [], g :: r, _, n2, _, _, h => by
    have := n2 g (List.mem_cons_self ..)
    obtain ⟨x, hx, _⟩ := (h g.1).mpr ⟨g, List.mem_cons_self .., Int.le_refl _, this⟩
    exact (List.not_mem_nil hx).elim
  | g :: r, [], n1, _, _, _, h => by
    have := n1 g (List.mem_cons_self ..)
    obtain ⟨x, hx, _⟩ := (h g.1).mp ⟨g, List.mem_cons_self .., Int.le_refl _, this⟩
    exact (List.not_mem_nil hx).elim
  | (a, b) :: r, (a', b') :: r', n1, n2, p1, p2, h => by
    obtain ⟨q1, q2⟩ := List.pairwise_cons.mp p1
    obtain ⟨q3, q4⟩ := List.pairwise_cons.mp p2
    have ab : a < b := n1 _ (List.mem_cons_self ..)
    have ab' : a' < b' := n2 _ (List.mem_cons_self ..)
    have lo : a' ≤ a := by
      obtain ⟨x, hx, h1, h2⟩ := (h a).mp ⟨(a, b), List.mem_cons_self .., Int.le_refl _, ab⟩
      rcases List.mem_cons.mp hx with rfl | hx
      · exact h1
      · have := q3 x hx; simp at this; omega
    have lo' : a ≤ a' := by
      obtain ⟨x, hx, h1, h2⟩ := (h a').mpr ⟨(a', b'), List.mem_cons_self .., Int.le_refl _, ab'⟩
      rcases List.mem_cons.mp hx with rfl | hx
      · exact h1
      · have := q1 x hx; simp at this; omega
    have ea : a = a' := by omega
    subst ea
    have hi : ¬ b < b' := fun c => by
      obtain ⟨x, hx, h1, h2⟩ := (h b).mpr ⟨(a, b'), List.mem_cons_self .., Int.le_of_lt ab, c⟩
      rcases List.mem_cons.mp hx with rfl | hx
      · exact Int.lt_irrefl _ h2
      · have := q1 x hx; simp at this; omega
    have hi' : ¬ b' < b := fun c => by
      obtain ⟨x, hx, h1, h2⟩ := (h b').mp ⟨(a, b), List.mem_cons_self .., Int.le_of_lt ab', c⟩
      rcases List.mem_cons.mp hx with rfl | hx
      · exact Int.lt_irrefl _ h2
      · have := q3 x hx; simp at this; omega
    have eb : b = b' := by omega
    subst eb
    rw [cov_uniq r r' (fun g hg => n1 g (List.mem_cons_of_mem _ hg)) (fun g hg => n2 g (List.mem_cons_of_mem _ hg)) q2 q4 fun c => ?_]
    constructor
    · rintro ⟨x, hx, h1, h2⟩
      obtain ⟨y, hy, h3, h4⟩ := (h c).mp ⟨x, List.mem_cons_of_mem _ hx, h1, h2⟩
      have := q1 x hx
      simp at this
      rcases List.mem_cons.mp hy with rfl | hy
      · simp at h4; omega
      · exact ⟨y, hy, h3, h4⟩
    · rintro ⟨x, hx, h1, h2⟩
      obtain ⟨y, hy, h3, h4⟩ := (h c).mpr ⟨x, List.mem_cons_of_mem _ hx, h1, h2⟩
      have := q3 x hx
      simp at this
      rcases List.mem_cons.mp hy with rfl | hy
      · simp at h4; omega
      · exact ⟨y, hy, h3, h4⟩
theorem Gaps.uniq {L : Int} {ss g1 g2 : List (Int × Int)} (h1 : Gaps L ss g1) (h2 : Gaps L ss g2) : g1 = g2 :=
  cov_uniq g1 g2 h1.ne h2.ne h1.sep h2.sep fun c => (h1.eq c).trans (h2.eq c).symm
end K28
end
section
set_option linter.all false
namespace K28
open PySem L2 DL
structure TI (ss T : List (Int × Int)) (m : Int) : Prop where
  ne : ∀ g, g ∈ T → g.1 < g.2 ∧ g.2 ≤ m
  sep : T.Pairwise fun g h => g.2 < h.1
  eq : ∀ c, cov T c ↔ (0 ≤ c ∧ c < m ∧ ∀ s, s ∈ ss → ¬ (s.1 ≤ c ∧ c < s.2))
section
variable {ss T : List (Int × Int)} {a b x : Int}
theorem TI.skip (h : TI ss T a) (hab : a < b) (hc : ∀ c, a ≤ c → c < b → ∃ s, s ∈ ss ∧ s.1 ≤ c ∧ c < s.2) : TI ss T b where
  ne := fun g hg => ⟨(h.ne g hg).1, by have := (h.ne g hg).2; omega⟩
  sep := h.sep
  eq := fun c => by
    rw [h.eq c]
    constructor
    · rintro ⟨h1, h2, h3⟩; exact ⟨h1, by omega, h3⟩
    · rintro ⟨h1, h2, h3⟩
      refine ⟨h1, ?_, h3⟩
      by_cases c2 : c < a
      · exact c2
      · obtain ⟨s, hs, h4, h5⟩ := hc c (by omega) h2
        exact absurd ⟨h4, h5⟩ (h3 s hs)
theorem cov_app {c : Int} : cov (T ++ [(a, b)]) c ↔ cov T c ∨ (a ≤ c ∧ c < b) := by
  constructor
  · rintro ⟨g, hg, h1, h2⟩
    rcases List.mem_append.mp hg with hg | hg
    · exact .inl ⟨g, hg, h1, h2⟩
    · cases List.mem_singleton.mp hg
      exact .inr ⟨h1, h2⟩
  · rintro (⟨g, hg, h1, h2⟩ | ⟨h1, h2⟩)
    · exact ⟨g, List.mem_append_left _ hg, h1, h2⟩
    · exact ⟨(a, b), List.mem_append_right _ (List.mem_singleton.mpr rfl), h1, h2⟩
theorem TI.ext (h : TI ss (T ++ [(x, a)]) a) (h0 : 0 ≤ a) (hab : a < b) (hc : ∀ c, a ≤ c → c < b → ∀ s, s ∈ ss → ¬ (s.1 ≤ c ∧ c < s.2)) : TI ss (T ++ [(x, b)]) b where
  ne := fun g hg => by
    rcases List.mem_append.mp hg with hg | hg
    · have := h.ne g (List.mem_append_left _ hg)
      exact ⟨this.1, by omega⟩
    · cases List.mem_singleton.mp hg
      have := (h.ne (x, a) (List.mem_append_right _ (List.mem_singleton.mpr rfl))).1
      simp at this ⊢
      omega
  sep := by
    have := List.pairwise_append.mp h.sep
    refine List.pairwise_append.mpr ⟨this.1, List.pairwise_singleton _ _, fun g hg k hk => ?_⟩
    cases List.mem_singleton.mp hk
    exact this.2.2 g hg (x, a) (List.mem_singleton.mpr rfl)
  eq := fun c => by
    have e := h.eq c
    rw [cov_app] at e ⊢
    have xa := (h.ne (x, a) (List.mem_append_right _ (List.mem_singleton.mpr rfl))).1
    simp only at xa
    constructor
    · rintro (h1 | ⟨h1, h2⟩)
      · obtain ⟨z1, z2, z3⟩ := e.mp (.inl h1)
        exact ⟨z1, by omega, z3⟩
      · by_cases c2 : c < a
        · obtain ⟨z1, z2, z3⟩ := e.mp (.inr ⟨h1, c2⟩)
          exact ⟨z1, by omega, z3⟩
        · exact ⟨by omega, h2, hc c (by omega) h2⟩
    · rintro ⟨h1, h2, h3⟩
      by_cases c2 : c < a
      · rcases e.mpr ⟨h1, c2, h3⟩ with z | z
        · exact .inl z
        · exact .inr ⟨z.1, h2⟩
      · exact .inr ⟨by omega, h2⟩
theorem TI.app (h : TI ss T a) (h0 : 0 ≤ a) (hab : a < b) (hc : ∀ c, a ≤ c → c < b → ∀ s, s ∈ ss → ¬ (s.1 ≤ c ∧ c < s.2)) (hl : ∀ g, g ∈ T → g.2 ≠ a) : TI ss (T ++ [(a, b)]) b where
  ne := fun g hg => by
    rcases List.mem_append.mp hg with hg | hg
    · have := h.ne g hg
      exact ⟨this.1, by omega⟩
    · cases List.mem_singleton.mp hg
      exact ⟨hab, Int.le_refl _⟩
  sep := by
    refine List.pairwise_append.mpr ⟨h.sep, List.pairwise_singleton _ _, fun g hg k hk => ?_⟩
    cases List.mem_singleton.mp hk
    have := h.ne g hg
    have := hl g hg
    simp
    omega
  eq := fun c => by
    have e := h.eq c
    rw [cov_app]
    constructor
    · rintro (h1 | ⟨h1, h2⟩)
      · obtain ⟨z1, z2, z3⟩ := e.mp h1
        exact ⟨z1, by omega, z3⟩
      · exact ⟨by omega, h2, hc c h1 h2⟩
    · rintro ⟨h1, h2, h3⟩
      by_cases c2 : c < a
      · exact .inl (e.mpr ⟨h1, c2, h3⟩)
      · exact .inr ⟨by omega, h2⟩
/-- all but the last end before the last -/
theorem TI.last (h : TI ss (T ++ [(x, b)]) a) (hb : b ≠ a) : ∀ g, g ∈ T ++ [(x, b)] → g.2 ≠ a := by
  intro g hg
  have hx := h.ne (x, b) (List.mem_append_right _ (List.mem_singleton.mpr rfl))
  simp only at hx
  rcases List.mem_append.mp hg with hg | hg
  · have := (List.pairwise_append.mp h.sep).2.2 g hg (x, b) (List.mem_singleton.mpr rfl)
    simp only at this
    omega
  · cases List.mem_singleton.mp hg
    exact hb
end
section
variable {E : List Int} {n : Nat} {v c : Int}
theorem inc_lt (hs : E.Pairwise (· < ·)) {i j : Nat} (hi : i < E.length) (hj : j < E.length) : E[i] < E[j] ↔ i < j := by
  constructor
  · intro h
    by_cases c : i < j
    · exact c
    · by_cases e : i = j
      · subst e; omega
      · have := List.pairwise_iff_getElem.mp hs j i hj hi (by omega)
        omega
  · exact fun h => List.pairwise_iff_getElem.mp hs i j hi hj h
theorem el_lo (hs : E.Pairwise (· < ·)) (hn : n + 1 < E.length) (hv : v ∈ E) (h : v < E[n + 1]) : v ≤ E[n]'(by omega) := by
  obtain ⟨i, hi, rfl⟩ := List.getElem_of_mem hv
  have h1 := (inc_lt hs hi hn).mp h
  by_cases e : i = n
  · subst e; omega
  · have := (inc_lt hs hi (show n < E.length by omega)).mpr (by omega)
    omega
theorem el_hi (hs : E.Pairwise (· < ·)) (hn : n + 1 < E.length) (hv : v ∈ E) (h : E[n]'(by omega) < v) : E[n + 1] ≤ v := by
  obtain ⟨i, hi, rfl⟩ := List.getElem_of_mem hv
  have h1 := (inc_lt hs (show n < E.length by omega) hi).mp h
  by_cases e : i = n + 1
  · subst e; omega
  · have := (inc_lt hs hn hi).mpr (by omega)
    omega
/-- over a cell of an elementary stretch -/
theorem el_cell {s : Int × Int} (hs : E.Pairwise (· < ·)) (hn : n + 1 < E.length) (h1 : s.1 ∈ E) (h2 : s.2 ∈ E) (c1 : E[n]'(by omega) ≤ c) (c2 : c < E[n + 1]) : (s.1 ≤ c ∧ c < s.2) ↔ (s.1 ≤ E[n]'(by omega) ∧ E[n + 1] ≤ s.2) := by
  constructor
  · rintro ⟨h3, h4⟩
    exact ⟨el_lo hs hn h1 (by omega), el_hi hs hn h2 (by omega)⟩
  · rintro ⟨h3, h4⟩
    omega
theorem el_first (hs : E.Pairwise (· < ·)) (h0 : (0 : Int) ∈ E) (hp : ∀ x, x ∈ E → 0 ≤ x) : ∃ h : 0 < E.length, E[0] = 0 := by
  obtain ⟨i, hi, e⟩ := List.getElem_of_mem h0
  refine ⟨by omega, ?_⟩
  have h1 := hp _ (List.getElem_mem (show 0 < E.length by omega))
  by_cases c : i = 0
  · subst c; exact e
  · have := (inc_lt hs (show 0 < E.length by omega) hi).mpr (by omega)
    omega
theorem el_last {L : Int} (hs : E.Pairwise (· < ·)) (h0 : L ∈ E) (hp : ∀ x, x ∈ E → x ≤ L) : ∃ h : E.length - 1 < E.length, E[E.length - 1] = L := by
  obtain ⟨i, hi, e⟩ := List.getElem_of_mem h0
  refine ⟨by omega, ?_⟩
  have h1 := hp _ (List.getElem_mem (show E.length - 1 < E.length by omega))
  by_cases c : i = E.length - 1
  · subst c; exact e
  · have := (inc_lt hs hi (show E.length - 1 < E.length by omega)).mpr (by omega)
    omega
end
end K28
end
section
set_option linter.all false
namespace K28
open PySem L2 DL
theorem nodup_le : ∀ (l m : List Int), l.Nodup → (∀ x, x ∈ l → x ∈ m) → l.length ≤ m.length
  | [], _, _, _ => Nat.zero_le _
  | a :: l, m, hn, hs => by
    obtain ⟨h1, h2⟩ := List.nodup_cons.mp hn
    have ha := hs a (List.mem_cons_self ..)
    have := nodup_le l (m.erase a) h2 fun x hx => (List.mem_erase_of_ne (fun z => h1 (by rw [← z]; exact hx))).mpr (hs x (List.mem_cons_of_mem _ hx))
    rw [List.length_erase_of_mem ha] at this
    have := List.length_pos_of_mem ha
    rw [List.length_cons]
    omega
def zup (n : Nat) : List Int := (List.range n).map fun (k : Nat) => (k : Int)
theorem zup_mem {n : Nat} {x : Int} : x ∈ zup n ↔ 0 ≤ x ∧ x < n := by
  unfold zup
  rw [List.mem_map]
  constructor
  · rintro ⟨k, h, rfl⟩
    have := List.mem_range.mp h
    omega
  · rintro ⟨h1, h2⟩
    exact ⟨x.toNat, List.mem_range.mpr (by omega), by omega⟩
theorem zup_nodup (n : Nat) : (zup n).Nodup := by
  unfold zup List.Nodup
  rw [List.pairwise_map]
  exact List.Pairwise.imp (fun h => by omega) List.nodup_range
theorem zup_len (n : Nat) : (zup n).length = n := by simp [zup]
/-- a number that is not used -/
theorem spare (us : List Int) : ∃ m : Int, 0 ≤ m ∧ m ≤ us.length ∧ m ∉ us := by
  by_cases h : ∃ m : Int, 0 ≤ m ∧ m ≤ us.length ∧ m ∉ us
  · exact h
  · have := nodup_le (zup (us.length + 1)) us (zup_nodup _) fun x hx => by
      have := zup_mem.mp hx
      by_cases c : x ∈ us
      · exact c
      · exact absurd ⟨x, this.1, by omega, c⟩ h
    rw [zup_len] at this
    omega
theorem full_nd {us : List Int} {c h : Int} (hn : us.Nodup) (h0 : ∀ x, x ∈ us → 0 ≤ x ∧ x < c) (hl : c ≤ us.length) (h1 : 0 ≤ h) (h2 : h < c) : h ∈ us := by
  by_cases m : h ∈ us
  · exact m
  · have := nodup_le (h :: us) (zup c.toNat) (List.nodup_cons.mpr ⟨m, hn⟩) fun x hx => by
      rw [zup_mem]
      rcases List.mem_cons.mp hx with rfl | hx
      · omega
      · have := h0 x hx; omega
    rw [zup_len, List.length_cons] at this
    omega
end K28
end
section
set_option linter.all false
namespace K28
open PySem L2 DL
theorem band_nat (a b : Nat) : Builtin.bitAnd (a : Int) (b : Int) = ((a &&& b : Nat) : Int) := by
  unfold Builtin.bitAnd
  have h1 : decide (0 ≤ (a : Int)) = true := decide_eq_true (Int.natCast_nonneg a)
  have h2 : decide (0 ≤ (b : Int)) = true := decide_eq_true (Int.natCast_nonneg b)
  rw [h1, h2]
  simp
theorem bor_nat (a b : Nat) : Builtin.bitOr (a : Int) (b : Int) = ((a ||| b : Nat) : Int) := by
  unfold Builtin.bitOr Builtin.bitAnd
  have n1 : ¬ 0 ≤ Builtin.bitNot (a : Int) := by unfold Builtin.bitNot; omega
  have n2 : ¬ 0 ≤ Builtin.bitNot (b : Int) := by unfold Builtin.bitNot; omega
  rw [decide_eq_false n1, decide_eq_false n2]
  have e : ∀ x : Int, Builtin.bitNot (Builtin.bitNot x) = x := fun x => by unfold Builtin.bitNot; omega
  simp only [e, Int.toNat_natCast]
theorem bm_succ (w h c : Nat) : blockM w (h + 1) c = 2 ^ (h * c) * (2 ^ w - 1) + blockM w h c := by
  unfold blockM
  rw [List.range_succ, List.foldl_append]
  simp only [List.foldl_cons, List.foldl_nil]
  rw [Nat.mul_comm (2 ^ (h * c)), Nat.add_comm]
theorem bm_lt {w c : Nat} (hw : w ≤ c) : ∀ h, blockM w h c < 2 ^ (h * c)
  | 0 => by simp [blockM]
  | h + 1 => by
    have ih := bm_lt hw h
    rw [bm_succ]
    have e : 2 ^ ((h + 1) * c) = 2 ^ (h * c) * 2 ^ c := by rw [Nat.add_mul, Nat.one_mul, Nat.pow_add]
    have m : 2 ^ (h * c) * 2 ^ w ≤ 2 ^ (h * c) * 2 ^ c := Nat.mul_le_mul_left _ (Nat.pow_le_pow_right (by decide) hw)
    have m2 : 2 ^ (h * c) * 2 ^ w = 2 ^ (h * c) * (2 ^ w - 1) + 2 ^ (h * c) := by
      have : 2 ^ w = (2 ^ w - 1) + 1 := by have := Nat.one_le_two_pow (n := w); omega
      conv => lhs; rw [this]
      rw [Nat.mul_add, Nat.mul_one]
    rw [e]
    omega
theorem bm_bit {w c : Nat} (hc : 0 < c) (hw : w ≤ c) : ∀ (h i : Nat), (blockM w h c).testBit i = true ↔ (i % c < w ∧ i / c < h)
  | 0, i => by simp [blockM]
  | h + 1, i => by
    rw [bm_succ, Nat.testBit_two_pow_mul_add _ (bm_lt hw h)]
    have dm := Nat.div_add_mod i c
    have ml := Nat.mod_lt i hc
    by_cases hi : i < h * c
    · rw [if_pos hi, bm_bit hc hw h i]
      have : i / c < h := (Nat.div_lt_iff_lt_mul hc).mpr hi
      omega
    · rw [if_neg hi, Nat.testBit_two_pow_sub_one, decide_eq_true_iff]
      have hge : h ≤ i / c := (Nat.le_div_iff_mul_le hc).mpr (by omega)
      constructor
      · intro hlt
        have e : i = (i - h * c) + h * c := by omega
        have d : i / c = h := by
          rw [e, Nat.add_mul_div_right _ _ hc, Nat.div_eq_of_lt (by omega)]
          omega
        have m : i % c = i - h * c := by
          conv => lhs; rw [e]
          rw [Nat.add_mul_mod_self_right, Nat.mod_eq_of_lt (by omega)]
        omega
      · rintro ⟨h1, h2⟩
        have d : i / c = h := by omega
        rw [d] at dm
        have : h * c = c * h := Nat.mul_comm _ _
        omega
def rectBit (c : Nat) (X Y W H : Int) (i : Nat) : Prop := X ≤ ((i % c : Nat) : Int) ∧ ((i % c : Nat) : Int) < X + W ∧ Y ≤ ((i / c : Nat) : Int) ∧ ((i / c : Nat) : Int) < Y + H
theorem cell_of {u v c : Nat} (hu : u < c) : (u + v * c) % c = u ∧ (u + v * c) / c = v := by
  constructor
  · rw [Nat.add_mul_mod_self_right, Nat.mod_eq_of_lt hu]
  · rw [Nat.add_mul_div_right _ _ (by omega), Nat.div_eq_of_lt hu, Nat.zero_add]
theorem sh_bitN {c x y w h i : Nat} (hc : 0 < c) (hw : x + w ≤ c) : (blockM w h c * 2 ^ (x + y * c)).testBit i = true ↔ (x ≤ i % c ∧ i % c < x + w ∧ y ≤ i / c ∧ i / c < y + h) := by
  rw [Nat.testBit_mul_two_pow, Bool.and_eq_true, decide_eq_true_iff, bm_bit hc (by omega)]
  have dm := Nat.div_add_mod i c
  have ml := Nat.mod_lt i hc
  constructor
  · rintro ⟨h1, h2, h3⟩
    have dj := Nat.div_add_mod (i - (x + y * c)) c
    have e : i = (x + (i - (x + y * c)) % c) + (y + (i - (x + y * c)) / c) * c := by
      have : (y + (i - (x + y * c)) / c) * c = y * c + c * ((i - (x + y * c)) / c) := by rw [Nat.add_mul, Nat.mul_comm ((i - (x + y * c)) / c)]
      omega
    obtain ⟨e1, e2⟩ := cell_of (u := x + (i - (x + y * c)) % c) (v := y + (i - (x + y * c)) / c) (c := c) (by omega)
    rw [← e] at e1 e2
    generalize (i - (x + y * c)) % c = dd at *
    generalize (i - (x + y * c)) / c = rr at *
    rw [e1, e2]
    omega
  · rintro ⟨h1, h2, h3, h4⟩
    have e : i - (x + y * c) = (i % c - x) + (i / c - y) * c := by
      have : (i / c - y) * c = i / c * c - y * c := Nat.sub_mul _ _ _
      have h5 : y * c ≤ i / c * c := Nat.mul_le_mul_right _ h3
      have h6 : i / c * c = c * (i / c) := Nat.mul_comm _ _
      omega
    have hle : x + y * c ≤ i := by
      have h5 : y * c ≤ i / c * c := Nat.mul_le_mul_right _ h3
      have h6 : i / c * c = c * (i / c) := Nat.mul_comm _ _
      omega
    obtain ⟨e1, e2⟩ := cell_of (u := i % c - x) (v := i / c - y) (c := c) (by omega)
    rw [← e] at e1 e2
    exact ⟨hle, by omega, by omega⟩
/-- a block that lies at (X, Y) -/
theorem sh_bit {C X Y W H : Int} {i : Nat} (hC : 0 < C) (hX : 0 ≤ X) (hY : 0 ≤ Y) (hW : 0 ≤ W) (hH : 0 ≤ H) (hw : X + W ≤ C) : (blockM W.toNat H.toNat C.toNat * 2 ^ (X + Y * C).toNat).testBit i = true ↔ rectBit C.toNat X Y W H i := by
  have e : (X + Y * C).toNat = X.toNat + Y.toNat * C.toNat := by
    have h1 : (0 : Int) ≤ Y * C := Int.mul_nonneg hY (by omega)
    rw [Int.toNat_add hX h1]
    congr 1
    exact Int.toNat_mul hY (by omega)
  rw [e, sh_bitN (by omega) (by omega)]
  unfold rectBit
  omega
theorem and_zero {a b : Nat} : a &&& b = 0 ↔ ∀ i, ¬ (a.testBit i = true ∧ b.testBit i = true) := by
  constructor
  · intro h i hi
    have := congrArg (fun x => x.testBit i) h
    simp only [Nat.testBit_and, Nat.zero_testBit] at this
    rw [hi.1, hi.2] at this
    cases this
  · intro h
    apply Nat.eq_of_testBit_eq
    intro i
    rw [Nat.testBit_and, Nat.zero_testBit]
    have := h i
    cases h1 : a.testBit i <;> cases h2 : b.testBit i <;> simp_all
/-- two rects share a cell just if they lap -/
theorem rect_lap {C X Y W H X' Y' W' H' : Int} (hC : 0 < C) (hX : 0 ≤ X) (hY : 0 ≤ Y) (hX' : 0 ≤ X') (hY' : 0 ≤ Y') (hw : X + W ≤ C) (hw' : X' + W' ≤ C) (p1 : 0 < W) (p2 : 0 < W') (p3 : 0 < H) (p4 : 0 < H') :
    (∃ i, rectBit C.toNat X Y W H i ∧ rectBit C.toNat X' Y' W' H' i) ↔ ((X < X' + W' ∧ X' < X + W) ∧ (Y < Y' + H' ∧ Y' < Y + H)) := by
  constructor
  · rintro ⟨i, ⟨a1, a2, a3, a4⟩, ⟨b1, b2, b3, b4⟩⟩
    omega
  · rintro ⟨⟨h1, h2⟩, h3, h4⟩
    have hu : (max X X').toNat < C.toNat := by omega
    obtain ⟨e1, e2⟩ := cell_of (u := (max X X').toNat) (v := (max Y Y').toNat) hu
    refine ⟨(max X X').toNat + (max Y Y').toNat * C.toNat, ?_, ?_⟩
    · unfold rectBit
      rw [e1, e2]
      omega
    · unfold rectBit
      rw [e1, e2]
      omega
theorem pigeon {β : Type} (blk : β → Int → Prop) : ∀ (ps : List β) (ks : List Int), (∀ p, p ∈ ps → ∀ k k', blk p k → blk p k' → k = k') → ps.length < ks.length → ks.Nodup → ∃ k, k ∈ ks ∧ ∀ p, p ∈ ps → ¬ blk p k
  | [], k :: ks, _, _, _ => ⟨k, List.mem_cons_self .., fun p h => (List.not_mem_nil h).elim⟩
  | [], [], _, h, _ => by simp at h
  | p :: ps, ks, h1, h2, h3 => by
    by_cases c : ∃ k, k ∈ ks ∧ blk p k
    · obtain ⟨k, hk, hb⟩ := c
      obtain ⟨k', m1, m2⟩ := pigeon blk ps (ks.erase k) (fun p hp => h1 p (List.mem_cons_of_mem _ hp)) (by rw [List.length_erase_of_mem hk]; simp at h2; omega) (h3.erase k)
      refine ⟨k', List.mem_of_mem_erase m1, fun q hq hq2 => ?_⟩
      rcases List.mem_cons.mp hq with rfl | hq
      · have := h1 q (List.mem_cons_self ..) k k' hb hq2
        subst this
        exact (List.Nodup.mem_erase_iff h3).mp m1 |>.1 rfl
      · exact m2 q hq hq2
    · obtain ⟨k', m1, m2⟩ := pigeon blk ps ks (fun p hp => h1 p (List.mem_cons_of_mem _ hp)) (by simp at h2; omega) h3
      refine ⟨k', m1, fun q hq hq2 => ?_⟩
      rcases List.mem_cons.mp hq with rfl | hq
      · exact c ⟨k', m1, hq2⟩
      · exact m2 q hq hq2
end K28
end
section
set_option linter.all false
namespace K28
open PySem L2 DL
theorem ovB_comm {l : Ls} {t : Int} {p o : Pc} : ovB l t p o = ovB l t o p := by
  unfold ovB ovS
  have e1 : decide (p.s = o.s) = decide (o.s = p.s) := decide_eq_decide.mpr ⟨Eq.symm, Eq.symm⟩
  have e2 : decide (p.h = o.h) = decide (o.h = p.h) := decide_eq_decide.mpr ⟨Eq.symm, Eq.symm⟩
  rw [e1, e2]
  congr 1
  congr 1 <;> exact Bool.and_comm _ _
def liftP (s h : Int) (p : Pc) : Pc := ⟨p.a, p.b, s, h, p.x, p.y⟩
/-- what the leaves so far hold -/
structure SI (l : Ls) (st : List (Int × Int × Int)) (t : Int) (spots : List (Int × Int)) (ps : List Pc) : Prop where
  k : ∀ p, p ∈ ps → POk l st t p ∧ (p.s, p.h) ∈ spots
  d : Dis l t ps
  c : ∀ s h : Int, (ps.filter fun p => decide (p.s = s) && decide (p.h = h)).length ≤ 14
  n : ps.length ≤ 14 * spots.length
theorem SI.perm {l : Ls} {st : List (Int × Int × Int)} {t : Int} {spots : List (Int × Int)} {ps qs : List Pc} (h : SI l st t spots ps) (hp : qs.Perm ps) : SI l st t spots qs where
  k := fun p hq => h.k p (hp.mem_iff.mp hq)
  d := (hp.pairwise_iff (fun {a b} z => by rw [ovB_comm]; exact z)).mpr h.d
  c := fun s h' => by rw [(hp.filter _).length_eq]; exact h.c s h'
  n := by rw [hp.length_eq]; exact h.n
theorem SI.add {l : Ls} {st : List (Int × Int × Int)} {t : Int} {spots : List (Int × Int)} {ps qs : List Pc} {s h : Int} {e : Int × Int × Int} (hI : SI l st t spots ps) (hF : FilOk l e t qs) (hs : 0 ≤ s) (he : st[s.toNat]? = some e) (h0 : 0 ≤ h) (h1 : h < e.2.2) (hn : (s, h) ∉ spots) : SI l st t (spots ++ [(s, h)]) (ps ++ qs.map (liftP s h)) where
  k := fun p hp => by
    rcases List.mem_append.mp hp with hp | hp
    · exact ⟨(hI.k p hp).1, List.mem_append_left _ (hI.k p hp).2⟩
    · obtain ⟨q, hq, rfl⟩ := List.mem_map.mp hp
      obtain ⟨k1, k2, k3, k4⟩ := hF.k q hq
      exact ⟨⟨k1, hs, e, he, h0, h1, k4⟩, List.mem_append_right _ (List.mem_singleton.mpr rfl)⟩
  d := by
    refine List.pairwise_append.mpr ⟨hI.d, ?_, fun p hp q hq => ?_⟩
    · rw [List.pairwise_map]
      refine List.Pairwise.imp_of_mem ?_ hF.d
      intro p q hp hq hov
      obtain ⟨_, p1, p2, _⟩ := hF.k p hp
      obtain ⟨_, q1, q2, _⟩ := hF.k q hq
      have : ovB l t (liftP s h p) (liftP s h q) = ovB l t p q := by
        unfold ovB ovS
        rw [p1, p2, q1, q2]
        show (decide (s = s) && decide (h = h) && _) = (decide ((0 : Int) = 0) && decide ((0 : Int) = 0) && _)
        simp only [decide_true]
        rfl
      rw [this]
      exact hov
    · obtain ⟨q0, hq0, rfl⟩ := List.mem_map.mp hq
      have hp2 := (hI.k p hp).2
      unfold ovB
      have : (decide (p.s = (liftP s h q0).s) && decide (p.h = (liftP s h q0).h)) = false := by
        rw [Bool.and_eq_false_iff, decide_eq_false_iff_not, decide_eq_false_iff_not]
        by_cases c1 : p.s = s
        · right
          intro z
          have z' : p.h = h := z
          rw [c1, z'] at hp2
          exact hn hp2
        · left; exact c1
      rw [this, Bool.false_and]
  c := fun s' h' => by
    rw [List.filter_append, List.length_append]
    have b1 := hI.c s' h'
    have b2 : ((qs.map (liftP s h)).filter fun p => decide (p.s = s') && decide (p.h = h')).length ≤ 14 := by
      have := List.length_filter_le (fun p : Pc => decide (p.s = s') && decide (p.h = h')) (qs.map (liftP s h))
      rw [List.length_map] at this
      have := hF.n
      omega
    by_cases cc : s' = s ∧ h' = h
    · have : (ps.filter fun p => decide (p.s = s') && decide (p.h = h')) = [] := by
        rw [List.filter_eq_nil_iff]
        intro p hp z
        simp at z
        have := (hI.k p hp).2
        rw [z.1, z.2, cc.1, cc.2] at this
        exact hn this
      rw [this]
      simpa using b2
    · have : ((qs.map (liftP s h)).filter fun p => decide (p.s = s') && decide (p.h = h')) = [] := by
        rw [List.filter_eq_nil_iff]
        intro p hp z
        obtain ⟨q, _, rfl⟩ := List.mem_map.mp hp
        have z1 := (Bool.and_eq_true _ _).mp z
        exact cc ⟨(of_decide_eq_true z1.1).symm, (of_decide_eq_true z1.2).symm⟩
      rw [this]
      simpa using b1
  n := by
    have a1 := hI.n
    have a2 := hF.n
    rw [List.length_append, List.length_map, List.length_append]
    simp
    omega
theorem SI.done {l : Ls} {st : List (Int × Int × Int)} {t : Int} {spots : List (Int × Int)} {ps : List Pc} (hI : SI l st t spots ps) (hL : LOk l) (ht : TOk t) (hst : StOk st) : ScOk l st t (ps.take 58) where
  lk := hL
  tk := ht
  sk := hst
  pk := fun p hp => (hI.k p (List.mem_of_mem_take hp)).1
  dk := List.Pairwise.sublist (List.take_sublist 58 ps) hI.d
  nk := by rw [List.length_take]; omega
  ck := fun s h => Nat.le_trans ((List.take_sublist 58 ps).filter _).length_le (hI.c s h)
theorem cut_to (ds : List D) (n : Nat) : cut ds none (some (n : Int)) = ds.take n := by
  unfold cut
  rw [HT.sIx_none, HT.sIx_nat, List.drop_zero, Nat.sub_zero]
  by_cases h : n ≤ ds.length
  · rw [Nat.min_eq_left h]
  · rw [Nat.min_eq_right (by omega), List.take_of_length_le (Nat.le_refl _), List.take_of_length_le (by omega)]
theorem cut_from (ds : List D) (n : Nat) : cut ds (some (n : Int)) none = ds.drop n := by
  unfold cut
  rw [HT.sIx_none, HT.sIx_nat]
  by_cases h : n ≤ ds.length
  · rw [Nat.min_eq_left h]
    exact List.take_of_length_le (by rw [List.length_drop]; omega)
  · rw [Nat.min_eq_right (by omega), List.drop_of_length_le (Nat.le_refl _), List.drop_of_length_le (by omega)]
    simp
theorem ins_perm (ds : List Pc) (k : Nat) (p : Pc) : (ds.take k ++ p :: ds.drop k).Perm (p :: ds) := by
  refine List.perm_middle.trans ?_
  rw [List.take_append_drop]
/-- whole units to ticks -/
theorem fil_scale {l : Ls} {e : Int × Int × Int} {t : Int} {ps : List Pc} (ht : TOk t) (hF : FilOk l e 1 ps) : FilOk l e t (ps.map fun p => ⟨p.a, p.b, 0, 0, p.x * t, p.y * t⟩) := by
  have ht1 := ht.1
  have ml : ∀ {x y : Int}, x ≤ y → x * t ≤ y * t := fun h => Int.mul_le_mul_of_nonneg_right h (by omega)
  refine ⟨fun p hp => ?_, ?_, by simpa using hF.n⟩
  · obtain ⟨q, hq, rfl⟩ := List.mem_map.mp hp
    obtain ⟨k1, k2, k3, i1, i2, i3, i4⟩ := hF.k q hq
    refine ⟨k1, rfl, rfl, Int.mul_nonneg i1 (by omega), ?_, Int.mul_nonneg i3 (by omega), ?_⟩
    · show q.x * t + szW l q.a * t ≤ e.1 * t
      rw [← Int.add_mul]
      exact ml (by omega)
    · show q.y * t + szH l q.b * t ≤ e.2.1 * t
      rw [← Int.add_mul]
      exact ml (by omega)
  · unfold Dis
    rw [List.pairwise_map]
    refine List.Pairwise.imp_of_mem ?_ hF.d
    intro p q hp hq hov
    obtain ⟨_, p1, p2, _⟩ := hF.k p hp
    obtain ⟨_, q1, q2, _⟩ := hF.k q hq
    have lt : ∀ {x y : Int}, x * t < y * t → x < y := fun h => Int.lt_of_mul_lt_mul_right h (by omega)
    cases h2 : ovB l t ⟨p.a, p.b, 0, 0, p.x * t, p.y * t⟩ ⟨q.a, q.b, 0, 0, q.x * t, q.y * t⟩ with
    | false => rfl
    | true =>
      unfold ovB ovS at hov h2
      rw [p1, p2, q1, q2] at hov
      simp [loS, hiS, szS] at hov h2
      obtain ⟨⟨z1, z2⟩, z3, z4⟩ := h2
      rw [← Int.add_mul] at z1 z2 z3 z4
      have y1 := lt z1
      have y2 := lt z2
      have y3 := lt z3
      have y4 := lt z4
      have := hov y1 y2 y3
      omega
theorem fil_perm {l : Ls} {e : Int × Int × Int} {t : Int} {ps qs : List Pc} (hF : FilOk l e t ps) (hp : qs.Perm ps) : FilOk l e t qs where
  k := fun p hq => hF.k p (hp.mem_iff.mp hq)
  d := (hp.pairwise_iff (fun {a b} z => by rw [ovB_comm]; exact z)).mpr hF.d
  n := by rw [hp.length_eq]; exact hF.n
theorem fil_sub {l : Ls} {e : Int × Int × Int} {t : Int} {ps qs : List Pc} (hF : FilOk l e t ps) (hp : qs.Sublist ps) : FilOk l e t qs where
  k := fun p hq => hF.k p (hp.subset hq)
  d := List.Pairwise.sublist hp hF.d
  n := Nat.le_trans hp.length_le hF.n
end K28
end
section
set_option linter.all false
namespace K28
open PySem L2 DL
section
variable {l : Ls} {st : List (Int × Int × Int)} {t : Int} {ps : List Pc}
theorem ovB_self {p : Pc} (hL : LOk l) (ht : TOk t) (hk : KOk l p.a p.b) : ovB l t p p = true := by
  have h1 := (szW_pos hL.w hk).1
  have h2 := (szH_pos hL.h hk).1
  have ht1 := ht.1
  have m1 : 0 < szW l p.a * t := Int.mul_pos (by omega) (by omega)
  have m2 : 0 < szH l p.b * t := Int.mul_pos (by omega) (by omega)
  have a1 : loS p 0 < hiS l t p 0 := by
    unfold hiS loS szS
    simp only [if_pos]
    omega
  have a2 : loS p 1 < hiS l t p 1 := by
    unfold hiS loS szS
    simp only [if_neg (show ¬ (1 : Int) = 0 by decide)]
    omega
  unfold ovB ovS
  simp [a1, a2]
theorem bad_twice {p : Pc} (hS : ScOk l st t ps) (hp : p ∈ ps) : BadSp l st t (.tup (ps.map (pcD t) ++ [pcD t p])) := by
  have e : ps.map (pcD t) ++ [pcD t p] = (ps ++ [p]).map (pcD t) := by rw [List.map_append]; rfl
  rw [e]
  refine .lap (fun q hq => ?_) ?_ fun hd => ?_
  · rcases List.mem_append.mp hq with h | h
    · exact hS.pk q h
    · rw [List.mem_singleton.mp h]
      exact hS.pk p hp
  · have := hS.nk
    rw [List.length_append, List.length_singleton]
    omega
  · have h1 := (List.pairwise_append.mp hd).2.2 p hp p (List.mem_singleton.mpr rfl)
    rw [ovB_self hS.lk hS.tk (hS.pk p hp).k] at h1
    cases h1
theorem bad_far (hS : ScOk l st t ps) : BadSp l st t (.tup (ps.map (pcD t) ++ [.tup [.int 0, .int 0, .int st.length, .int 0, .tup [.int 0, .int 1], .tup [.int 0, .int 1]]])) := by
  have hk : KOk l 0 0 := by
    have h1 : ∀ r, r ∈ rowsL → 0 < r.length := by decide
    have a1 := h1 _ hS.lk.w
    have a2 := h1 _ hS.lk.h
    exact ⟨by omega, by omega, by omega, by omega⟩
  refine .ent hS.pk (.inr ⟨⟨0, 0, st.length, 0, 0, 0⟩, ?_, hk, Int.le_refl _, Int.le_refl _, Int.le_refl _, Int.le_refl _⟩)
  unfold pcD
  rw [← qD_zero hS.tk]
theorem bad_short (hS : ScOk l st t ps) {d : D} : BadSp l st t (.tup (ps.map (pcD t) ++ [.tup [d]])) := .ent hS.pk (.inl fun es e => by cases e; show 1 ≠ 6; decide)
theorem bad_list {es rest : List D} : BadSp l st t (.tup (.lst es :: rest)) := BadSp.ent (ps := []) (fun p h => (List.not_mem_nil h).elim) (.inl fun es' e => by cases e)
/-- what stands in the place of an index and is none below m -/
def NoIx (m : Int) (ds : List D) : Prop := ds.length = 6 ∧ ∀ d, d ∈ ds → ¬ ixD d m
theorem noIx_of {m : Int} {b : Bool} (x : Str) : NoIx m [.int m, .int (-1), .non, .bl b, .str x, .tup [.int 0]] := by
  refine ⟨rfl, fun d hd ⟨i, e, h0, h1⟩ => ?_⟩
  subst e
  simp at hd
  omega
theorem ixN_nat {n k : Nat} (h : k < n) : ixN n (k : Int) = some k := by
  unfold ixN
  rw [if_pos (by omega), if_pos (by omega), Int.toNat_natCast]
end
end K28
end
section
set_option linter.all false
set_option maxHeartbeats 1000000
set_option maxRecDepth 10000
namespace K28
open PySem L2 DL
local macro_rules | `(tactic| walk_at "num") => `(tactic| first | assumption | decide | omega | (unfold CM; omega) | (unfold CD; omega) | (simp only [List.length_cons, List.length_nil, List.length_append, List.length_map, List.length_set]; omega) | (simp only [List.length_cons, List.length_nil, List.length_append, List.length_map, List.length_set]; decide))
local macro_rules | `(tactic| walk_at "num") => `(tactic| first | exact CMden (by assumption) | exact CMt (by assumption) | exact CMden2 (by assumption) | exact CMt2 (by assumption) | exact CDden (by assumption))
local macro_rules | `(tactic| walk_at "sd") => `(tactic| first | assumption | exact Or.inl rfl | exact Or.inr rfl)
local macro_rules | `(tactic| walk_at "call") => `(tactic| with_reducible first
  | (apply k_is_below; assumption) | (apply k_ends_of; assumption; assumption; walk_at "sd") | (apply k_greater_of; assumption) | (apply k_have_common; assumption) | apply k_same_sheet | (apply k_do_overlap; assumption; assumption; assumption)
  | apply k_is_integer | apply k_is_number | (apply k_is_quotient; assumption) | (apply k_is_kind; assumption) | apply k_is_tuple_of | (apply k_low; assumption))
local macro_rules | `(tactic| walk_at "es") => `(tactic| repeat with_reducible first
  | (assumption; done) | simp only [↓e_var0, ↓e_box0, ↓e_seq0, ↓e_lst0, ↓e_var1, ↓e_box1, ↓e_seq1, ↓e_lst1, ↓e_var2, ↓e_box2, ↓e_seq2, ↓e_lst2, ↓e_var3, ↓e_box3, ↓e_seq3, ↓e_lst3, ↓e_var4, ↓e_box4, ↓e_seq4, ↓e_lst4, ↓e_var5, ↓e_box5, ↓e_seq5, ↓e_lst5, ↓e_var6, ↓e_box6, ↓e_seq6, ↓e_lst6, ↓e_var7, ↓e_box7, ↓e_seq7, ↓e_lst7, ↓e_var8, ↓e_box8, ↓e_seq8, ↓e_lst8, ↓e_var9, ↓e_box9, ↓e_seq9, ↓e_lst9, ↓e_var10, ↓e_box10, ↓e_seq10, ↓e_lst10, ↓e_var11, ↓e_box11, ↓e_seq11, ↓e_lst11, ↓e_var12, ↓e_box12, ↓e_seq12, ↓e_lst12, ↓e_var13, ↓e_box13, ↓e_seq13, ↓e_lst13, ↓e_var14, ↓e_box14, ↓e_seq14, ↓e_lst14, ↓e_var15, ↓e_box15, ↓e_seq15, ↓e_lst15, ↓e_var16, ↓e_box16, ↓e_seq16, ↓e_lst16, ↓e_var17, ↓e_box17, ↓e_seq17, ↓e_lst17, ↓e_c, ↓e_nil, ↓e_cons, ↓e_val, ↓e_tup, ↓e_lstd, ↓e_frz, ↓e_bin, ↓e_un, ↓e_ul, ↓e_f0, ↓e_fI, ↓e_eqI, ↓e_neI, ↓e_eqB, ↓e_eqS, ↓e_neS, ↓e_eqP, ↓e_catT, ↓e_ix, ↓e_kOb, ↓e_kAt, ↓e_seqT, ↓e_seqL, ↓e_lstL, ↓e_at0, ↓e_at1, ↓e_at2, ↓e_at3, ↓e_at4, ↓e_at5, ↓e_at6, ↓e_at7, ↓e_isN, ↓e_notN, ↓e_neg, ↓e_notV, ↓e_isi, ↓e_len, ↓e_kO, ↓e_int, ↓e_bits, ↓e_tupOf, ↓e_listOf, ↓e_andV, ↓e_orV, ↓e_kB, ↓e_kI, ↓e_kT, ↓e_kL, ↓e_k1, ↓e_k2, ↓e_tst, ↓e_and, ↓e_or, ↓e_not, ↓e_iteT, ↓e_iteF, ↓e_iteTV, ↓e_iteFV, ↓e_yes, ↓e_noPart, ↓e_part, ↓e_slT, ↓e_slL, ↓e_cat, ↓e_c2, ↓e_lcm, ↓e_call, ↓e_srcT, ↓e_srcL, ↓e_rng1, ↓e_rng2, ↓e_enT, ↓e_seq_pcD, ↓e_kT_pcD, ↓e_seq_pcR, ↓e_kT_pcR, ↓e_seq_p4D, ↓e_kT_p4D, ↓e_seq_qD, ↓e_kT_qD, ↓e_seq_seD, ↓e_kT_seD, ↓e_seq_lsD, ↓e_kT_lsD, ↓e_seq_shD, ↓e_kT_shD, ↓e_seq_rowD, ↓e_kT_rowD, ↓e_seq_stD, ↓e_kT_stD, ↓e_seq_spD, ↓e_kT_spD, ↓e_seq_prD, ↓e_kT_prD, ↓e_seq_gapsD, ↓e_kT_gapsD, ↓e_seq_scD, ↓e_lst_scD, ↓e_cut6_2_4, ↓e_cut6_n_4, ↓e_cut6_n_2, ↓e_cut6_2_n, ↓e_cut4_n_2, ↓e_cut4_n_3, ↓e_cut3_n_2, ↓e_cut6_n_3, List.set_cons_zero, List.set_cons_succ, List.cons_append, List.nil_append, Int.reduceAdd, Int.reduceSub, Int.reduceNeg] | refine And.intro (by walk_at "num") ?_ | (apply r_kAt; assumption) | walk_at "call")
local macro_rules | `(tactic| walk_at "ev") => `(tactic| ((with_unfolding_all intro Q q); walk_at "es"))
local macro_rules | `(tactic| walk_at "go") => `(tactic| repeat with_reducible first
  | apply s_seqL | apply s_asg | apply c_valD | apply s_ret | apply s_if | (apply abs; focus (walk_at "ev"; done)) | (apply absT; focus (walk_at "ev"; done)) | apply s_seq | apply s_next | apply s_for | apply s_asgL | (apply absA; focus (walk_at "ev"; done))
  | apply s_brk | apply s_cont | apply s_drop | apply s_asg2 | (apply c_g2; (with_unfolding_all rfl)) | (apply s_app; (with_unfolding_all rfl)) | (apply c_app2; (with_unfolding_all rfl); walk_at "num") | apply s_par | apply c_par2 | apply s_setI | (apply c_own; (with_unfolding_all rfl)) | (apply s_aug; (with_unfolding_all rfl)) | apply c_oi

  | (apply c_var; (with_unfolding_all rfl)) | apply c_c | apply c_valD | apply c_cons | apply c_nil | apply c_bin | apply c_un | (apply c_ix; (with_unfolding_all rfl); (with_unfolding_all rfl)) | (apply c_ix; (with_unfolding_all rfl); assumption)
  | apply s_seqL | apply s_seq | apply s_asg | apply s_ret | apply s_if | apply c_tst | apply c_bl | apply s_next
  | apply c_call | apply c_tup | (apply c_le1000; walk_at "num") | apply c_add | apply c_sub | (apply c_mul; walk_at "num") | apply c_lt | apply c_le | apply c_gt | apply c_ge | apply c_eqI | apply c_neI
  | (apply c_box; (with_unfolding_all rfl)) | (apply c_valO; (with_unfolding_all rfl)) | apply c_frz | apply c_lst | apply c_ul | (apply c_div; walk_at "num") | (apply c_mod; walk_at "num") | (apply c_shl; walk_at "num") | apply c_band | apply c_bor
  | apply c_eqB | apply c_eqS | apply c_neS | (apply c_eqP; (with_unfolding_all rfl); (with_unfolding_all rfl)) | (apply c_catT; (with_unfolding_all rfl); (with_unfolding_all rfl); walk_at "num") | apply c_isN | apply c_notN | apply c_neg | apply c_notV | apply c_isi | (apply c_len; (with_unfolding_all rfl)) | apply c_int | apply c_bits | (apply c_tupOf; (with_unfolding_all rfl)) | (apply c_listOf; (with_unfolding_all rfl))
  | apply c_andV | apply c_orV | apply c_oi | apply c_and | apply c_or | apply c_not | apply c_yes | apply c_noPart | apply c_part | apply c_slT | (apply c_slT2; (with_unfolding_all rfl)) | (apply c_cut; (with_unfolding_all rfl)) | apply c_slL | (apply c_slL2; (with_unfolding_all rfl)) | apply c_cat | (apply c_cat2; (with_unfolding_all rfl); (with_unfolding_all rfl); walk_at "num")
  | apply c_c2 | apply c_c22 | apply c_lcm | (apply c_callF; (with_unfolding_all rfl)) | (apply c_fed; (with_unfolding_all rfl)) | apply c_callX | apply c_srcT | apply c_srcL | (apply c_srcL2; (with_unfolding_all rfl)) | apply c_rng1 | apply c_rng12 | apply c_rng2 | (apply c_rngOk; walk_at "num") | apply c_enT | apply c_lc
  | apply s_asgL | apply s_asg2 | (apply c_g2; (with_unfolding_all rfl)) | apply s_brk | apply s_cont | apply s_drop | apply s_for | apply s_par | apply c_par2 | (apply s_app; (with_unfolding_all rfl)) | (apply c_app2; (with_unfolding_all rfl); walk_at "num") | apply s_setI | (apply c_own; (with_unfolding_all rfl)) | (apply s_aug; (with_unfolding_all rfl))
  | apply c_ifT | apply c_ifF | apply c_gcons | apply c_gname | apply c_gnil | walk_at "call" | simp only [List.set_cons_zero, List.set_cons_succ] | dsimp only)
local macro_rules | `(tactic| walk_at "cnd") => `(tactic| first | (simp [isInt, isBool, isTup, isStr, nnD, R.isN]; done) | (simp [isInt, isBool, isTup, isStr, nnD, R.isN]; omega) | (simp [isInt, isBool, isTup, isStr, nnD, R.isN, *]; done))
local macro_rules | `(tactic| walk_at "if") => `(tactic| (first | rw [if_pos (by walk_at "cnd")] | rw [if_neg (by walk_at "cnd")]))
local macro_rules | `(tactic| walk_at "goi") => `(tactic| (repeat (first | walk_at "if" | (walk_at "go"; walk_at "if"))); walk_at "go")
local macro_rules | `(tactic| walk_at "wp") => `(tactic| simp only [e_wipe0, e_wipe1, List.set_cons_zero, List.set_cons_succ])
theorem h_is_below : ∀ ds Q, C_is_below ds Q → t_is_below (retE Q) (startD N_is_below ds) := by
  rintro ds Q ⟨t, X, Y, ht, rfl, q⟩
  rw [sd_is_below]
  unfold t_is_below
  walk_at "go"
  show Q _
  rw [decide_eq_decide.mpr (qP_lt ht)]
  exact q
theorem h_ends_of : ∀ ds Q, C_ends_of ds Q → t_ends_of (retE Q) (startD N_ends_of ds) := by
  rintro ds Q ⟨t, l, p, side, ht, hk, hs, rfl, q⟩
  have hw := szW_at hk
  have hh := szH_at hk
  rw [sd_ends_of]
  unfold t_ends_of
  rcases hs with rfl | rfl
  · walk_at "go"
    show Q _
    rw [qP_addD ht]
    exact q
  · walk_at "go"
    show Q _
    rw [qP_addD ht]
    exact q
theorem h_greater_of : ∀ ds Q, C_greater_of ds Q → t_greater_of (retE Q) (startD N_greater_of ds) := by
  rintro ds Q ⟨t, X, Y, ht, rfl, q⟩
  rw [sd_greater_of]
  unfold t_greater_of
  walk_at "go"
  by_cases c : X < Y
  · rw [if_pos (by simpa using c)]
    rw [if_pos c] at q
    walk_at "go"
    exact q
  · rw [if_neg (by simpa using c)]
    rw [if_neg c] at q
    walk_at "go"
    exact q
theorem h_have_common : ∀ ds Q, C_have_common ds Q → t_have_common (retE Q) (startD N_have_common ds) := by
  rintro ds Q ⟨t, X1, Y1, X2, Y2, ht, rfl, q⟩
  rw [sd_have_common]
  unfold t_have_common
  walk_at "go"
  by_cases c : X1 < Y2
  · rw [if_pos (by simpa using c)]
    walk_at "go"
    show Q _
    simpa [c] using q
  · rw [if_neg (by simpa using c)]
    walk_at "go"
    show Q _
    simpa [c] using q
theorem h_same_sheet : ∀ ds Q, C_same_sheet ds Q → t_same_sheet (retE Q) (startD N_same_sheet ds) := by
  rintro ds Q ⟨t, p, o, rfl, q⟩
  rw [sd_same_sheet]
  unfold t_same_sheet
  walk_at "go"
  exact q
theorem h_do_overlap : ∀ ds Q, C_do_overlap ds Q → t_do_overlap (retE Q) (startD N_do_overlap ds) := by
  rintro ds Q ⟨t, l, p, o, ht, hp, ho, rfl, q⟩
  rw [sd_do_overlap]
  unfold t_do_overlap
  unfold ovB ovS at q
  walk_at "go"
  by_cases c1 : (decide (p.s = o.s) && decide (p.h = o.h)) = true
  · rw [if_neg (by simp [c1])]
    rw [c1, Bool.true_and] at q
    walk_at "go"
    with_reducible refine l_cons ?_
    show dIf _ _ _ _ _
    walk_at "go"
    by_cases c2 : (decide (loS p 0 < hiS l t o 0) && decide (loS o 0 < hiS l t p 0)) = true
    · rw [if_neg (by simp only [c2]; decide)]
      rw [c2, Bool.true_and] at q
      walk_at "go"
      with_reducible refine l_cons ?_
      show dIf _ _ _ _ _
      walk_at "go"
      by_cases c3 : (decide (loS p 1 < hiS l t o 1) && decide (loS o 1 < hiS l t p 1)) = true
      · rw [if_neg (by simp only [c3]; decide)]
        rw [c3] at q
        walk_at "go"
        with_reducible refine l_nil ?_
        walk_at "go"
        exact q
      · rw [if_pos (by simp only [Bool.not_eq_true] at c3; simp only [c3]; decide)]
        rw [Bool.not_eq_true] at c3
        rw [c3] at q
        walk_at "go"
        exact q
    · rw [if_pos (by simp only [Bool.not_eq_true] at c2; simp only [c2]; decide)]
      rw [Bool.not_eq_true] at c2
      rw [c2, Bool.false_and] at q
      walk_at "go"
      exact q
  · rw [Bool.not_eq_true] at c1
    rw [if_pos (by simp only [c1]; decide)]
    rw [c1, Bool.false_and] at q
    walk_at "go"
    exact q
/-! by_value -/
def scl (t s X : Int) : Int := (qP t X).1 * (s / (qP t X).2)
theorem qP_dvd {t X : Int} : (qP t X).2 ∣ t := ⟨gI X t, qP_mul2.symm⟩
theorem scl_mul {t s X : Int} (ht : TOk t) (h : (qP t X).2 ∣ s) : scl t s X * t = X * s := by
  have m1 := qP_mul1 (t := t) (X := X)
  have m2 := qP_mul2 (t := t) (X := X)
  have d := qP_den (X := X) ht
  obtain ⟨k, hk⟩ := h
  have e : s / (qP t X).2 = k := by rw [hk]; exact Int.mul_ediv_cancel_left _ (by omega)
  unfold scl
  rw [e]
  calc (qP t X).1 * k * t = (qP t X).1 * k * ((qP t X).2 * gI X t) := by rw [m2]
    _ = ((qP t X).1 * gI X t) * ((qP t X).2 * k) := by ac_rfl
    _ = X * s := by rw [m1, ← hk]
theorem scl_le {t s X Y : Int} (ht : TOk t) (hs : 0 < s) (h1 : (qP t X).2 ∣ s) (h2 : (qP t Y).2 ∣ s) (h : scl t s X ≤ scl t s Y) : X ≤ Y := by
  have e1 := scl_mul ht h1
  have e2 := scl_mul ht h2
  have := Int.mul_le_mul_of_nonneg_right h (show 0 ≤ t by have := ht.1; omega)
  rw [e1, e2] at this
  exact Int.le_of_mul_le_mul_right this hs
theorem h_by_value : ∀ ds Q, C_by_value ds Q → t_by_value (retE Q) (startD N_by_value ds) := by
  rintro ds Q ⟨t, Xs, ht, hl, rfl, q⟩
  rw [sd_by_value]
  unfold t_by_value
  walk_at "go"
  refine l_N Xs (qD t) (fun n δ => ∃ (s : Int) (x : Option Cell), (x = none ∨ ∃ d, x = some (.dat d)) ∧ δ = [some (.dat (.lst (Xs.map (qD t)))), some (.dat (.int s)), x, none, none, none, none] ∧ 0 < s ∧ s ∣ t ∧ ∀ i, i < n → ∀ X, Xs[i]? = some X → (qP t X).2 ∣ s) ?_ ?_ ?_
  · exact ⟨1, none, .inl rfl, rfl, by decide, Int.one_dvd _, fun i hi => absurd hi (Nat.not_lt_zero _)⟩
  · rintro n X δ2 N hX ⟨s, x, hx, rfl, s0, st, sd⟩ hN
    have hd := qP_den (X := X) ht
    have sle : s ≤ t := Int.le_of_dvd (by have := ht.1; omega) st
    have ht2 := ht.2
    have b1 : s.natAbs < 2 ^ 64 ∧ (qP t X).2.natAbs < 2 ^ 64 := ⟨by omega, by omega⟩
    walk_at "go"
    refine hN _ ⟨_, _, .inr ⟨_, rfl⟩, rfl, ?_, ?_, ?_⟩
    · have : 0 < Nat.lcm s.natAbs (qP t X).2.natAbs := Nat.lcm_pos (by omega) (by omega)
      omega
    · have : Nat.lcm s.natAbs (qP t X).2.natAbs ∣ t.natAbs := Nat.lcm_dvd (Int.natAbs_dvd_natAbs.mpr st) (Int.natAbs_dvd_natAbs.mpr qP_dvd)
      exact Int.natAbs_dvd_natAbs.mp (by simpa using this)
    · intro i hi Y hY
      by_cases e : i = n
      · subst e
        rw [hX] at hY
        cases hY
        have := Nat.dvd_lcm_right s.natAbs (qP t X).2.natAbs
        exact Int.natAbs_dvd_natAbs.mp (by simpa using this)
      · have h1 := sd i (by omega) Y hY
        have := Nat.dvd_lcm_left s.natAbs (qP t X).2.natAbs
        exact Int.dvd_trans h1 (Int.natAbs_dvd_natAbs.mp (by simpa using this))
  · rintro δ2 ⟨s, x, hx, rfl, s0, st, sd⟩
    have sle : s ≤ t := Int.le_of_dvd (by have := ht.1; omega) st
    have ht2 := ht.2
    have sd2 : ∀ X, X ∈ Xs → (qP t X).2 ∣ s := fun X hX => by
      obtain ⟨i, h1, h2⟩ := List.getElem_of_mem hX
      exact sd i h1 X (by rw [List.getElem?_eq_getElem h1, h2])
    walk_at "go"
    refine c_map Xs (qD t) (fun X => .int (scl t s X)) (by rcases hx with rfl | ⟨d, rfl⟩ <;> rfl) (by omega) ?_ ?_
    · intro X hX
      have hd := qP_den (X := X) ht
      have hcm : CM (qP t X).1 (s / (qP t X).2) := .inr (by
        have h1 : s / (qP t X).2 ≤ s := Int.ediv_le_self _ (by omega)
        have h2 : 0 ≤ s / (qP t X).2 := Int.ediv_nonneg (by omega) (by omega)
        omega)
      walk_at "wp"
      walk_at "ev"
      assumption
    · have hcat : ∀ k, k < Xs.length → Xs[k]? = some (Xs.getD k 0) := fun k hk => by simp [List.getD, List.getElem?_eq_getElem hk]
      walk_at "go"
      refine c_mapR (fun k => prD (scl t s (Xs.getD k 0), (k : Int))) (by rfl) (by simp; omega) ?_ ?_
      · intro k hk
        have hk' : k < Xs.length := by simpa using hk
        have hat : atI (Xs.map fun X => D.int (scl t s X)) (k : Int) = some (.int (scl t s (Xs.getD k 0))) := map_at (f := fun X => D.int (scl t s X)) (hcat k hk')
        walk_at "wp"
        rw [Int.zero_add]
        walk_at "ev"
        assumption
      · have e1 : ((List.map (fun X => D.int (scl t s X)) Xs).length : Int).toNat = Xs.length := by simp
        rw [e1]
        walk_at "go"
        refine c_sortP ((List.range Xs.length).map fun k => (scl t s (Xs.getD k 0), (k : Int))) (by rw [List.map_map]; rfl) ?_
        intro qs hp hs
        walk_at "go"
        refine c_mapP qs (fun p => .int p.1) (fun p => .int p.2) (fun p => .int p.2) (by rfl) ?_ ?_ ?_
        · have := hp.length_eq
          simp at this
          omega
        · intro x hx
          walk_at "wp"
          walk_at "ev"
        · walk_at "go"
          show Q _
          have hmem : ∀ p, p ∈ qs → ∃ k, k < Xs.length ∧ p = (scl t s (Xs.getD k 0), (k : Int)) := fun p h => by
            have := hp.mem_iff.mp h
            obtain ⟨k, h1, h2⟩ := List.mem_map.mp this
            exact ⟨k, List.mem_range.mp h1, h2.symm⟩
          have e2 : (qs.map fun p => D.int p.2) = (qs.map fun p => p.2.toNat).map natD := by
            rw [List.map_map]
            refine List.map_congr_left fun p h => ?_
            obtain ⟨k, _, rfl⟩ := hmem p h
            simp [natD]
          rw [e2]
          refine q _ ?_ ?_
          · have := hp.map fun p => p.2.toNat
            rw [List.map_map] at this
            have e3 : (List.range Xs.length).map ((fun p : Int × Int => p.2.toNat) ∘ fun k => (scl t s (Xs.getD k 0), (k : Int))) = List.range Xs.length := by
              have : ((fun p : Int × Int => p.2.toNat) ∘ fun k : Nat => (scl t s (Xs.getD k 0), (k : Int))) = id := by funext k; simp
              rw [this, List.map_id]
            rw [e3] at this
            exact this
          · rw [List.pairwise_map]
            refine List.Pairwise.imp_of_mem ?_ hs
            intro a b ha hb hab
            obtain ⟨i, hi, rfl⟩ := hmem a ha
            obtain ⟨j, hj, rfl⟩ := hmem b hb
            have h1 := sd2 _ (List.mem_of_getElem? (hcat i hi))
            have h2 := sd2 _ (List.mem_of_getElem? (hcat j hj))
            show Xs.getD (i : Int).toNat 0 ≤ Xs.getD (j : Int).toNat 0
            rw [Int.toNat_natCast, Int.toNat_natCast]
            rcases hab with h | ⟨h, _⟩
            · exact scl_le ht s0 h1 h2 (Int.le_of_lt h)
            · exact scl_le ht s0 h1 h2 (Int.le_of_eq h)
theorem h_in_sheet : ∀ ds Q, C_in_sheet ds Q → t_in_sheet (retE Q) (startD N_in_sheet ds) := by
  rintro ds Q ⟨t, ps, s, h, hl, rfl, q⟩
  rw [sd_in_sheet]
  unfold t_in_sheet
  walk_at "go"
  refine c_filR natD (atSh ps s h) (by rfl) (by simp; omega) ?_ ?_
  · intro k hk
    have hk' : k < ps.length := by simpa using hk
    have hp : ps[k]? = some ps[k] := List.getElem?_eq_getElem hk'
    have hat : atI (ps.map (pcD t)) (k : Int) = some (pcD t ps[k]) := map_at hp
    walk_at "wp"
    rw [Int.zero_add]
    rw [show atSh ps s h k = onSh s h ps[k] by unfold atSh; rw [hp]]
    constructor
    · walk_at "ev"
      assumption
    · intro _
      walk_at "ev"
      assumption
  · have e1 : (((ps.map (pcD t)).length : Nat) : Int).toNat = ps.length := by simp
    rw [e1]
    walk_at "go"
    exact q
theorem h_is_integer : ∀ ds Q, C_is_integer ds Q → t_is_integer (retE Q) (startD N_is_integer ds) := by
  rintro ds Q ⟨d, rfl, q⟩
  rw [sd_is_integer]
  unfold t_is_integer
  walk_at "go"
  exact q
theorem h_is_number : ∀ ds Q, C_is_number ds Q → t_is_number (retE Q) (startD N_is_number ds) := by
  rintro ds Q ⟨d, rfl, q⟩
  rw [sd_is_number]
  unfold t_is_number
  cases d with
  | int i =>
    walk_at "go"
    first | rw [if_pos rfl] | skip
    walk_at "go"
    exact q
  | non => walk_at "go"; rw [if_neg (by decide)]; walk_at "go"; exact q
  | bl b => walk_at "go"; rw [if_neg (by simp [isBool])]; walk_at "go"; exact q
  | str b => walk_at "go"; rw [if_neg (by intro h; cases h)]; walk_at "go"; exact q
  | tup b => walk_at "go"; rw [if_neg (by intro h; cases h)]; walk_at "go"; exact q
  | lst b => walk_at "go"; rw [if_neg (by intro h; cases h)]; walk_at "go"; exact q
theorem h_is_tuple_of : ∀ ds Q, C_is_tuple_of ds Q → t_is_tuple_of (retE Q) (startD N_is_tuple_of ds) := by
  rintro ds Q ⟨es, n, rfl, q⟩
  rw [sd_is_tuple_of]
  unfold t_is_tuple_of
  walk_at "go"
  first | rw [if_pos rfl] | skip
  walk_at "go"
  exact q
theorem h_is_quotient : ∀ ds Q, C_is_quotient ds Q → t_is_quotient (retE Q) (startD N_is_quotient ds) := by
  rintro ds Q ⟨t, X, ht, rfl, q⟩
  have hd := qP_den (X := X) ht
  have hc := qP_cop (X := X) ht
  rw [sd_is_quotient]
  unfold t_is_quotient
  walk_at "go"
  refine k_is_tuple_of (es := [.int (qP t X).1, .int (qP t X).2]) ?_
  have hg : decide (gGcd (qP t X).1 (qP t X).2 = 1) = true := by
    unfold gGcd
    rw [hc]
    rfl
  walk_at "goi"
  show Q _
  rw [hg, decide_eq_true hd.1]
  exact q
theorem h_is_kind : ∀ ds Q, C_is_kind ds Q → t_is_kind (retE Q) (startD N_is_kind ds) := by
  rintro ds Q ⟨l, a, b, ⟨k1, k2, k3, k4⟩, rfl, q⟩
  rw [sd_is_kind]
  unfold t_is_kind
  walk_at "goi"
  show Q _
  rw [List.length_map, List.length_map, decide_eq_true k2, decide_eq_true k4]
  exact q
theorem c_g6 {δ : En} {Q : En → Prop} {t : Int} {p : Pc} (q : Q ((((((δ.set 2 (some (.dat (.int p.a)))).set 3 (some (.dat (.int p.b)))).set 4 (some (.dat (.int p.s)))).set 5 (some (.dat (.int p.h)))).set 6 (some (.dat (qD t p.x)))).set 7 (some (.dat (qD t p.y))))) :
    dgTup 6 (dgCons (dgName 2) (dgCons (dgName 3) (dgCons (dgName 4) (dgCons (dgName 5) (dgCons (dgName 6) (dgCons (dgName 7) dgNil)))))) (pcD t p) δ Q := ⟨rfl, q⟩
theorem h_is_piece : ∀ ds Q, C_is_piece ds Q → t_is_piece (retE Q) (startD N_is_piece ds) := by
  rintro ds Q ⟨l, d, rfl, ⟨hn, q⟩ | ⟨t, p, ht, rfl, hk, h1, h2, h3, h4, q⟩⟩
  · rw [sd_is_piece]
    unfold t_is_piece
    cases d with
    | tup es =>
      have hn2 := hn es rfl
      have hn3 : ¬ ((es.length : Int) = 6) := by omega
      walk_at "goi"
      exact q
    | non => walk_at "goi"; exact q
    | bl b => walk_at "goi"; exact q
    | int i => walk_at "goi"; exact q
    | str x => walk_at "goi"; exact q
    | lst es => walk_at "goi"; exact q
  · have hx := qP_nn (X := p.x) ht h3
    have hy := qP_nn (X := p.y) ht h4
    rw [sd_is_piece]
    unfold t_is_piece
    have hl : isTup (pcD t p) = true := rfl
    walk_at "go"
    rw [if_neg (by rw [hl]; simp)]
    walk_at "go"
    refine s_asgG ?_
    walk_at "go"
    refine c_g6 ?_
    simp only [List.set_cons_zero, List.set_cons_succ]
    walk_at "go"
    rw [if_neg (by decide)]
    walk_at "go"
    rw [if_neg (by simp [nnD, h1])]
    walk_at "go"
    rw [if_neg (by simp [nnD, h2])]
    walk_at "go"
    rw [if_neg (by decide)]
    walk_at "go"
    rw [if_neg (by decide)]
    walk_at "go"
    show Q _
    rw [decide_eq_true hx, decide_eq_true hy]
    exact q
theorem h_is_inside : ∀ ds Q, C_is_inside ds Q → t_is_inside (retE Q) (startD N_is_inside ds) := by
  rintro ds Q ⟨l, st, t, p, ht, rfl, ⟨⟨hk, hs, e, he, h0, h1, i1, i2, i3, i4⟩, q⟩ | ⟨hs, q⟩⟩
  · rw [sd_is_inside]
    unfold t_is_inside
    have hat := st_at hs he
    have hlt : p.s.toNat < st.length := lt_get he
    have hs2 : ¬ ((st.length : Int) ≤ p.s) := by omega
    walk_at "goi"
    with_reducible refine l_cons ?_
    walk_at "go"
    rw [if_neg (qP_le_whole (X := hiS l t p 0) ht i2)]
    walk_at "go"
    with_reducible refine l_cons ?_
    walk_at "go"
    rw [if_neg (qP_le_whole (X := hiS l t p 1) ht i4)]
    walk_at "go"
    with_reducible refine l_nil ?_
    walk_at "go"
    exact q
  · rw [sd_is_inside]
    unfold t_is_inside
    walk_at "goi"
    exact q
theorem ovB_symm {l : Ls} {t : Int} {p o : Pc} : ovB l t p o = ovB l t o p := by
  unfold ovB ovS
  have e1 : decide (p.s = o.s) = decide (o.s = p.s) := decide_eq_decide.mpr ⟨Eq.symm, Eq.symm⟩
  have e2 : decide (p.h = o.h) = decide (o.h = p.h) := decide_eq_decide.mpr ⟨Eq.symm, Eq.symm⟩
  rw [e1, e2]
  congr 1
  congr 1 <;> exact Bool.and_comm _ _
theorem dis_iff {l : Ls} {t : Int} {ps : List Pc} : Dis l t ps ↔ ∀ (i k : Nat) p o, k < i → ps[i]? = some p → ps[k]? = some o → ovB l t p o = false := by
  unfold Dis
  rw [List.pairwise_iff_getElem]
  constructor
  · intro h i k p o hk hi ho
    obtain ⟨h1, rfl⟩ := List.getElem?_eq_some_iff.mp hi
    obtain ⟨h2, rfl⟩ := List.getElem?_eq_some_iff.mp ho
    rw [ovB_symm]
    exact h k i h2 h1 hk
  · intro h i j hi hj hij
    rw [ovB_symm]
    exact h j i _ _ hij (List.getElem?_eq_getElem hj) (List.getElem?_eq_getElem hi)
theorem h_first_pair : ∀ ds Q, C_first_pair ds Q → t_first_pair (retE Q) (startD N_first_pair ds) := by
  rintro ds Q ⟨l, t, ps, ht, hl, hk, rfl, q1, q2⟩
  rw [sd_first_pair]
  unfold t_first_pair
  walk_at "go"
  have e1 : (((ps.map (pcD t)).length : Nat) : Int).toNat = ps.length := by simp
  rw [e1]
  refine l_R (fun n δ => (∃ x y, δ = [some (.dat (lsD l)), some (.dat (spD t ps)), x, y]) ∧ ∀ (i k : Nat) p o, i < n → k < i → ps[i]? = some p → ps[k]? = some o → ovB l t p o = false) ?_ ?_ ?_
  · exact ⟨⟨_, _, rfl⟩, fun i k p o hi => absurd hi (Nat.not_lt_zero _)⟩
  · rintro n δ2 N hn ⟨⟨x, y, rfl⟩, hI⟩ hN
    rw [Int.zero_add]
    walk_at "go"
    have e2 : ((n : Int)).toNat = n := Int.toNat_natCast n
    rw [e2]
    refine l_R (fun m δ => (∃ y, δ = [some (.dat (lsD l)), some (.dat (spD t ps)), some (.dat (.int (n : Int))), y]) ∧ ∀ (k : Nat) p o, k < m → ps[n]? = some p → ps[k]? = some o → ovB l t p o = false) ?_ ?_ ?_
    · exact ⟨⟨_, rfl⟩, fun k p o hi => absurd hi (Nat.not_lt_zero _)⟩
    · rintro m δ3 N2 hm ⟨⟨y, rfl⟩, hJ⟩ hN2
      rw [Int.zero_add]
      have hpn : ps[n]? = some ps[n] := List.getElem?_eq_getElem hn
      have hmn : m < ps.length := by omega
      have hpm : ps[m]? = some ps[m] := List.getElem?_eq_getElem hmn
      have hat1 : atI (ps.map (pcD t)) (n : Int) = some (pcD t ps[n]) := map_at hpn
      have hat2 : atI (ps.map (pcD t)) (m : Int) = some (pcD t ps[m]) := map_at hpm
      have hk1 := hk _ (List.getElem_mem hn)
      have hk2 := hk _ (List.getElem_mem hmn)
      walk_at "go"
      cases hov : ovB l t ps[n] ps[m] with
      | true =>
        rw [if_pos rfl]
        walk_at "go"
        refine q2 (fun hd => ?_) _ _
        have := dis_iff.mp hd n m _ _ hm hpn hpm
        rw [hov] at this
        cases this
      | false =>
        rw [if_neg (by decide)]
        walk_at "go"
        refine hN2 _ ⟨⟨_, rfl⟩, fun k p o hk hp ho => ?_⟩
        by_cases e : k = m
        · subst e
          rw [hpn] at hp
          rw [hpm] at ho
          cases hp
          cases ho
          exact hov
        · exact hJ k p o (by omega) hp ho
    · rintro δ3 ⟨⟨y, rfl⟩, hJ⟩
      refine hN _ ⟨⟨_, _, rfl⟩, fun i k p o hi hk hp ho => ?_⟩
      by_cases e : i = n
      · subst e
        exact hJ k p o hk hp ho
      · exact hI i k p o (by omega) hk hp ho
  · rintro δ2 ⟨⟨x, y, rfl⟩, hI⟩
    walk_at "go"
    refine q1 (dis_iff.mpr fun i k p o hk hp ho => hI i k p o (lt_get hp) hk hp ho)
theorem POk.nn {l : Ls} {st : List (Int × Int × Int)} {t : Int} {p : Pc} (h : POk l st t p) : 0 ≤ p.h ∧ 0 ≤ p.x ∧ 0 ≤ p.y := by
  obtain ⟨_, _, e, _, h0, _, h2, _, h3, _⟩ := h
  exact ⟨h0, h2, h3⟩
theorem k_piece {l : Ls} {t : Int} {p : Pc} {Q : D → Prop} (ht : TOk t) (hk : KOk l p.a p.b) (h1 : 0 ≤ p.s) (h2 : 0 ≤ p.h) (h3 : 0 ≤ p.x) (h4 : 0 ≤ p.y) (q : Q (.bl true)) : C_is_piece [lsD l, pcD t p] Q := ⟨l, _, rfl, .inr ⟨t, p, ht, rfl, hk, h1, h2, h3, h4, q⟩⟩
theorem k_pieceN {l : Ls} {d : D} {Q : D → Prop} (h : ∀ es, d = .tup es → es.length ≠ 6) (q : Q (.bl false)) : C_is_piece [lsD l, d] Q := ⟨l, _, rfl, .inl ⟨h, q⟩⟩
theorem k_ins {l : Ls} {st : List (Int × Int × Int)} {t : Int} {p : Pc} {Q : D → Prop} (ht : TOk t) (h : POk l st t p) (q : Q (.bl true)) : C_is_inside [lsD l, stD st, pcD t p] Q := ⟨l, st, t, p, ht, rfl, .inl ⟨h, q⟩⟩
theorem k_insN {l : Ls} {st : List (Int × Int × Int)} {t : Int} {p : Pc} {Q : D → Prop} (ht : TOk t) (h : (st.length : Int) ≤ p.s) (q : Q (.bl false)) : C_is_inside [lsD l, stD st, pcD t p] Q := ⟨l, st, t, p, ht, rfl, .inr ⟨h, q⟩⟩
theorem h_first_fault : ∀ ds Q, C_first_fault ds Q → t_first_fault (retE Q) (startD N_first_fault ds) := by
  rintro ds Q ⟨l, st, t, d, ht, rfl, hh⟩
  rw [sd_first_fault]
  unfold t_first_fault
  have step : ∀ (es : List D) (ps : List Pc), (∀ p, p ∈ ps → POk l st t p) → (∀ (n : Nat) (p : Pc), ps[n]? = some p → es[n]? = some (pcD t p)) → ∀ (P : DEnds) (N : En → Prop) (x y : Option Cell) (n : Nat) (d' : D), n < ps.length → (enD 0 es)[n]? = some d' →
      (∀ x y, N [some (.dat (lsD l)), some (.dat (stD st)), some (.dat d), x, y, none]) →
      dgTup 2 (dgCons (dgName 3) (dgCons (dgName 4) dgNil)) d' [some (.dat (lsD l)), some (.dat (stD st)), some (.dat d), x, y, none] fun δ3 =>
        (dSeq (dIf (dNot (dTst (dCall C_is_piece (dCons (dVar 0) (dCons (dVar 4) dNil)))))
   (dRet (dTup (dCons (dC (.str "piece")) (dCons (dVar 3) dNil))))
   dNext)
  (dIf (dNot (dTst (dCall C_is_inside (dCons (dVar 0) (dCons (dVar 1) (dCons (dVar 4) dNil))))))
   (dRet (dTup (dCons (dC (.str "inside")) (dCons (dVar 3) dNil))))
   dNext)) { nx := N, rt := P.rt, bk := P.nx, ct := N } δ3 := by
    intro es ps hp he P N x y n d' hn hd' hN
    have hpn : ps[n]? = some ps[n] := List.getElem?_eq_getElem hn
    rw [enD_get, he n _ hpn] at hd'
    cases hd'
    have hP := hp _ (List.getElem_mem hn)
    obtain ⟨n1, n2, n3⟩ := hP.nn
    refine c_g2 rfl ?_
    walk_at "go"
    refine k_piece ht hP.k hP.s0 n1 n2 n3 ?_
    walk_at "go"
    rw [if_neg (by decide)]
    walk_at "go"
    refine k_ins ht hP ?_
    walk_at "go"
    rw [if_neg (by decide)]
    walk_at "go"
    exact hN _ _
  rcases hh with ⟨ps, rfl, hS, q⟩ | ⟨hB, q⟩
  · walk_at "go"
    rw [if_neg (by simp [isTup, spD])]
    walk_at "go"
    refine l_L (fun n δ => ∃ x y, δ = [some (.dat (lsD l)), some (.dat (stD st)), some (.dat (spD t ps)), x, y, none]) ⟨_, _, rfl⟩ ?_ ?_
    · rintro n d' δ2 N hd' ⟨x, y, rfl⟩ hN
      have hn : n < ps.length := by
        have := lt_get hd'
        simpa [enD_len] using this
      exact step _ ps hS.pk (fun n p h => by rw [List.getElem?_map, h]; rfl) _ N x y n d' hn hd' fun x y => hN _ ⟨x, y, rfl⟩
    · rintro δ2 ⟨x, y, rfl⟩
      walk_at "go"
      have hn := hS.nk
      refine ⟨l, t, ps, ht, by omega, fun p h => (hS.pk p h).k, rfl, fun _ => ?_, fun h => absurd hS.dk h⟩
      walk_at "goi"
      exact q
  · cases hB with
    | notT h =>
      walk_at "go"
      rw [if_pos (by rw [h]; rfl)]
      walk_at "go"
      exact q _ rfl
    | lap hp hl hn =>
      rename_i ps
      walk_at "go"
      rw [if_neg (by simp [isTup])]
      walk_at "go"
      refine l_L (fun n δ => ∃ x y, δ = [some (.dat (lsD l)), some (.dat (stD st)), some (.dat (.tup (ps.map (pcD t)))), x, y, none]) ⟨_, _, rfl⟩ ?_ ?_
      · rintro n d' δ2 N hd' ⟨x, y, rfl⟩ hN
        have hn : n < ps.length := by
          have := lt_get hd'
          simpa [enD_len] using this
        exact step _ ps hp (fun n p h => by rw [List.getElem?_map, h]; rfl) _ N x y n d' hn hd' fun x y => hN _ ⟨x, y, rfl⟩
      · rintro δ2 ⟨x, y, rfl⟩
        walk_at "go"
        refine ⟨l, t, ps, ht, hl, fun p h => (hp p h).k, rfl, fun h => absurd h hn, fun _ i k => ?_⟩
        walk_at "goi"
        exact q _ rfl
    | ent hp he =>
      rename_i ps e rest
      walk_at "go"
      rw [if_neg (by simp [isTup])]
      walk_at "go"
      refine l_L (fun n δ => n ≤ ps.length ∧ ∃ x y, δ = [some (.dat (lsD l)), some (.dat (stD st)), some (.dat (.tup (ps.map (pcD t) ++ e :: rest))), x, y, none]) ⟨Nat.zero_le _, _, _, rfl⟩ ?_ ?_
      · rintro n d' δ2 N hd' ⟨hle, x, y, rfl⟩ hN
        by_cases c : n < ps.length
        · exact step _ ps hp (fun n p h => by rw [List.getElem?_append_left (by simpa using lt_get h), List.getElem?_map, h]; rfl) _ N x y n d' c hd' fun x y => hN _ ⟨c, x, y, rfl⟩
        · have en : n = ps.length := by omega
          subst en
          rw [enD_get, List.getElem?_append_right (by simp)] at hd'
          simp only [List.length_map, Nat.sub_self, List.getElem?_cons_zero, Option.map_some] at hd'
          cases hd'
          refine c_g2 rfl ?_
          rcases he with he | ⟨p, rfl, k, s1, s2, s3, s4⟩
          · walk_at "go"
            refine k_pieceN he ?_
            walk_at "go"
            rw [if_pos (by decide)]
            walk_at "go"
            exact q _ rfl
          · walk_at "go"
            refine k_piece ht k (by omega) s2 s3 s4 ?_
            walk_at "go"
            rw [if_neg (by decide)]
            walk_at "go"
            refine k_insN ht s1 ?_
            walk_at "go"
            rw [if_pos (by decide)]
            walk_at "go"
            exact q _ rfl
      · rintro δ2 ⟨hle, _⟩
        rw [enD_len, List.length_append] at hle
        simp at hle
        omega
theorem s_raise {xc : V → V → Prop} {P : DEnds} {δ : En} {ta : DTA} {w : Str} {i : Int} {δ1 : En} (h : EvA ta δ [.str w, .int i] δ1) (q : xc (.str w) (.int i)) : dRaise xc ta P δ := h _ q
theorem h_need_spread : ∀ ds Q xc, C_need_spread ds Q xc → t_need_spread xc (retE Q) (startD N_need_spread ds) := by
  rintro ds Q xc ⟨l, st, t, d, ht, rfl, hh⟩
  rw [sd_need_spread]
  unfold t_need_spread
  walk_at "go"
  rcases hh with ⟨ps, rfl, hS, q⟩ | ⟨hB, q⟩
  · refine ⟨l, st, t, _, ht, rfl, .inl ⟨ps, rfl, hS, ?_⟩⟩
    walk_at "goi"
    exact q
  · refine ⟨l, st, t, _, ht, rfl, .inr ⟨hB, fun r hr => ?_⟩⟩
    walk_at "go"
    rw [if_pos (by rw [hr]; rfl)]
    refine s_raise (by walk_at "ev") q
theorem h_need_index : ∀ ds Q xc, C_need_index ds Q xc → t_need_index xc (retE Q) (startD N_need_index ds) := by
  rintro ds Q xc ⟨d, many, name, rfl, hh⟩
  rw [sd_need_index]
  unfold t_need_index
  rcases hh with ⟨⟨i, rfl, h0, h1⟩, q⟩ | ⟨hn, q⟩
  · have hn : nnD (.int i) = true := by simp [nnD, h0]
    walk_at "go"
    rw [if_neg (by simp [hn]; omega)]
    walk_at "go"
    exact q
  · have fin : dRaise xc (dCons (dVar 2) (dCons (dUn fNeg (dC (.int 1))) dNil)) (retE Q) [some (.dat d), some (.dat (.int many)), some (.dat (.str name))] := s_raise (by walk_at "ev") q
    walk_at "go"
    by_cases c : nnD d = true
    · rw [if_neg (by simp [c])]
      cases d with
      | int i =>
        have h0 : 0 ≤ i := by simpa [nnD] using c
        walk_at "go"
        rw [if_pos (by
          rw [decide_eq_true_iff]
          by_cases c2 : many ≤ i
          · exact c2
          · exact absurd ⟨i, rfl, h0, by omega⟩ hn)]
        exact fin
      | non => cases c
      | bl b => cases c
      | str b => cases c
      | tup b => cases c
      | lst b => cases c
    · rw [if_pos (by simp [c])]
      walk_at "go"
      exact fin
theorem h_need_sheet : ∀ ds Q xc, C_need_sheet ds Q xc → t_need_sheet xc (retE Q) (startD N_need_sheet ds) := by
  rintro ds Q xc ⟨st, d1, d2, rfl, hh⟩
  rw [sd_need_sheet]
  unfold t_need_sheet
  walk_at "go"
  rcases hh with ⟨hn, q⟩ | ⟨s, e, rfl, h0, he, hh⟩
  · exact ⟨_, _, _, rfl, .inr ⟨by rw [List.length_map]; exact hn, q⟩⟩
  · refine ⟨_, _, _, rfl, .inl ⟨⟨s, rfl, h0, by rw [List.length_map]; have := lt_get he; omega⟩, ?_⟩⟩
    have hat := st_at h0 he
    walk_at "go"
    rcases hh with ⟨hn, q⟩ | ⟨hi, q⟩
    · exact ⟨_, _, _, rfl, .inr ⟨hn, q⟩⟩
    · refine ⟨_, _, _, rfl, .inl ⟨hi, ?_⟩⟩
      walk_at "go"
      exact q
theorem h_unused : ∀ ds Q, C_unused ds Q → t_unused (retE Q) (startD N_unused ds) := by
  rintro ds Q ⟨ns, hp, h0, rfl, q⟩
  rw [sd_unused]
  unfold t_unused
  walk_at "go"
  have hget := List.pairwise_iff_getElem.mp hp
  refine l_N ns D.int (fun n δ => ∃ (m : Int) (x : Option Cell), δ = [some (.dat (.lst (ns.map D.int))), some (.dat (.int m)), x] ∧ 0 ≤ m ∧ m ≤ n ∧ (∀ i (h : i < ns.length), i < n → ns[i] ≠ m) ∧ ∀ k : Int, 0 ≤ k → k < m → ∃ i, ∃ (h : i < ns.length), i < n ∧ ns[i] = k) ?_ ?_ ?_
  · exact ⟨0, none, rfl, by omega, by omega, fun i h hi => absurd hi (Nat.not_lt_zero _), fun k h1 h2 => by omega⟩
  · rintro n x δ2 N hx ⟨m, y, rfl, m0, mn, ha, hb⟩ hN
    obtain ⟨hn, rfl⟩ := List.getElem?_eq_some_iff.mp hx
    walk_at "go"
    by_cases c : ns[n] = m
    · rw [if_pos (by simpa using c)]
      walk_at "go"
      refine hN _ ⟨_, _, rfl, by omega, by omega, fun i h hi e => ?_, fun k h1 h2 => ?_⟩
      · by_cases e2 : i = n
        · subst e2; omega
        · have := hget i n h hn (by omega)
          omega
      · by_cases e : k = m
        · subst e
          exact ⟨n, hn, by omega, c⟩
        · obtain ⟨i, h, hi, e2⟩ := hb k h1 (by omega)
          exact ⟨i, h, by omega, e2⟩
    · rw [if_neg (by simpa using c)]
      walk_at "go"
      refine hN _ ⟨_, _, rfl, by omega, by omega, fun i h hi => ?_, fun k h1 h2 => ?_⟩
      · by_cases e2 : i = n
        · subst e2; exact c
        · exact ha i h (by omega)
      · obtain ⟨i, h, hi, e2⟩ := hb k h1 h2
        exact ⟨i, h, by omega, e2⟩
  · rintro δ2 ⟨m, y, rfl, m0, mn, ha, hb⟩
    walk_at "go"
    refine q m m0 mn fun hm => ?_
    obtain ⟨i, h, e⟩ := List.getElem_of_mem hm
    exact ha i h h e
theorem h_lowest : ∀ ds Q, C_lowest ds Q → t_lowest (retE Q) (startD N_lowest ds) := by
  rintro ds Q ⟨l, t, ps, XL, XR, H, ht, hl, hk, rfl, q⟩
  rw [sd_lowest]
  unfold t_lowest
  walk_at "go"
  rw [qD_zero ht]
  refine l_N ps (pcD t) (fun n δ => ∃ (low : Int) (x y z : Option Cell), δ = [some (.dat (lsD l)), some (.dat (.lst (ps.map (pcD t)))), some (.dat (seD t XL XR)), some (.dat (.int H)), some (.dat (qD t low)), x, y, z] ∧ lowF l t XL XR H (ps.drop n) low = lowF l t XL XR H ps 0) ?_ ?_ ?_
  · exact ⟨0, _, _, _, rfl, rfl⟩
  · rintro n p δ2 N hx ⟨low, x, y, z, rfl, hI⟩ hN
    obtain ⟨hn, rfl⟩ := List.getElem?_eq_some_iff.mp hx
    have hkp := hk _ (List.getElem_mem hn)
    rw [List.drop_eq_getElem_cons hn, lowF] at hI
    walk_at "go"
    by_cases c : XL < hiS l t ps[n] 0 ∧ loS ps[n] 0 < XR
    · rw [if_pos (by simpa using c)]
      rw [if_pos c] at hI
      walk_at "go"
      rw [qP_addD ht]
      walk_at "go"
      by_cases c2 : loS ps[n] 1 < low + H * t
      · rw [if_neg (by simpa using c2)]
        rw [if_pos c2] at hI
        walk_at "go"
        exact hN _ ⟨_, _, _, _, rfl, hI⟩
      · rw [if_pos (by simpa using c2)]
        rw [if_neg c2] at hI
        walk_at "go"
        rw [← hI] at q
        exact q
    · rw [if_neg (by simpa using c)]
      rw [if_neg c] at hI
      walk_at "go"
      exact hN _ ⟨_, _, _, _, rfl, hI⟩
  · rintro δ2 ⟨low, x, y, z, rfl, hI⟩
    walk_at "go"
    rw [List.drop_length] at hI
    have hI2 : low = lowF l t XL XR H ps 0 := hI
    rw [← hI2] at q
    exact q
theorem h_place_in : ∀ ds Q, C_place_in ds Q → t_place_in (retE Q) (startD N_place_in ds) := by
  rintro ds Q ⟨l, t, W, H, a, b, ps, ht, hL, hk, hl, hp, rfl, q1, q2⟩
  rw [sd_place_in]
  unfold t_place_in
  have hw := szW_at hk
  have hh := szH_at hk
  walk_at "go"
  refine c_map ps (pcD t) (fun p => qD t p.y) (by rfl) (by omega) ?_ ?_
  · intro p hp
    walk_at "wp"
    walk_at "ev"
  have e1 : ps.map (fun p => qD t p.y) = (ps.map fun p => p.y).map (qD t) := by rw [List.map_map]; rfl
  rw [e1]
  walk_at "go"
  refine k_by_value ht (by simp; omega) ?_
  intro ks hperm hs
  rw [List.length_map] at hperm
  have hks : ∀ k, k ∈ ks → k < ps.length := fun k h => List.mem_range.mp (hperm.mem_iff.mp h)
  walk_at "go"
  refine c_map ks natD (fun k => pcD t (ps.getD k ⟨0, 0, 0, 0, 0, 0⟩)) (by rfl) (by have := hperm.length_eq; simp at this; omega) ?_ ?_
  · intro k hk
    have hat : atI (ps.map (pcD t)) (k : Int) = some (pcD t (ps.getD k ⟨0, 0, 0, 0, 0, 0⟩)) := map_at (by simp [List.getD, List.getElem?_eq_getElem (hks k hk)])
    unfold natD
    walk_at "wp"
    walk_at "ev"
  have e3 : (ks.map fun k => pcD t (ps.getD k ⟨0, 0, 0, 0, 0, 0⟩)) = (ks.map fun k => ps.getD k ⟨0, 0, 0, 0, 0, 0⟩).map (pcD t) := by rw [List.map_map]; rfl
  rw [e3]
  have ul : (ks.map fun k => ps.getD k ⟨0, 0, 0, 0, 0, 0⟩).length = ps.length := by rw [List.length_map, hperm.length_eq, List.length_range]
  have umem : ∀ p, p ∈ (ks.map fun k => ps.getD k ⟨0, 0, 0, 0, 0, 0⟩) ↔ p ∈ ps := by
    intro p
    rw [List.mem_map]
    constructor
    · rintro ⟨k, h1, rfl⟩
      have := hks k h1
      simp only [List.getD, List.getElem?_eq_getElem this, Option.getD_some]
      exact List.getElem_mem this
    · intro h
      obtain ⟨k, h1, rfl⟩ := List.getElem_of_mem h
      exact ⟨k, hperm.mem_iff.mpr (List.mem_range.mpr h1), by simp [List.getD, List.getElem?_eq_getElem h1]⟩
  have usort : (ks.map fun k => ps.getD k ⟨0, 0, 0, 0, 0, 0⟩).Pairwise fun p q => loS p 1 ≤ loS q 1 := by
    rw [List.pairwise_map]
    refine List.Pairwise.imp_of_mem ?_ hs
    intro i j hi hj hij
    have h1 := hks i hi
    have h2 := hks j hj
    simpa [List.getD, List.getElem?_eq_getElem h1, List.getElem?_eq_getElem h2, loS] using hij
  generalize (ks.map fun k => ps.getD k ⟨0, 0, 0, 0, 0, 0⟩) = up at ul umem usort ⊢
  have hka : ∀ p, p ∈ up → KOk l p.a p.b := fun p h => (hp p ((umem p).mp h)).1
  walk_at "go"
  refine c_map ps (pcD t) (fun p => qD t (hiS l t p 0)) (by rfl) (by omega) ?_ ?_
  · intro p hp'
    have hkp := (hp p hp').1
    walk_at "wp"
    walk_at "ev"
  walk_at "go"
  have e4 : D.tup [.int 0, .int 1] :: ps.map (fun p => qD t (hiS l t p 0)) = (0 :: ps.map fun p => hiS l t p 0).map (qD t) := by
    rw [qD_zero ht, List.map_cons, List.map_map]
    rfl
  try simp only [List.cons_append, List.nil_append]
  rw [e4]
  have hsz := szW_pos hL.w hk
  refine l_N (0 :: ps.map fun p => hiS l t p 0) (qD t) (fun n δ => ∃ (u x y z : Option Cell), δ = [some (.dat (lsD l)), some (.dat (.lst (ps.map (pcD t)))), some (.dat (.tup [.int W, .int H])), some (.dat (.int a)), some (.dat (.int b)), some (.dat (.int (szW l a))), some (.dat (.int (szH l b))), u, x, y, z, none, none]
      ∧ (u = some (.own (up.map (pcD t))) ∨ u = some (.dat (.lst (up.map (pcD t)))))
      ∧ ∀ i, i < n → ∀ X, (0 :: ps.map fun p => hiS l t p 0)[i]? = some X → ∀ Y, ¬ placeFor l t W H a b ps X Y) ?_ ?_ ?_
  · exact ⟨_, _, _, _, rfl, .inl rfl, fun i hi => absurd hi (Nat.not_lt_zero _)⟩
  · rintro n X δ2 N hX ⟨u, x, y, z, rfl, hu, hI⟩ hN
    have hX0 : 0 ≤ X := by
      rcases List.mem_cons.mp (List.mem_of_getElem? hX) with rfl | h
      · exact Int.le_refl _
      · obtain ⟨p, h1, rfl⟩ := List.mem_map.mp h
        obtain ⟨_, h2, _, h3, _⟩ := hp p h1
        have : loS p 0 = p.x := rfl
        omega
    obtain ⟨f1, f2, f3⟩ := lowF_ok (l := l) (t := t) (XL := X) (XR := X + szW l a * t) (H := szH l b) up 0 usort
    have next : (∀ Y, ¬ placeFor l t W H a b ps X Y) → ∀ i, i < n + 1 → ∀ X, (0 :: ps.map fun p => hiS l t p 0)[i]? = some X → ∀ Y, ¬ placeFor l t W H a b ps X Y := by
      intro hf i hi X' hX' Y hY
      by_cases e : i = n
      · subst e
        rw [hX] at hX'
        cases hX'
        exact hf Y hY
      · exact hI i (by omega) X' hX' Y hY
    have frz : ∀ Y, placeFor l t W H a b ps X Y → lowF l t X (X + szW l a * t) (szH l b) up 0 ≤ Y := fun Y hY => f3 Y hY.2.2.1 fun p hp' hc hh => hY.2.2.2.2 p ((umem p).mp hp') ⟨hc, hh⟩
    walk_at "go"
    rw [qP_addD ht, qD_whole ht]
    walk_at "go"
    by_cases c : W * t < X + szW l a * t
    · rw [if_neg (by simpa using c)]
      walk_at "go"
      exact hN _ ⟨_, _, _, _, rfl, hu, next fun Y hY => by have := hY.2.1; omega⟩
    · rw [if_pos (by simpa using c)]
      have fin : ∀ (u : Option Cell), u = some (.dat (.lst (up.map (pcD t)))) → (dSeq (dAsg (dC (qD t (lowF l t X (X + szW l a * t) (szH l b) up 0))) (dgName 10))
  (dIf (dNot (dTst (dCall C_is_below (dCons (dTup (dCons (dBin fSub (dBin fIx (dVar 2) (dC (.int 1))) (dVar 6)) (dCons (dC (.int 1)) dNil))) (dCons (dVar 10) dNil)))))
   (dRet (dTup (dCons (dVar 8) (dCons (dVar 10) dNil))))
   dNext)) { nx := N, rt := fun d _ => Q d, bk := fun _ => True, ct := N } [some (.dat (lsD l)), some (.dat (.lst (ps.map (pcD t)))), some (.dat (.tup [.int W, .int H])), some (.dat (.int a)), some (.dat (.int b)), some (.dat (.int (szW l a))), some (.dat (.int (szH l b))), u, some (.dat (qD t X)), some (.dat (qD t (X + szW l a * t))), z, none, none] := by
        rintro u rfl
        walk_at "go"
        rw [qD_whole ht]
        walk_at "go"
        have eH : (H - szH l b) * t = H * t - szH l b * t := Int.sub_mul ..
        by_cases c2 : (H - szH l b) * t < lowF l t X (X + szW l a * t) (szH l b) up 0
        · rw [if_neg (by simpa using c2)]
          walk_at "go"
          exact hN _ ⟨_, _, _, _, rfl, .inr rfl, next fun Y hY => by have := frz Y hY; have := hY.2.2.2.1; omega⟩
        · rw [if_pos (by simpa using c2)]
          walk_at "go"
          exact q1 _ _ ⟨hX0, by omega, f1, by omega, fun p hp' hh => f2 p ((umem p).mpr hp') hh.1 hh.2⟩
      rcases hu with rfl | rfl
      · walk_at "go"
        refine ⟨l, t, up, _, _, _, ht, by omega, hka, rfl, ?_⟩
        exact fin _ rfl
      · walk_at "go"
        refine ⟨l, t, up, _, _, _, ht, by omega, hka, rfl, ?_⟩
        exact fin _ rfl
  · rintro δ2 ⟨u, x, y, z, rfl, hu, hI⟩
    walk_at "go"
    refine q2 fun X Y hY => ?_
    obtain ⟨X', m1, _, m3⟩ := slide hY
    obtain ⟨i, h1, h2⟩ := List.getElem_of_mem m1
    exact hI i h1 X' (by rw [List.getElem?_eq_getElem h1, h2]) Y m3
theorem h_spot_in_sort : ∀ ds Q, C_spot_in_sort ds Q → t_spot_in_sort (retE Q) (startD N_spot_in_sort ds) := by
  rintro ds Q ⟨l, st, t, ps, s, e, a, b, hS, hk, hs, he, rfl, q1, q2⟩
  have ht := hS.tk
  have ht1 := ht.1
  have hL := hS.lk
  have hn := hS.nk
  have hw := szW_at hk
  have hh := szH_at hk
  have fa : ∀ h X Y, FreeAt l st t ps a b s h X Y ↔ (0 ≤ h ∧ h < e.2.2 ∧ placeFor l t e.1 e.2.1 a b (ps.filter (onSh s h)) X Y) := fun h X Y => freeAt_iff hs he hk
  have mulle : ∀ {x y : Int}, x * t ≤ y * t → x ≤ y := fun h => Int.le_of_mul_le_mul_right h (by omega)
  rw [sd_spot_in_sort]
  unfold t_spot_in_sort
  walk_at "go"
  have noF : e.1 < szW l a ∨ e.2.1 < szH l b → ¬ FreeIn l st t ps a b s := by
    rintro c ⟨h, X, Y, hf⟩
    obtain ⟨_, _, i1, i2, i3, i4, _⟩ := (fa h X Y).mp hf
    have := mulle (x := szW l a) (y := e.1) (by omega)
    have := mulle (x := szH l b) (y := e.2.1) (by omega)
    omega
  by_cases c : e.1 < szW l a
  · first | rw [if_pos (by simpa using c)] | rw [if_pos (by simp [c])]
    walk_at "go"
    exact q2 (noF (.inl c))
  first | rw [if_neg (by simpa using c)] | skip
  walk_at "go"
  by_cases c' : e.2.1 < szH l b
  · first | rw [if_pos (by simpa using c')] | rw [if_pos (by simp [c'])]
    walk_at "go"
    exact q2 (noF (.inr c'))
  first | rw [if_neg (by simpa using c')] | rw [if_neg (by simp [c, c'])]
  walk_at "go"
  refine c_fil ps (pcD t) (fun p => .int p.h) (fun p => decide (p.s = s)) (by rfl) (by omega) ?_ ?_
  · intro p hp
    walk_at "wp"
    constructor
    · walk_at "ev"
    · intro _
      walk_at "ev"
  have e1 : (ps.filter fun p => decide (p.s = s)).map (fun p => D.int p.h) = ((ps.filter fun p => decide (p.s = s)).map fun p => p.h).map D.int := by rw [List.map_map]; rfl
  walk_at "go"
  refine c_sortSet ((ps.filter fun p => decide (p.s = s)).map fun p => p.h) (by rw [e1]; rfl) (by
    have := List.length_filter_le (fun p => decide (p.s = s)) ps
    rw [List.length_map]
    omega) ?_
  intro us us1 us2
  have hus : ∀ h, h ∈ us ↔ ∃ p, p ∈ ps ∧ p.s = s ∧ p.h = h := fun h => by
    rw [us2, List.mem_map]
    constructor
    · rintro ⟨p, hp, rfl⟩
      obtain ⟨h1, h2⟩ := List.mem_filter.mp hp
      exact ⟨p, h1, by simpa using h2, rfl⟩
    · rintro ⟨p, h1, h2, rfl⟩
      exact ⟨p, List.mem_filter.mpr ⟨h1, by simpa using h2⟩, rfl⟩
  have hus0 : ∀ h, h ∈ us → 0 ≤ h ∧ h < e.2.2 := fun h hh => by
    obtain ⟨p, hp, h1, rfl⟩ := (hus h).mp hh
    obtain ⟨_, _, e', he', h0, h2, _⟩ := hS.pk p hp
    rw [h1, he] at he'
    cases he'
    exact ⟨h0, h2⟩
  walk_at "go"
  by_cases c2 : (us.length : Int) < e.2.2
  · rw [if_pos (by simpa using c2)]
    walk_at "go"
    refine ⟨us, us1, fun n hn => (hus0 n hn).1, rfl, fun m m0 ml mn => ?_⟩
    walk_at "go"
    rw [qD_zero ht]
    refine q1 m 0 0 ((fa m 0 0).mpr ⟨m0, by omega, Int.le_refl _, ?_, Int.le_refl _, ?_, fun p hp => ?_⟩)
    · have := Int.mul_le_mul_of_nonneg_right (show szW l a ≤ e.1 by omega) (show 0 ≤ t by omega)
      omega
    · have := Int.mul_le_mul_of_nonneg_right (show szH l b ≤ e.2.1 by omega) (show 0 ≤ t by omega)
      omega
    · obtain ⟨hp1, hp2⟩ := List.mem_filter.mp hp
      obtain ⟨g1, g2⟩ := onSh_iff.mp hp2
      exact absurd ((hus m).mpr ⟨p, hp1, g1, g2⟩) mn
  · rw [if_neg (by simpa using c2)]
    walk_at "go"
    refine l_N us D.int (fun n δ => ∃ (x y z : Option Cell), δ = [some (.dat (lsD l)), some (.dat (spD t ps)), some (.dat (.int s)), some (.dat (shD e)), some (.dat (.int a)), some (.dat (.int b)), some (.dat (.lst (us.map D.int))), x, y, z, none, none]
      ∧ ∀ i, i < n → ∀ h, us[i]? = some h → ∀ X Y, ¬ FreeAt l st t ps a b s h X Y) ?_ ?_ ?_
    · exact ⟨_, _, _, rfl, fun i hi => absurd hi (Nat.not_lt_zero _)⟩
    · rintro n h δ2 N hX ⟨x, y, z, rfl, hI⟩ hN
      have next : (∀ X Y, ¬ FreeAt l st t ps a b s h X Y) → ∀ i, i < n + 1 → ∀ h, us[i]? = some h → ∀ X Y, ¬ FreeAt l st t ps a b s h X Y := by
        intro hf i hi X' hX' Y hY
        by_cases e : i = n
        · subst e
          rw [hX] at hX'
          cases hX'
          exact hf Y hY
        · exact hI i (by omega) X' hX' Y hY
      have hh0 := hus0 h (List.mem_of_getElem? hX)
      walk_at "go"
      refine k_in_sheet (by omega) ?_
      walk_at "go"
      refine c_map _ natD (fun k => pcD t (ps.getD k p0)) (by rfl) (by
        have := List.length_filter_le (atSh ps s h) (List.range ps.length)
        rw [List.length_range] at this
        omega) ?_ ?_
      · intro k hk
        have hk2 := List.mem_range.mp (List.mem_filter.mp hk).1
        have hat : atI (ps.map (pcD t)) (k : Int) = some (pcD t (ps.getD k p0)) := map_at (by simp [List.getD, List.getElem?_eq_getElem hk2])
        unfold natD
        walk_at "wp"
        walk_at "ev"
      have e5 : ∀ xs : List Nat, (xs.map fun k => pcD t (ps.getD k p0)) = (xs.map fun k => ps.getD k p0).map (pcD t) := fun xs => by rw [List.map_map]; rfl
      rw [e5, filter_range]
      walk_at "go"
      have hfl := List.length_filter_le (onSh s h) ps
      refine ⟨l, t, e.1, e.2.1, a, b, ps.filter (onSh s h), ht, hL, hk, by omega, fun p hp => (hS.pk p (List.mem_filter.mp hp).1).pos hL ht, rfl, fun X Y hp => ?_, fun hno => ?_⟩
      · walk_at "go"
        rw [if_pos (by simp [R.isN])]
        walk_at "go"
        exact q1 h X Y ((fa h X Y).mpr ⟨hh0.1, hh0.2, hp⟩)
      · walk_at "go"
        rw [if_neg (by simp [R.isN])]
        walk_at "go"
        exact hN _ ⟨_, _, _, rfl, next fun X Y hf => hno X Y ((fa h X Y).mp hf).2.2⟩
    · rintro δ2 ⟨x, y, z, rfl, hI⟩
      walk_at "go"
      refine q2 ?_
      rintro ⟨h, X, Y, hf⟩
      have := (fa h X Y).mp hf
      obtain ⟨i, h1, h2⟩ := List.getElem_of_mem (full_list us1 hus0 (by omega) this.1 this.2.1)
      exact hI i h1 h (by rw [List.getElem?_eq_getElem h1, h2]) X Y hf
theorem h_free_place : ∀ ds Q xc, C_free_place ds Q xc → t_free_place xc (retE Q) (startD N_free_place ds) := by
  rintro ds Q xc ⟨l, st, t, d, d1, d2, ht, rfl, hh⟩
  rw [sd_free_place]
  unfold t_free_place
  walk_at "go"
  rcases hh with ⟨hB, q⟩ | ⟨ps, rfl, hS, hh⟩
  · exact ⟨l, st, t, _, ht, rfl, .inr ⟨hB, q⟩⟩
  refine ⟨l, st, t, _, ht, rfl, .inl ⟨ps, rfl, hS, ?_⟩⟩
  walk_at "go"
  rcases hh with ⟨hn, q⟩ | hh
  · exact ⟨_, _, _, rfl, .inr ⟨by rw [List.length_map]; exact hn, q⟩⟩
  have hi1 : ixD d1 (l.w.map D.int).length := by
    rw [List.length_map]
    rcases hh with ⟨h, _⟩ | ⟨a, b, rfl, rfl, hk, _⟩
    · exact h
    · exact ⟨a, rfl, hk.1, hk.2.1⟩
  refine ⟨_, _, _, rfl, .inl ⟨hi1, ?_⟩⟩
  walk_at "go"
  rcases hh with ⟨_, hn, q⟩ | ⟨a, b, rfl, rfl, hk, q1, q2⟩
  · exact ⟨_, _, _, rfl, .inr ⟨by rw [List.length_map]; exact hn, q⟩⟩
  refine ⟨_, _, _, rfl, .inl ⟨⟨b, rfl, hk.2.2.1, by rw [List.length_map]; exact hk.2.2.2⟩, ?_⟩⟩
  walk_at "go"
  refine l_L (fun n δ => ∃ (x y z : Option Cell), δ = [some (.dat (lsD l)), some (.dat (stD st)), some (.dat (spD t ps)), some (.dat (.int a)), some (.dat (.int b)), x, y, z]
      ∧ ∀ i : Nat, i < n → ¬ FreeIn l st t ps a b (i : Int)) ?_ ?_ ?_
  · exact ⟨_, _, _, rfl, fun i hi => absurd hi (Nat.not_lt_zero _)⟩
  · rintro n d' δ2 N hd' ⟨x, y, z, rfl, hI⟩ hN
    rw [enD_get, List.getElem?_map] at hd'
    cases he : st[n]? with
    | none => rw [he] at hd'; cases hd'
    | some e =>
      rw [he] at hd'
      simp only [Option.map_some, Nat.zero_add] at hd'
      cases hd'
      have he2 : st[((n : Nat) : Int).toNat]? = some e := by rw [Int.toNat_natCast]; exact he
      refine c_g2 rfl ?_
      walk_at "go"
      refine ⟨l, st, t, ps, (n : Int), e, a, b, hS, hk, by omega, he2, rfl, fun h X Y hf => ?_, fun hno => ?_⟩
      · walk_at "go"
        rw [if_pos (by simp [R.isN])]
        walk_at "go"
        exact q1 _ _ _ _ hf
      · walk_at "go"
        rw [if_neg (by simp [R.isN])]
        walk_at "go"
        refine hN _ ⟨_, _, _, rfl, fun i hi => ?_⟩
        by_cases c : i = n
        · subst c; exact hno
        · exact hI i (by omega)
  · rintro δ2 ⟨x, y, z, rfl, hI⟩
    walk_at "go"
    refine q2 ?_
    rintro ⟨s, h, X, Y, hf⟩
    obtain ⟨_, hs, e, he, _⟩ := hf.p
    have hs' : 0 ≤ s := hs
    have he' : st[s.toNat]? = some e := he
    have hlt := lt_get he'
    refine hI s.toNat (by rw [enD_len, List.length_map]; exact hlt) ⟨h, X, Y, ?_⟩
    have e2 : ((s.toNat : Nat) : Int) = s := by omega
    rw [e2]
    exact hf
theorem h_clear : ∀ ds Q, C_clear ds Q → t_clear (retE Q) (startD N_clear ds) := by
  rintro ds Q ⟨d, t, ss, L, ht, hL, hl, hss, rfl, q⟩
  rw [sd_clear]
  unfold t_clear
  walk_at "go"
  refine c_map ss (fun s => seD t s.1 s.2) (fun s => qD t s.1) (by rfl) (by omega) ?_ ?_
  · intro s hs
    walk_at "wp"
    walk_at "ev"
  have e1 : ss.map (fun s => qD t s.1) = (ss.map fun s => s.1).map (qD t) := by rw [List.map_map]; rfl
  rw [e1]
  walk_at "go"
  refine k_by_value ht (by simp; omega) ?_
  intro ks hperm hs
  rw [List.length_map] at hperm
  have hks : ∀ k, k ∈ ks → k < ss.length := fun k h => List.mem_range.mp (hperm.mem_iff.mp h)
  have hkl : ks.length = ss.length := by rw [hperm.length_eq, List.length_range]
  have hG : Gaps (L * t) ss (mrg (L * t) (ks.map fun k => ss.getD k (0, 0)) 0) := by
    refine gaps_mrg ?_ (fun x => ?_) fun x hx => ⟨(hss x hx).2.1, (hss x hx).2.2⟩
    · rw [List.pairwise_map]
      refine List.Pairwise.imp_of_mem ?_ hs
      intro i j hi hj hij
      have h1 := hks i hi
      have h2 := hks j hj
      simpa [List.getD, List.getElem?_eq_getElem h1, List.getElem?_eq_getElem h2] using hij
    · rw [List.mem_map]
      constructor
      · rintro ⟨k, h1, rfl⟩
        have := hks k h1
        simp only [List.getD, List.getElem?_eq_getElem this, Option.getD_some]
        exact List.getElem_mem this
      · intro h
        obtain ⟨k, h1, rfl⟩ := List.getElem_of_mem h
        exact ⟨k, hperm.mem_iff.mpr (List.mem_range.mpr h1), by simp [List.getD, List.getElem?_eq_getElem h1]⟩
  have hlen := mrg_len (L * t) (ks.map fun k => ss.getD k (0, 0)) 0
  rw [List.length_map] at hlen
  have q' := q _ (by omega) hG
  walk_at "go"
  rw [qD_zero ht]
  refine l_N ks natD (fun n δ => ∃ (start : Int) (acc : List (Int × Int)) (x y : Option Cell), δ = [some (.dat d), some (.dat (.lst (ss.map fun s => seD t s.1 s.2))), some (.dat (.int L)), some (.own (acc.map fun g => seD t g.1 g.2)), some (.dat (qD t start)), x, y]
      ∧ acc.length ≤ n ∧ acc ++ mrg (L * t) ((ks.drop n).map fun k => ss.getD k (0, 0)) start = mrg (L * t) (ks.map fun k => ss.getD k (0, 0)) 0) ?_ ?_ ?_
  · exact ⟨0, [], _, _, rfl, Nat.le_refl _, rfl⟩
  · rintro n k δ2 N hk ⟨start, acc, x, y, rfl, hal, hI⟩ hN
    obtain ⟨hn, rfl⟩ := List.getElem?_eq_some_iff.mp hk
    have hkk := hks _ (List.getElem_mem hn)
    have hat : atI (ss.map fun s => seD t s.1 s.2) ((ks[n] : Nat) : Int) = some (seD t (ss.getD ks[n] (0, 0)).1 (ss.getD ks[n] (0, 0)).2) := map_at (f := fun s : Int × Int => seD t s.1 s.2) (by simp [List.getD, List.getElem?_eq_getElem hkk])
    have hacc : (acc.map fun g => seD t g.1 g.2).length < 100000 := by rw [List.length_map]; omega
    rw [List.drop_eq_getElem_cons hn, List.map_cons, mrg] at hI
    generalize ss.getD ks[n] (0, 0) = g at hat hI
    unfold natD
    walk_at "go"
    by_cases c : start < g.1
    · rw [if_pos (by simpa using c)]
      rw [if_pos c] at hI
      walk_at "go"
      refine hN _ ⟨_, acc ++ [(start, g.1)], _, _, by rw [List.map_append]; rfl, by rw [List.length_append]; simp; omega, ?_⟩
      rw [← hI, List.append_assoc]
    · rw [if_neg (by simpa using c)]
      rw [if_neg c] at hI
      walk_at "go"
      exact hN _ ⟨_, acc, _, _, rfl, by omega, hI⟩
  · rintro δ2 ⟨start, acc, x, y, rfl, hal, hI⟩
    rw [List.drop_length, List.map_nil, mrg] at hI
    have hacc : (acc.map fun g => seD t g.1 g.2).length < 100000 := by rw [List.length_map]; omega
    walk_at "go"
    rw [qD_whole ht]
    walk_at "go"
    by_cases c : start < L * t
    · rw [if_pos (by simpa using c)]
      rw [if_pos c] at hI
      walk_at "go"
      rw [← hI] at q'
      rw [qD_whole ht]
      show Q _
      unfold gapsD at q'
      rw [List.map_append] at q'
      exact q'
    · rw [if_neg (by simpa using c)]
      rw [if_neg c, List.append_nil] at hI
      walk_at "go"
      rw [← hI] at q'
      exact q'
theorem h_clear_across : ∀ ds Q xc, C_clear_across ds Q xc → t_clear_across xc (retE Q) (startD N_clear_across ds) := by
  rintro ds Q xc ⟨l, st, t, d, d1, d2, ht, rfl, hh⟩
  rw [sd_clear_across]
  unfold t_clear_across
  walk_at "go"
  refine ⟨1, .inr rfl, l, st, t, d, d1, d2, ht, rfl, ?_⟩
  rcases hh with h | ⟨ps, e, hS, h | ⟨s, e2, e3, h0, he, h | ⟨h, e4, h1, h2, sd, hsd, hx, q⟩⟩⟩
  · exact .inl h
  · exact .inr ⟨ps, e, hS, .inl h⟩
  · exact .inr ⟨ps, e, hS, .inr ⟨s, e2, e3, h0, he, .inl h⟩⟩
  · exact .inr ⟨ps, e, hS, .inr ⟨s, e2, e3, h0, he, .inr ⟨h, e4, h1, h2, sd, hsd, hx, q⟩⟩⟩
theorem h_clear_up : ∀ ds Q xc, C_clear_up ds Q xc → t_clear_up xc (retE Q) (startD N_clear_up ds) := by
  rintro ds Q xc ⟨l, st, t, d, d1, d2, ht, rfl, hh⟩
  rw [sd_clear_up]
  unfold t_clear_up
  walk_at "go"
  refine ⟨0, .inl rfl, l, st, t, d, d1, d2, ht, rfl, ?_⟩
  rcases hh with h | ⟨ps, e, hS, h | ⟨s, e2, e3, h0, he, h | ⟨h, e4, h1, h2, sd, hsd, hx, q⟩⟩⟩
  · exact .inl h
  · exact .inr ⟨ps, e, hS, .inl h⟩
  · exact .inr ⟨ps, e, hS, .inr ⟨s, e2, e3, h0, he, .inl h⟩⟩
  · exact .inr ⟨ps, e, hS, .inr ⟨s, e2, e3, h0, he, .inr ⟨h, e4, h1, h2, sd, hsd, hx, q⟩⟩⟩
theorem h_clear_side : ∀ ds Q xc, C_clear_side ds Q xc → t_clear_side xc (retE Q) (startD N_clear_side ds) := by
  rintro ds Q xc ⟨sd, hsd, l, st, t, d, d1, d2, ht, rfl, hh⟩
  rw [sd_clear_side]
  unfold t_clear_side
  walk_at "go"
  rcases hh with ⟨hB, q⟩ | ⟨ps, rfl, hS, hh⟩
  · exact ⟨l, st, t, _, ht, rfl, .inr ⟨hB, q⟩⟩
  refine ⟨l, st, t, _, ht, rfl, .inl ⟨ps, rfl, hS, ?_⟩⟩
  walk_at "go"
  rcases hh with ⟨hn, q⟩ | ⟨s, e, rfl, h0, he, hh⟩
  · exact ⟨st, _, _, rfl, .inl ⟨hn, q⟩⟩
  refine ⟨st, _, _, rfl, .inr ⟨s, e, rfl, h0, he, ?_⟩⟩
  rcases hh with h | ⟨h, rfl, h1, h2, sd', hsd', hx, q⟩
  · exact .inl h
  refine .inr ⟨⟨h, rfl, h1, h2⟩, ?_⟩
  have := hx sd rfl
  subst this
  have hn := hS.nk
  walk_at "go"
  refine k_in_sheet (by omega) ?_
  walk_at "go"
  have hstr : ∀ p, p ∈ ps → 0 ≤ loS p sd' ∧ loS p sd' < hiS l t p sd' ∧ (p.s = s → hiS l t p sd' ≤ eS e sd' * t) := fun p hp => by
    have hP := hS.pk p hp
    obtain ⟨_, g1, g2, g3, g4⟩ := hP.pos hS.lk ht
    obtain ⟨_, _, e', he', _, _, i1, i2, i3, i4⟩ := hP
    have hee : p.s = s → e' = e := fun z => by
      rw [z, he] at he'
      exact (Option.some.inj he').symm
    rcases hsd with rfl | rfl
    · refine ⟨g3, g1, fun z => ?_⟩
      rw [hee z] at i2
      exact i2
    · refine ⟨g4, g2, fun z => ?_⟩
      rw [hee z] at i4
      exact i4
  refine c_map _ natD (fun k => seD t (loS (ps.getD k p0) sd') (hiS l t (ps.getD k p0) sd')) (by rfl) (by
    have := List.length_filter_le (atSh ps s h) (List.range ps.length)
    rw [List.length_range] at this
    omega) ?_ ?_
  · intro k hk
    have hk2 := List.mem_range.mp (List.mem_filter.mp hk).1
    have hat : atI (ps.map (pcD t)) (k : Int) = some (pcD t (ps.getD k p0)) := map_at (by simp [List.getD, List.getElem?_eq_getElem hk2])
    have hkk : KOk l (ps.getD k p0).a (ps.getD k p0).b := by
      simp only [List.getD, List.getElem?_eq_getElem hk2, Option.getD_some]
      exact (hS.pk _ (List.getElem_mem hk2)).k
    unfold natD
    walk_at "wp"
    walk_at "ev"
  have e5 : ((List.range ps.length).filter (atSh ps s h)).map (fun k => seD t (loS (ps.getD k p0) sd') (hiS l t (ps.getD k p0) sd')) = (strOf l t ps s h sd').map fun g => seD t g.1 g.2 := by
    unfold strOf
    rw [← filter_range ps s h, List.map_map, List.map_map]
    rfl
  rw [e5]
  have hfl := List.length_filter_le (onSh s h) ps
  have fin : ∀ L : Int, L = eS e sd' → C_clear [lsD l, .lst ((strOf l t ps s h sd').map fun g => seD t g.1 g.2), .int L] Q := by
    rintro L rfl
    refine ⟨_, t, strOf l t ps s h sd', eS e sd', ht, ?_, by unfold strOf; rw [List.length_map]; omega, fun g hg => ?_, rfl, q⟩
    · have hE := hS.sk.1 e (List.mem_of_getElem? he)
      have b : ∀ n, SideOk n → 0 ≤ n := fun n h => by
        rcases h with h | h
        · omega
        · rw [h]; decide
      rcases hsd with rfl | rfl
      · exact b _ hE.1
      · exact b _ hE.2.1
    · unfold strOf at hg
      obtain ⟨p, hp, rfl⟩ := List.mem_map.mp hg
      obtain ⟨hp1, hp2⟩ := List.mem_filter.mp hp
      obtain ⟨z1, z2, z3⟩ := hstr p hp1
      exact ⟨z1, z2, z3 (onSh_iff.mp hp2).1⟩
  have hat := st_at h0 he
  rcases hsd with rfl | rfl
  · walk_at "go"
    exact fin e.1 rfl
  · walk_at "go"
    exact fin e.2.1 rfl
theorem gcd_step (a b : Int) : Int.gcd b (a % b) = Int.gcd a b := by
  have e : a = a % b + (a / b) * b := by have := Int.emod_add_mul_ediv a b; rw [Int.mul_comm b] at this; exact this.symm
  rw [Int.gcd_comm a b]
  conv => rhs; rw [e]
  rw [Int.gcd_add_mul_right_right]
theorem bits7 {t : Int} (ht : TOk t) : ∃ m : Nat, t < m ∧ 2 * ((Builtin.Int.intBits t : Nat) : Int) + 2 = m ∧ m ≤ 8 := by
  obtain ⟨h1, h2⟩ := ht
  have : t = 1 ∨ t = 2 ∨ t = 3 ∨ t = 4 ∨ t = 5 ∨ t = 6 ∨ t = 7 := by omega
  rcases this with rfl | rfl | rfl | rfl | rfl | rfl | rfl
  · exact ⟨4, by decide, by decide, by decide⟩
  · exact ⟨6, by decide, by decide, by decide⟩
  · exact ⟨6, by decide, by decide, by decide⟩
  · exact ⟨8, by decide, by decide, by decide⟩
  · exact ⟨8, by decide, by decide, by decide⟩
  · exact ⟨8, by decide, by decide, by decide⟩
  · exact ⟨8, by decide, by decide, by decide⟩
theorem h_Llow : ∀ ds Q, C_Llow ds Q → t_Llow (retE Q) (startD N_Llow ds) := by
  rintro ds Q ⟨X, t, ht, rfl, q⟩
  obtain ⟨m, hm, hb, hm8⟩ := bits7 ht
  have ht1 := ht.1
  have ht2 := ht.2
  have cm : CM 2 ((Builtin.Int.intBits t : Nat) : Int) := .inl (by omega)
  rw [sd_Llow]
  unfold t_Llow
  walk_at "go"
  rw [hb]
  walk_at "go"
  rw [Int.toNat_natCast]
  have fin : ∀ (one : Int) (x y : Option Cell), Int.gcd one 0 = Int.gcd X t → 0 < one → dRet (dTup (dCons (dBin fDiv (dVar 0) (dVar 2)) (dCons (dBin fDiv (dVar 1) (dVar 2)) dNil))) (retE Q) [some (.dat (.int X)), some (.dat (.int t)), some (.dat (.int one)), some (.dat (.int 0)), x, y] := by
    intro one x y hg h0
    have eo : one = gI X t := by
      unfold gI
      rw [← hg]
      simp
      omega
    have := gI_le (X := X) ht
    have cd : ∀ z, CD z one := fun z => ⟨h0, by omega⟩
    have cd1 := cd X
    have cd2 := cd t
    walk_at "go"
    rw [eo]
    exact q
  refine l_R (fun n δ => ∃ (one two : Int) (x y : Option Cell), δ = [some (.dat (.int X)), some (.dat (.int t)), some (.dat (.int one)), some (.dat (.int two)), x, y] ∧ Int.gcd one two = Int.gcd X t ∧ 0 ≤ two ∧ two + n ≤ t ∧ (0 < one ∨ 0 < two)) ?_ ?_ ?_
  · exact ⟨X, t, _, _, rfl, rfl, by omega, by simp, .inr (by omega)⟩
  · rintro n δ2 N hn ⟨one, two, x, y, rfl, hg, h0, h1, h2⟩ hN
    walk_at "go"
    by_cases c : two = 0
    · subst c
      rw [if_pos (by decide)]
      walk_at "go"
      exact fin one _ _ hg (by omega)
    · rw [if_neg (by simpa using c)]
      have c2 : 0 < two := by omega
      walk_at "go"
      have h3 := Int.emod_lt_of_pos one c2
      have h4 := Int.emod_nonneg one c
      exact hN _ ⟨_, _, _, _, rfl, (gcd_step one two).trans hg, h4, by omega, .inl c2⟩
  · rintro δ2 ⟨one, two, x, y, rfl, hg, h0, h1, h2⟩
    omega
theorem rows_fact : ∀ r, r ∈ rowsL → 1 ≤ r.getD 0 0 ∧ r.getD 0 0 ≤ 2 ∧ r.getD 0 0 ≤ r.getD (r.length - 1) 0 ∧ r.getD (r.length - 1) 0 ≤ 6 ∧ 1 ≤ r.length ∧ r.length ≤ 3 := by decide
theorem row_first {r : List Int} (h : ROk r) : atI (r.map D.int) 0 = some (.int (r.getD 0 0)) := by
  have := (rows_fact r h).2.2.2.2.1
  exact row_at (a := 0) (by decide) (by omega)
theorem row_last {r : List Int} (h : ROk r) : atI (r.map D.int) (-1) = some (.int (r.getD (r.length - 1) 0)) := by
  have hl := (rows_fact r h).2.2.2.2.1
  unfold atI ixN
  rw [if_neg (by omega), if_pos (by rw [List.length_map]; omega)]
  have e : ((((r.map D.int).length : Nat) : Int) + -1).toNat = r.length - 1 := by rw [List.length_map]; omega
  show (r.map D.int)[((((r.map D.int).length : Nat) : Int) + -1).toNat]? = _
  rw [e, List.getElem?_map]
  have : r.length - 1 < r.length := by omega
  simp [List.getD, List.getElem?_eq_getElem this]
theorem h_Lsizes : ∀ ds Q, C_Lsizes ds Q → t_Lsizes (retF Q) (startF N_Lsizes ds) := by
  rintro ds Q ⟨rfl, q⟩
  rw [sd_Lsizes]
  unfold t_Lsizes
  have hat : ∀ n : Int, 0 ≤ n → n < 8 → atI (rowsL.map rowD) n = some (rowD (rowsL.getD n.toNat [])) ∧ ROk (rowsL.getD n.toNat []) := fun n h0 h1 => by
    have hl : n.toNat < rowsL.length := by show n.toNat < 8; omega
    rw [atI_z _ _ h0, List.getElem?_map]
    simp only [List.getD, List.getElem?_eq_getElem hl, Option.map_some, Option.getD_some, true_and]
    exact List.getElem_mem hl
  walk_at "go"
  refine k_take (by decide) fun n h0 h1 => ?_
  obtain ⟨a1, a2⟩ := hat n h0 h1
  walk_at "go"
  refine c_ix (ds := rowsL.map rowD) rfl a1 ?_
  walk_at "go"
  refine k_take (by decide) fun m h2 h3 => ?_
  obtain ⟨b1, b2⟩ := hat m h2 h3
  walk_at "go"
  refine c_ix (ds := rowsL.map rowD) rfl b1 ?_
  walk_at "go"
  exact ⟨rfl, q ⟨_, _⟩ ⟨a2, b2⟩⟩
theorem h_Lside : ∀ ds Q, C_Lside ds Q → t_Lside (retF Q) (startF N_Lside ds) := by
  rintro ds Q ⟨r, hr, rfl, q⟩
  rw [sd_Lside]
  unfold t_Lside
  have hf := row_first hr
  have hz := row_last hr
  obtain ⟨f1, f2, fz, z6, _⟩ := rows_fact r hr
  generalize r.getD 0 0 = f at *
  generalize r.getD (r.length - 1) 0 = z at *
  have cf : ∀ n, CM f n := fun n => .inl (by omega)
  have cz : ∀ n, CM z n := fun n => .inl (by omega)
  have cd : CD (2 * z) f := ⟨by omega, by omega⟩
  walk_at "go"
  refine k_take (by decide) fun how h0 h1 => ?_
  walk_at "go"
  by_cases c : how = 0
  · rw [if_pos (by simpa using c)]
    walk_at "go"
    refine ⟨rfl, q _ ?_ ?_⟩
    · unfold gMax; split <;> omega
    · unfold gMax; split <;> omega
  rw [if_neg (by simpa using c)]
  walk_at "go"
  by_cases c2 : how < 10
  · rw [if_pos (by simpa using c2)]
    walk_at "go"
    refine k_take (by decide) fun n h2 h3 => ?_
    have := cz (1 + n)
    walk_at "go"
    refine k_take (by omega) fun m h4 h5 => ?_
    walk_at "go"
    have hn : n = 0 ∨ n = 1 := by omega
    refine ⟨rfl, q _ ?_ ?_⟩
    · rcases hn with rfl | rfl <;> omega
    · rcases hn with rfl | rfl <;> omega
  · rw [if_neg (by simpa using c2)]
    walk_at "go"
    have hff : f = 1 ∨ f = 2 := by omega
    have hd : 0 < 2 * z / f := by rcases hff with rfl | rfl <;> omega
    refine k_take hd fun n h2 h3 => ?_
    have := cf (1 + n)
    walk_at "go"
    refine k_take (by omega) fun m h4 h5 => ?_
    walk_at "go"
    refine ⟨rfl, q _ ?_ ?_⟩
    · rcases hff with rfl | rfl <;> omega
    · rcases hff with rfl | rfl <;> omega
theorem h_Lspread : ∀ ds Q, C_Lspread ds Q → t_Lspread (retE Q) (startD N_Lspread ds) := by
  rintro ds Q ⟨t, ps, ht, hl, rfl, q⟩
  rw [sd_Lspread]
  unfold t_Lspread
  walk_at "go"
  refine c_map ps pcR (pcD t) (by rfl) (by omega) ?_ ?_
  · intro p hp
    walk_at "wp"
    walk_at "ev"
    assumption
  walk_at "go"
  exact q
theorem CS_small {i j : Int} {k : Nat} (h : i.natAbs ≤ 2 ^ k) (hk : k < 1000000) (h0 : 0 ≤ j) (h1 : j ≤ 1000000) : CS i j :=
  ⟨h0, h1, Nat.lt_of_le_of_lt h (Nat.pow_lt_pow_right (by decide) hk)⟩
theorem h_Lblock : ∀ ds Q, C_Lblock ds Q → t_Lblock (retE Q) (startD N_Lblock ds) := by
  rintro ds Q ⟨w, h, c, hw, hh, hc, rfl, q⟩
  rw [sd_Lblock]
  unfold t_Lblock
  walk_at "go"
  rw [Int.toNat_natCast]
  refine l_R (fun n δ => ∃ (x : Option Cell), δ = [some (.dat (.int (w : Int))), some (.dat (.int (h : Int))), some (.dat (.int (c : Int))), some (.dat (.int ((blockM w n c : Nat) : Int))), x]) ?_ ?_ ?_
  · exact ⟨_, rfl⟩
  · rintro n δ2 N hn ⟨x, rfl⟩ hN
    rw [Int.zero_add]
    have c1 : CS 1 (w : Int) := CS_small (k := 0) (by decide) (by decide) (by omega) (by omega)
    have c2 : CM (n : Int) (c : Int) := .inl (by omega)
    have e1 : (1 : Int) * 2 ^ ((w : Int)).toNat - 1 = ((2 ^ w - 1 : Nat) : Int) := by
      have : 1 ≤ 2 ^ w := Nat.one_le_two_pow
      rw [Int.toNat_natCast, Int.one_mul]
      push_cast [this]
      simp
    have e2 : ((n : Int) * (c : Int)) = ((n * c : Nat) : Int) := by simp
    have hnc : n * c ≤ 100 * 100 := Nat.mul_le_mul (by omega) hc
    have hnc2 : n * c ≤ 1000000 := by omega
    have c3 : CS (1 * 2 ^ ((w : Int)).toNat - 1) ((n : Int) * (c : Int)) := by
      rw [e1, e2]
      refine CS_small (k := w) ?_ (by omega) (Int.natCast_nonneg _) (Int.ofNat_le.mpr hnc2)
      rw [Int.natAbs_natCast]
      exact Nat.sub_le _ _
    walk_at "go"
    have e3 : ((blockM w n c : Nat) : Int) + (1 * 2 ^ ((w : Int)).toNat - 1) * 2 ^ ((n : Int) * (c : Int)).toNat = ((blockM w (n + 1) c : Nat) : Int) := by
      rw [e1, e2, Int.toNat_natCast]
      unfold blockM
      rw [List.range_succ, List.foldl_append]
      simp
    rw [e3]
    exact hN _ ⟨_, rfl⟩
  · rintro δ2 ⟨x, rfl⟩
    walk_at "go"
    exact q
set_option maxHeartbeats 2000000
theorem h_Lquotient : ∀ ds Q, C_Lquotient ds Q → t_Lquotient (retE Q) (startD N_Lquotient ds) := by
  rintro ds Q ⟨t, X, ht, hX, rfl, q⟩
  have hd := qP_den (X := X) ht
  have hn := qP_nn ht hX
  have hl : isTup (qD t X) = true := rfl
  rw [sd_Lquotient]
  unfold t_Lquotient
  walk_at "go"
  rw [if_neg (by simp [hl])]
  walk_at "go"
  with_reducible refine l_cons ?_
  walk_at "go"
  rw [if_neg (by simp [isInt, isBool]; omega)]
  walk_at "go"
  with_reducible refine l_cons ?_
  walk_at "go"
  rw [if_neg (by simp [isInt, isBool]; omega)]
  walk_at "go"
  with_reducible refine l_nil ?_
  walk_at "go"
  rw [if_pos (by simp; omega)]
  walk_at "go"
  have ht2 : TOk (qP t X).2 := ⟨hd.1, hd.2⟩
  refine k_low ht2 ?_
  have e : qD (qP t X).2 (qP t X).1 = qD t X := by
    have hc := qP_cop (X := X) ht
    have hg : gI (qP t X).1 (qP t X).2 = 1 := by
      unfold gI Int.gcd
      rw [hc]
      rfl
    show prD ((qP t X).1 / gI (qP t X).1 (qP t X).2, (qP t X).2 / gI (qP t X).1 (qP t X).2) = prD (qP t X)
    rw [hg, Int.ediv_one, Int.ediv_one]
  rw [e]
  walk_at "go"
  show Q _
  simpa using q
theorem bign : bigN = 999999999999 := rfl
theorem h_Lstock : ∀ ds Q, C_Lstock ds Q → t_Lstock (retF Q) (startF N_Lstock ds) := by
  rintro ds Q ⟨l, hL, rfl, q⟩
  rw [sd_Lstock]
  unfold t_Lstock
  walk_at "go"
  refine k_take (by decide) fun how h0 h1 => ?_
  walk_at "go"
  by_cases c : how = 0
  · rw [if_pos (by simpa using c)]
    walk_at "go"
    exact ⟨rfl, q [] ⟨fun e h => (List.not_mem_nil h).elim, Nat.zero_le _⟩⟩
  rw [if_neg (by simpa using c)]
  walk_at "go"
  refine k_take (by decide) fun n h2 h3 => ?_
  have hat : ∃ m : Nat, 1 ≤ m ∧ m ≤ 3 ∧ atI [D.int 1, D.int 1, D.int 2, D.int 3] n = some (.int (m : Int)) := by
    have : n = 0 ∨ n = 1 ∨ n = 2 ∨ n = 3 := by omega
    rcases this with rfl | rfl | rfl | rfl
    · exact ⟨1, by decide, by decide, rfl⟩
    · exact ⟨1, by decide, by decide, rfl⟩
    · exact ⟨2, by decide, by decide, rfl⟩
    · exact ⟨3, by decide, by decide, rfl⟩
  obtain ⟨m, m1, m3, hat⟩ := hat
  walk_at "go"
  rw [Int.toNat_natCast]
  have last : ∀ (es : List (Int × Int × Int)) (δ : En), δ[3]? = some (some (.own (es.map shD))) → δ[0]? = some (some .feed) → StOk es → dRet (dUn fTupOf (dVar 3)) (retF Q) δ := by
    intro es δ h1 h2 h3
    refine s_ret ?_
    refine c_un ?_
    refine c_box h1 ?_
    refine c_tupOf (ds := es.map shD) ?_ ?_
    · show (match δ[3]? with
        | some (some (.own ds)) => some ds
        | some (some (.dat (.lst ds))) => some ds
        | _ => none) = _
      rw [h1]
    · exact ⟨h2, q es h3⟩
  refine l_R (fun n δ => ∃ (es : List (Int × Int × Int)) (x y : Option Cell), δ = [some .feed, some (.dat (lsD l)), some (.dat (.int how)), some (.own (es.map shD)), x, y] ∧ es.length = n ∧ ∀ e, e ∈ es → (1 ≤ e.1 ∧ e.1 ≤ 14) ∧ (1 ≤ e.2.1 ∧ e.2.1 ≤ 14) ∧ 1 ≤ e.2.2) ?_ ?_ ?_
  · exact ⟨[], _, _, rfl, rfl, fun e h => (List.not_mem_nil h).elim⟩
  · rintro n δ2 N hn ⟨es, x, y, rfl, hl, hE⟩ hN
    walk_at "go"
    refine ⟨l.w, hL.w, rfl, fun w w1 w2 => ?_⟩
    walk_at "go"
    refine ⟨l.h, hL.h, rfl, fun h h1 h2 => ?_⟩
    walk_at "go"
    refine k_take (by decide) fun k k0 k1 => ?_
    have hat2 : ∃ m : Int, 1 ≤ m ∧ atI [D.int 1, D.int 1, D.int 1, D.int 2, D.int 2, D.int 999999999999999999999999999999] k = some (.int m) := by
      have : k = 0 ∨ k = 1 ∨ k = 2 ∨ k = 3 ∨ k = 4 ∨ k = 5 := by omega
      rcases this with rfl | rfl | rfl | rfl | rfl | rfl
      · exact ⟨1, by decide, rfl⟩
      · exact ⟨1, by decide, rfl⟩
      · exact ⟨1, by decide, rfl⟩
      · exact ⟨2, by decide, rfl⟩
      · exact ⟨2, by decide, rfl⟩
      · exact ⟨_, by decide, rfl⟩
    obtain ⟨cnt, c1, hat2⟩ := hat2
    have hll : (es.map shD).length < 100000 := by rw [List.length_map]; omega
    walk_at "go"
    refine hN _ ⟨es ++ [(w, h, cnt)], _, _, by rw [List.map_append]; rfl, by simp [hl], fun e he => ?_⟩
    rcases List.mem_append.mp he with he | he
    · exact hE e he
    · cases List.mem_singleton.mp he
      exact ⟨⟨w1, w2⟩, ⟨h1, h2⟩, c1⟩
  · rintro δ2 ⟨es, x, y, rfl, hl, hE⟩
    walk_at "go"
    by_cases c1 : how = 1
    · rw [if_pos (by simpa using c1)]
      cases es with
      | nil => simp at hl; omega
      | cons e es =>
        obtain ⟨e1, e2, e3⟩ := hE e (List.mem_cons_self ..)
        have hat0 : atI ((e :: es).map shD) 0 = some (shD e) := by rw [List.map_cons]; exact e_at0
        walk_at "go"
        refine k_take (by decide) fun k k0 k1 => ?_
        have hb : SideOk 999999999999 := .inr rfl
        have hat3 : ∃ e', EOk e' ∧ atI [D.tup [.int 999999999999, .int e.2.1, .int 1], D.tup [.int e.1, .int 999999999999, .int 2]] k = some (shD e') := by
          have : k = 0 ∨ k = 1 := by omega
          rcases this with rfl | rfl
          · exact ⟨(999999999999, e.2.1, 1), ⟨hb, .inl e2, Int.le_refl _, .inr e2.2⟩, rfl⟩
          · exact ⟨(e.1, 999999999999, 2), ⟨.inl e1, hb, by show (1 : Int) ≤ 2; decide, .inl e1.2⟩, rfl⟩
        obtain ⟨e', he', hat3⟩ := hat3
        walk_at "go"
        refine c_setI2 (by rfl) (j := 0) ?_ ?_
        · unfold ixN
          rw [if_pos (by omega), if_pos (by simp)]
          rfl
        · refine last (e' :: es) _ (by rfl) (by rfl) ⟨fun x hx => ?_, by simp at hl ⊢; omega⟩
          rcases List.mem_cons.mp hx with rfl | hx
          · exact he'
          · have z := hE x (List.mem_cons_of_mem _ hx)
            exact ⟨.inl z.1, .inl z.2.1, z.2.2, .inl z.1.2⟩
    · rw [if_neg (by simpa using c1)]
      walk_at "go"
      exact ⟨rfl, q es ⟨fun x hx => by
        have z := hE x hx
        exact ⟨.inl z.1, .inl z.2.1, z.2.2, .inl z.1.2⟩, by omega⟩⟩
theorem sgn {A B g t : Int} (hg : 0 < g) (ht : 0 < t) (e : A * g = B * t) : 0 ≤ A ↔ 0 ≤ B := by
  constructor
  · intro h
    have := Int.mul_nonneg h (Int.le_of_lt hg)
    rw [e] at this
    exact Int.le_of_mul_le_mul_right (by rw [Int.zero_mul]; exact this) ht
  · intro h
    have := Int.mul_nonneg h (Int.le_of_lt ht)
    rw [← e] at this
    exact Int.le_of_mul_le_mul_right (by rw [Int.zero_mul]; exact this) hg
theorem far_1 {t X px z : Int} (ht : TOk t) : z * ((qP t X).2 * t) ≤ (qP t X).1 * t - px * (qP t X).2 ↔ px + z * t ≤ X := by
  have m1 := qP_mul1 (t := t) (X := X)
  have m2 := qP_mul2 (t := t) (X := X)
  have e : ((qP t X).1 * t - px * (qP t X).2 - z * ((qP t X).2 * t)) * gI X t = (X - (px + z * t)) * t := by
    rw [Int.sub_mul, Int.sub_mul, Int.sub_mul, Int.add_mul]
    have e1 : (qP t X).1 * t * gI X t = X * t := by rw [Int.mul_right_comm, m1]
    have e2 : px * (qP t X).2 * gI X t = px * t := by rw [Int.mul_assoc, m2]
    have e3 : z * ((qP t X).2 * t) * gI X t = z * t * t := by
      rw [Int.mul_assoc, Int.mul_right_comm, m2, Int.mul_assoc]
    rw [e1, e2, e3]
    omega
  have := sgn (gI_pos (X := X) ht) (by have := ht.1; omega) e
  omega
theorem far_2 {t X px z : Int} (ht : TOk t) : z * ((qP t X).2 * t) ≤ 0 - ((qP t X).1 * t - px * (qP t X).2) ↔ X + z * t ≤ px := by
  have m1 := qP_mul1 (t := t) (X := X)
  have m2 := qP_mul2 (t := t) (X := X)
  have e : (0 - ((qP t X).1 * t - px * (qP t X).2) - z * ((qP t X).2 * t)) * gI X t = (px - (X + z * t)) * t := by
    rw [Int.sub_mul, Int.sub_mul, Int.sub_mul, Int.sub_mul, Int.add_mul, Int.zero_mul]
    have e1 : (qP t X).1 * t * gI X t = X * t := by rw [Int.mul_right_comm, m1]
    have e2 : px * (qP t X).2 * gI X t = px * t := by rw [Int.mul_assoc, m2]
    have e3 : z * ((qP t X).2 * t) * gI X t = z * t * t := by
      rw [Int.mul_assoc, Int.mul_right_comm, m2, Int.mul_assoc]
    rw [e1, e2, e3]
    omega
  have := sgn (gI_pos (X := X) ht) (by have := ht.1; omega) e
  omega
theorem intsD2 : intsD 0 ((2 : Int)).toNat = [.int 0, .int 1] := rfl
theorem k_quo {t X : Int} {Q : D → Prop} (ht : TOk t) (h : 0 ≤ X) (q : Q (.bl true)) : C_Lquotient [qD t X] Q := ⟨t, X, ht, h, rfl, q⟩
theorem h_Lfits : ∀ ds Q, C_Lfits ds Q → t_Lfits (retE Q) (startD N_Lfits ds) := by
  rintro ds Q ⟨l, st, t, ps, a, b, s, h, X, Y, hS, hF, rfl, q⟩
  have ht := hS.tk
  have hn := hS.nk
  obtain ⟨hk, hs, e, he, h0, h1, i1, i2, i3, i4⟩ := hF.p
  simp only at hk hs he h0 h1 i1 i2 i3 i4
  have hat := st_at hs he
  have hw := szW_at hk
  have hh := szH_at hk
  have hsl : s < st.length := by have := lt_get he; omega
  have eW : (e.1 - szW l a) * t = e.1 * t - szW l a * t := Int.sub_mul ..
  have eH : (e.2.1 - szH l b) * t = e.2.1 * t - szH l b * t := Int.sub_mul ..
  have w0 := szW_pos hS.lk.w hk
  have w1 := szH_pos hS.lk.h hk
  have cw : ∀ z, CM (szW l a) z := fun z => .inl (by omega)
  have ch : ∀ z, CM (szH l b) z := fun z => .inl (by omega)
  rw [sd_Lfits]
  unfold t_Lfits
  walk_at "go"
  rw [if_neg (by simp [isTup])]
  walk_at "go"
  with_reducible refine l_cons ?_
  walk_at "go"
  rw [if_neg (by simp [isInt, isBool]; omega)]
  walk_at "go"
  with_reducible refine l_cons ?_
  walk_at "go"
  rw [if_neg (by simp [isInt, isBool]; omega)]
  walk_at "go"
  with_reducible refine l_nil ?_
  walk_at "go"
  rw [if_neg (by simp; omega)]
  walk_at "go"
  rw [if_neg (by simp; omega)]
  walk_at "go"
  refine k_quo ht i1 ?_
  walk_at "go"
  rw [if_neg (by decide)]
  walk_at "go"
  refine k_quo ht i3 ?_
  walk_at "go"
  rw [if_neg (by decide)]
  walk_at "go"
  rw [intsD2]
  with_reducible refine l_cons ?_
  walk_at "go"
  rw [if_neg (qP_le_whole ht (by rw [eW]; omega))]
  walk_at "go"
  with_reducible refine l_cons ?_
  walk_at "go"
  rw [if_neg (qP_le_whole ht (by rw [eH]; omega))]
  walk_at "go"
  with_reducible refine l_nil ?_
  walk_at "go"
  have body : ∀ p, p ∈ ps → ∀ (x y z u v : Option Cell) (P : DEnds) (N : En → Prop), (∀ x y z u v, N [some (.dat (scD l st t ps)), some (.dat (.tup [.int a, .int b])), some (.dat (.tup [.int s, .int h, qD t X, qD t Y])), some (.dat (pcR p)), some (.dat (.int t)), x, y, z, u, v]) →
      (dIf (dTst (dBin fEqP (dSlT (dVar 3) (dPart (dC (.int 2))) (dPart (dC (.int 4)))) (dSlT (dVar 2) dNoPart (dPart (dC (.int 2))))))
   (dSeq (dAsg (dC (.bl false)) (dgName 7))
  (dSeq (dFor (dRng1 (dCons (dC (.int 2)) dNil)) (dgName 5)
   (dSeq (dAsg (dBin fSub (dBin fMul (dBin fIx (dBin fIx (dVar 2) (dBin fAdd (dC (.int 2)) (dVar 5))) (dC (.int 0))) (dVar 4)) (dBin fMul (dBin fIx (dVar 3) (dBin fAdd (dC (.int 4)) (dVar 5))) (dBin fIx (dBin fIx (dVar 2) (dBin fAdd (dC (.int 2)) (dVar 5))) (dC (.int 1))))) (dgName 8))
  (dSeq (dAsg (dBin fMul (dBin fIx (dBin fIx (dVar 2) (dBin fAdd (dC (.int 2)) (dVar 5))) (dC (.int 1))) (dVar 4)) (dgName 9))
  (dIf (dOr (dTst (dBin fGe (dVar 8) (dBin fMul (dBin fIx (dBin fIx (dBin fIx (dVar 0) (dC (.int 0))) (dVar 5)) (dBin fIx (dVar 3) (dVar 5))) (dVar 9)))) (dTst (dBin fGe (dBin fSub (dC (.int 0)) (dVar 8)) (dBin fMul (dBin fIx (dBin fIx (dBin fIx (dVar 0) (dC (.int 0))) (dVar 5)) (dBin fIx (dVar 1) (dVar 5))) (dVar 9)))))
   (dAsg (dC (.bl true)) (dgName 7))
   dNext))))
  (dIf (dNot (dTst (dVar 7)))
   (dRet (dC (.bl false)))
   dNext)))
   dNext) { nx := N, rt := P.rt, bk := P.nx, ct := N } [some (.dat (scD l st t ps)), some (.dat (.tup [.int a, .int b])), some (.dat (.tup [.int s, .int h, qD t X, qD t Y])), some (.dat (pcR p)), some (.dat (.int t)), x, y, z, u, v] := by
    intro p hp x y z u v P N hN
    have hkp := (hS.pk p hp).k
    have hwp := szW_at hkp
    have hhp := szH_at hkp
    have wp := szW_pos hS.lk.w hkp
    have hpp := szH_pos hS.lk.h hkp
    have cwp : ∀ z, CM (szW l p.a) z := fun z => .inl (by omega)
    have chp : ∀ z, CM (szH l p.b) z := fun z => .inl (by omega)
    have cs1 := cw ((qP t X).2 * t)
    have cs2 := ch ((qP t Y).2 * t)
    have cs3 := cwp ((qP t X).2 * t)
    have cs4 := chp ((qP t Y).2 * t)
    have hov := hF.d p hp
    walk_at "go"
    by_cases c : p.s = s ∧ p.h = h
    · rw [if_pos (by simpa using c)]
      have hfree : (p.x + szW l p.a * t ≤ X ∨ X + szW l a * t ≤ p.x) ∨ (p.y + szH l p.b * t ≤ Y ∨ Y + szH l b * t ≤ p.y) := by
        unfold ovB ovS at hov
        simp [loS, hiS, szS, c.1, c.2] at hov
        omega
      walk_at "go"
      rw [intsD2]
      with_reducible refine l_cons ?_
      walk_at "go"
      by_cases a1 : p.x + szW l p.a * t ≤ X
      · rw [if_pos (by rw [decide_eq_true_iff]; exact (far_1 ht).mpr a1)]
        try rw [if_pos trivial]
        walk_at "go"
        with_reducible refine l_cons ?_
        walk_at "go"
        by_cases b1 : p.y + szH l p.b * t ≤ Y
        · rw [if_pos (by rw [decide_eq_true_iff]; exact (far_1 ht).mpr b1)]
          try rw [if_pos trivial]
          walk_at "go"
          with_reducible refine l_nil ?_
          walk_at "go"
          rw [if_neg (by decide)]
          walk_at "go"
          exact hN _ _ _ _ _
        rw [if_neg (by rw [decide_eq_true_iff]; exact fun z => b1 ((far_1 ht).mp z))]
        walk_at "go"
        by_cases b2 : Y + szH l b * t ≤ p.y
        · rw [if_pos (by rw [decide_eq_true_iff]; exact (far_2 ht).mpr b2)]
          walk_at "go"
          with_reducible refine l_nil ?_
          walk_at "go"
          rw [if_neg (by decide)]
          walk_at "go"
          exact hN _ _ _ _ _
        rw [if_neg (by rw [decide_eq_true_iff]; exact fun z => b2 ((far_2 ht).mp z))]
        walk_at "go"
        with_reducible refine l_nil ?_
        walk_at "go"
        rw [if_neg (by decide)]
        walk_at "go"
        exact hN _ _ _ _ _
      rw [if_neg (by rw [decide_eq_true_iff]; exact fun z => a1 ((far_1 ht).mp z))]
      walk_at "go"
      by_cases a2 : X + szW l a * t ≤ p.x
      · rw [if_pos (by rw [decide_eq_true_iff]; exact (far_2 ht).mpr a2)]
        walk_at "go"
        with_reducible refine l_cons ?_
        walk_at "go"
        by_cases b1 : p.y + szH l p.b * t ≤ Y
        · rw [if_pos (by rw [decide_eq_true_iff]; exact (far_1 ht).mpr b1)]
          try rw [if_pos trivial]
          walk_at "go"
          with_reducible refine l_nil ?_
          walk_at "go"
          rw [if_neg (by decide)]
          walk_at "go"
          exact hN _ _ _ _ _
        rw [if_neg (by rw [decide_eq_true_iff]; exact fun z => b1 ((far_1 ht).mp z))]
        walk_at "go"
        by_cases b2 : Y + szH l b * t ≤ p.y
        · rw [if_pos (by rw [decide_eq_true_iff]; exact (far_2 ht).mpr b2)]
          walk_at "go"
          with_reducible refine l_nil ?_
          walk_at "go"
          rw [if_neg (by decide)]
          walk_at "go"
          exact hN _ _ _ _ _
        rw [if_neg (by rw [decide_eq_true_iff]; exact fun z => b2 ((far_2 ht).mp z))]
        walk_at "go"
        with_reducible refine l_nil ?_
        walk_at "go"
        rw [if_neg (by decide)]
        walk_at "go"
        exact hN _ _ _ _ _
      rw [if_neg (by rw [decide_eq_true_iff]; exact fun z => a2 ((far_2 ht).mp z))]
      walk_at "go"
      with_reducible refine l_cons ?_
      walk_at "go"
      by_cases b1 : p.y + szH l p.b * t ≤ Y
      · rw [if_pos (by rw [decide_eq_true_iff]; exact (far_1 ht).mpr b1)]
        try rw [if_pos trivial]
        walk_at "go"
        with_reducible refine l_nil ?_
        walk_at "go"
        rw [if_neg (by decide)]
        walk_at "go"
        exact hN _ _ _ _ _
      rw [if_neg (by rw [decide_eq_true_iff]; exact fun z => b1 ((far_1 ht).mp z))]
      walk_at "go"
      by_cases b2 : Y + szH l b * t ≤ p.y
      · rw [if_pos (by rw [decide_eq_true_iff]; exact (far_2 ht).mpr b2)]
        walk_at "go"
        with_reducible refine l_nil ?_
        walk_at "go"
        rw [if_neg (by decide)]
        walk_at "go"
        exact hN _ _ _ _ _
      rw [if_neg (by rw [decide_eq_true_iff]; exact fun z => b2 ((far_2 ht).mp z))]
      walk_at "go"
      omega
    · rw [if_neg (by simpa using c)]
      walk_at "go"
      exact hN _ _ _ _ _
  refine l_N ps pcR (fun n δ => ∃ (w x y z u v : Option Cell), δ = [some (.dat (scD l st t ps)), some (.dat (.tup [.int a, .int b])), some (.dat (.tup [.int s, .int h, qD t X, qD t Y])), w, some (.dat (.int t)), x, y, z, u, v]) ?_ ?_ ?_
  · exact ⟨_, _, _, _, _, _, rfl⟩
  · rintro n p δ2 N hp ⟨w, x, y, z, u, v, rfl⟩ hN
    exact body p (List.mem_of_getElem? hp) x y z u v _ N fun x y z u v => hN _ ⟨_, _, _, _, _, _, rfl⟩
  · rintro δ2 ⟨w, x, y, z, u, v, rfl⟩
    walk_at "go"
    exact q
def rS (l : Ls) (sd : Int) : List Int := if sd = 0 then l.w else l.h
def kS (p : Pc) (sd : Int) : Int := if sd = 0 then p.a else p.b
theorem nodup_len : ∀ (l m : List Int), l.Nodup → (∀ x, x ∈ l → x ∈ m) → l.length ≤ m.length
  | [], _, _, _ => Nat.zero_le _
  | a :: l, m, hn, hs => by
    obtain ⟨h1, h2⟩ := List.nodup_cons.mp hn
    have ha := hs a (List.mem_cons_self ..)
    have := nodup_len l (m.erase a) h2 fun x hx => (List.mem_erase_of_ne (fun z => h1 (by rw [← z]; exact hx))).mpr (hs x (List.mem_cons_of_mem _ hx))
    rw [List.length_erase_of_mem ha] at this
    have := List.length_pos_of_mem ha
    rw [List.length_cons]
    omega
theorem atI_last {α : Type} {xs : List α} {x : α} : atI (xs ++ [x]) (-1) = some x := by
  unfold atI ixN
  rw [if_neg (by omega), if_pos (by simp; omega)]
  have e : ((((xs ++ [x]).length : Nat) : Int) + -1).toNat = xs.length := by simp only [List.length_append, List.length_cons, List.length_nil]; omega
  show (xs ++ [x])[((((xs ++ [x]).length : Nat) : Int) + -1).toNat]? = _
  rw [e]
  simp
theorem ixN_last {n : Nat} (h : 0 < n) : ixN n (-1) = some (n - 1) := by
  unfold ixN
  rw [if_neg (by omega), if_pos (by omega)]
  congr 1
  omega
theorem h_Lclear : ∀ ds Q, C_Lclear ds Q → t_Lclear (retE Q) (startD N_Lclear ds) := by
  rintro ds Q ⟨l, st, t, ps, s, h, e, sd, hS, hs, he, h0, h1, hsd, rfl, q⟩
  have ht := hS.tk
  have ht1 := ht.1
  have hn := hS.nk
  have hat := st_at hs he
  have pat : ∀ p : Pc, atI [D.int p.a, D.int p.b, D.int p.s, D.int p.h, D.int p.x, D.int p.y] (4 + sd) = some (.int (loS p sd)) := fun p => by
    rcases hsd with rfl | rfl <;> rfl
  have pat2 : ∀ p : Pc, atI [D.int p.a, D.int p.b, D.int p.s, D.int p.h, D.int p.x, D.int p.y] sd = some (.int (kS p sd)) := fun p => by
    rcases hsd with rfl | rfl <;> rfl
  have lat : atI [rowD l.w, rowD l.h] sd = some (rowD (rS l sd)) := by
    rcases hsd with rfl | rfl <;> rfl
  have sat : ∀ p : Pc, KOk l p.a p.b → atI ((rS l sd).map D.int) (kS p sd) = some (.int (szS l p sd)) := fun p hk => by
    rcases hsd with rfl | rfl
    · exact szW_at hk
    · exact szH_at hk
  have eat : atI [D.int e.1, D.int e.2.1, D.int e.2.2] sd = some (.int (eS e sd)) := by
    rcases hsd with rfl | rfl <;> rfl
  have hstr : ∀ g, g ∈ strOf l t ps s h sd → 0 ≤ g.1 ∧ g.1 < g.2 ∧ g.2 ≤ eS e sd * t := by
    intro g hg
    unfold strOf at hg
    obtain ⟨p, hp, rfl⟩ := List.mem_map.mp hg
    obtain ⟨hp1, hp2⟩ := List.mem_filter.mp hp
    have hs2 := (onSh_iff.mp hp2).1
    have hP := hS.pk p hp1
    obtain ⟨_, g1, g2, g3, g4⟩ := hP.pos hS.lk ht
    obtain ⟨_, _, e', he', _, _, i1, i2, i3, i4⟩ := hP
    rw [hs2, he] at he'
    cases he'
    rcases hsd with rfl | rfl
    · exact ⟨g3, g1, i2⟩
    · exact ⟨g4, g2, i4⟩
  rw [sd_Lclear]
  unfold t_Lclear
  walk_at "go"
  refine l_N ps pcR (fun n δ => ∃ (x : Option Cell), (x = none ∨ ∃ d, x = some (.dat d)) ∧ δ = [some (.dat (scD l st t ps)), some (.dat (.int s)), some (.dat (.int h)), some (.dat (.int sd)), some (.dat (.int t)), some (.own ((strOf l t (ps.take n) s h sd).map DL.prD)), x, none, none, none, none]) ?_ ?_ ?_
  · exact ⟨_, .inl rfl, rfl⟩
  · rintro n p δ2 N hp ⟨x, hx, rfl⟩ hN
    obtain ⟨hnl, rfl⟩ := List.getElem?_eq_some_iff.mp hp
    have p1 := pat ps[n]
    have p2 := pat2 ps[n]
    have p3 := sat ps[n] (hS.pk _ (List.getElem_mem hnl)).k
    have hts : ps.take (n + 1) = ps.take n ++ [ps[n]] := by rw [List.take_succ_eq_append_getElem hnl]
    have hlt : ((strOf l t (ps.take n) s h sd).map DL.prD).length < 100000 := by
      unfold strOf
      rw [List.length_map, List.length_map]
      have := List.length_filter_le (onSh s h) (ps.take n)
      have := List.length_take_le n ps
      omega
    walk_at "go"
    by_cases c : ps[n].s = s ∧ ps[n].h = h
    · rw [if_pos (by simpa using c)]
      walk_at "go"
      have e1 : (strOf l t (ps.take (n + 1)) s h sd).map DL.prD = (strOf l t (ps.take n) s h sd).map DL.prD ++ [DL.prD (loS ps[n] sd, hiS l t ps[n] sd)] := by
        unfold strOf
        rw [hts, List.filter_append, List.map_append, List.map_append]
        have : List.filter (onSh s h) [ps[n]] = [ps[n]] := by rw [List.filter_cons, if_pos (onSh_iff.mpr c)]; rfl
        rw [this]
        rfl
      refine hN _ ⟨some (.dat (pcR ps[n])), .inr ⟨_, rfl⟩, ?_⟩
      rw [e1]
      rfl
    · rw [if_neg (by simpa using c)]
      walk_at "go"
      have e1 : strOf l t (ps.take (n + 1)) s h sd = strOf l t (ps.take n) s h sd := by
        unfold strOf
        rw [hts, List.filter_append]
        have : List.filter (onSh s h) [ps[n]] = [] := by rw [List.filter_cons, if_neg (fun z => c (onSh_iff.mp z))]; rfl
        rw [this, List.append_nil]
      refine hN _ ⟨some (.dat (pcR ps[n])), .inr ⟨_, rfl⟩, ?_⟩
      rw [e1]
  rintro δ2 ⟨x, hx, rfl⟩
  rw [List.take_length]
  have hMl : (strOf l t ps s h sd).length ≤ 14 := by
    unfold strOf
    rw [List.length_map]
    exact hS.ck s h
  generalize strOf l t ps s h sd = M at hstr q hMl
  walk_at "go"
  refine c_map M DL.prD (fun g => .int g.1) (by rfl) (by omega) ?_ ?_
  · intro g hg
    walk_at "wp"
    walk_at "ev"
  walk_at "go"
  refine c_map M DL.prD (fun g => .int g.2) (by rfl) (by omega) ?_ ?_
  · intro g hg
    walk_at "wp"
    walk_at "ev"
  have ens : [D.int 0, D.int (eS e sd * t)] ++ M.map (fun g => D.int g.1) ++ M.map (fun g => D.int g.2) = ([0, eS e sd * t] ++ M.map (fun g => g.1) ++ M.map (fun g => g.2)).map D.int := by
    rw [List.map_append, List.map_append, List.map_map, List.map_map]
    rfl
  walk_at "go"
  refine c_sortSet ([0, eS e sd * t] ++ M.map (fun g => g.1) ++ M.map (fun g => g.2)) (by rw [← ens]; rfl) (by simp; omega) ?_
  intro E es1 es2
  have hmem : ∀ k, k ∈ E ↔ (k = 0 ∨ k = eS e sd * t) ∨ (∃ g, g ∈ M ∧ g.1 = k) ∨ ∃ g, g ∈ M ∧ g.2 = k := fun k => by
    rw [es2]
    simp only [List.mem_append, List.mem_cons, List.not_mem_nil, or_false, List.mem_map]
    rw [or_assoc]
  have hL0 : 0 ≤ eS e sd * t := by
    have hE := hS.sk.1 e (List.mem_of_getElem? he)
    have b : ∀ n, SideOk n → 0 ≤ n := fun n h => by
      rcases h with h | h
      · omega
      · rw [h]; decide
    have : 0 ≤ eS e sd := by
      rcases hsd with rfl | rfl
      · exact b _ hE.1
      · exact b _ hE.2.1
    exact Int.mul_nonneg this (by omega)
  have hb : ∀ k, k ∈ E → 0 ≤ k ∧ k ≤ eS e sd * t := fun k hk => by
    rcases (hmem k).mp hk with (rfl | rfl) | ⟨g, hg, rfl⟩ | ⟨g, hg, rfl⟩
    · exact ⟨Int.le_refl _, hL0⟩
    · exact ⟨hL0, Int.le_refl _⟩
    · have := hstr g hg; omega
    · have := hstr g hg; omega
  obtain ⟨hE0, eE0⟩ := el_first es1 ((hmem 0).mpr (.inl (.inl rfl))) fun x hx => (hb x hx).1
  obtain ⟨hEl, eEl⟩ := el_last es1 ((hmem _).mpr (.inl (.inr rfl))) fun x hx => (hb x hx).2
  have hm1 : ∀ g, g ∈ M → g.1 ∈ E := fun g hg => (hmem _).mpr (.inr (.inl ⟨g, hg, rfl⟩))
  have hm2 : ∀ g, g ∈ M → g.2 ∈ E := fun g hg => (hmem _).mpr (.inr (.inr ⟨g, hg, rfl⟩))
  have hElen : E.length ≤ 100 := by
    have h1 : E.length ≤ ([0, eS e sd * t] ++ M.map (fun g => g.1) ++ M.map (fun g => g.2)).length := nodup_len _ _ (es1.imp fun h => Int.ne_of_lt h) fun k hk => (es2 k).mp hk
    simp at h1
    omega
  walk_at "go"
  have em : (((E.map D.int).length : Nat) - 1 : Int).toNat = E.length - 1 := by rw [List.length_map]; omega
  rw [em]
  refine l_R (fun n δ => ∃ (T : List (Int × Int)) (x y : Option Cell), (x = none ∨ ∃ d, x = some (.dat d)) ∧ δ = [some (.dat (scD l st t ps)), some (.dat (.int s)), some (.dat (.int h)), some (.dat (.int sd)), some (.dat (.int t)), some (.dat (.lst (M.map DL.prD))), x, some (.own (E.map D.int)), some (.own (T.map DL.prD)), y, none] ∧ T.length ≤ n ∧ TI M T (E.getD n 0)) ?_ ?_ ?_
  · refine ⟨[], _, _, hx, rfl, Nat.le_refl _, ⟨fun g hg => (List.not_mem_nil hg).elim, List.Pairwise.nil, fun c => ?_⟩⟩
    have : E.getD 0 0 = 0 := by simp [List.getD, List.getElem?_eq_getElem hE0, eE0]
    rw [this]
    constructor
    · rintro ⟨g, hg, _⟩; exact (List.not_mem_nil hg).elim
    · rintro ⟨h1, h2, _⟩; omega
  · rintro n δ2 N hn ⟨T, x, y, hx, rfl, hT, hI⟩ hN
    have hn1 : n + 1 < E.length := by omega
    have hn0 : n < E.length := by omega
    have d0 : E.getD n 0 = E[n] := by simp [List.getD, List.getElem?_eq_getElem hn0]
    have d1 : E.getD (n + 1) 0 = E[n + 1] := by simp [List.getD, List.getElem?_eq_getElem hn1]
    have hat0 : atI (E.map D.int) (n : Int) = some (.int E[n]) := map_at (List.getElem?_eq_getElem hn0)
    have hat1 : atI (E.map D.int) ((n : Int) + 1) = some (.int E[n + 1]) := map_at (n := n + 1) (List.getElem?_eq_getElem hn1)
    have hlt := (inc_lt es1 hn0 hn1).mpr (by omega)
    have hge := (hb _ (List.getElem_mem hn0)).1
    have cell : ∀ g, g ∈ M → ∀ c, E[n] ≤ c → c < E[n + 1] → ((g.1 ≤ c ∧ c < g.2) ↔ (g.1 ≤ E[n] ∧ E[n + 1] ≤ g.2)) := fun g hg c c1 c2 => el_cell es1 hn1 (hm1 g hg) (hm2 g hg) c1 c2
    rw [d0] at hI
    have hIn : ∀ T', TI M T' E[n + 1] → TI M T' (E.getD (n + 1) 0) := fun T' h => by rw [d1]; exact h
    generalize E[n] = A at *
    generalize E[n + 1] = Z at *
    rw [Int.zero_add]
    walk_at "go"
    refine c_fil M DL.prD (fun _ => .int 1) (fun g => decide (g.1 ≤ A) && decide (Z ≤ g.2)) (by rfl) (by omega) ?_ ?_
    · intro g hg
      walk_at "wp"
      constructor
      · intro Q q
        walk_at "es"
        by_cases c1 : g.1 ≤ A
        · rw [if_pos (by simpa using c1)]
          walk_at "es"
          simpa [c1] using q
        · rw [if_neg (by simpa using c1)]
          simpa [c1] using q
      · intro _
        walk_at "ev"
    walk_at "go"
    by_cases c : ∃ g, g ∈ M ∧ g.1 ≤ A ∧ Z ≤ g.2
    · obtain ⟨g, hg, c1, c2⟩ := c
      have hne : ((List.filter (fun g : Int × Int => decide (g.1 ≤ A) && decide (Z ≤ g.2)) M).map fun _ => D.int 1).length ≠ 0 := by
        rw [List.length_map]
        have := List.length_pos_of_mem (show g ∈ List.filter (fun g : Int × Int => decide (g.1 ≤ A) && decide (Z ≤ g.2)) M from List.mem_filter.mpr ⟨hg, by simp [c1, c2]⟩)
        omega
      rw [if_neg (by rw [decide_eq_true_iff]; omega)]
      walk_at "go"
      exact hN _ ⟨T, _, _, hx, rfl, by omega, hIn _ (hI.skip hlt fun k k1 k2 => ⟨g, hg, (cell g hg k k1 k2).mpr ⟨c1, c2⟩⟩)⟩
    · have hee : ((List.filter (fun g : Int × Int => decide (g.1 ≤ A) && decide (Z ≤ g.2)) M).map fun _ => D.int 1).length = 0 := by
        rw [List.length_map, List.length_eq_zero_iff, List.filter_eq_nil_iff]
        intro g hg z
        simp at z
        exact c ⟨g, hg, z⟩
      have unc : ∀ k, A ≤ k → k < Z → ∀ g, g ∈ M → ¬ (g.1 ≤ k ∧ k < g.2) := fun k k1 k2 g hg z => c ⟨g, hg, (cell g hg k k1 k2).mp z⟩
      rw [if_pos (by rw [decide_eq_true_iff, hee]; rfl)]
      walk_at "go"
      have hTl : (T.map DL.prD).length < 100000 := by rw [List.length_map]; omega
      have app : (∀ g, g ∈ T → g.2 ≠ A) → N [some (.dat (scD l st t ps)), some (.dat (.int s)), some (.dat (.int h)), some (.dat (.int sd)), some (.dat (.int t)), some (.dat (.lst (M.map DL.prD))), x, some (.own (E.map D.int)), some (.own (T.map DL.prD ++ [.tup [.int A, .int Z]])), some (.dat (.int (n : Int))), none] := fun hl =>
        hN _ ⟨T ++ [(A, Z)], _, _, hx, by rw [List.map_append]; rfl, by simp; omega, hIn _ (hI.app hge hlt unc hl)⟩
      rcases List.eq_nil_or_concat T with rfl | ⟨T0, ⟨u, v⟩, rfl⟩
      · rw [if_neg (by simp)]
        walk_at "go"
        exact app fun g hg => (List.not_mem_nil hg).elim
      · rw [List.concat_eq_append] at *
        have hlast : atI ((T0 ++ [(u, v)]).map DL.prD) (-1) = some (.tup [.int u, .int v]) := by rw [List.map_append]; exact atI_last
        rw [if_pos (by simp)]
        walk_at "go"
        by_cases c3 : v = A
        · rw [if_pos (by simpa using c3)]
          walk_at "go"
          refine c_setI2 (by rfl) (j := T0.length) ?_ ?_
          · rw [ixN_last (by simp)]
            simp
          · subst c3
            refine hN _ ⟨T0 ++ [(u, Z)], x, some (.dat (.int (n : Int))), hx, ?_, by simp at hT ⊢; omega, hIn _ (hI.ext hge hlt unc)⟩
            rw [List.map_append, List.map_append, List.set_append_right _ _ (by simp)]
            simp
            rfl
        · rw [if_neg (by simpa using c3)]
          walk_at "go"
          exact app (hI.last c3)
  · rintro δ2 ⟨T, x, y, hx, rfl, hT, hI⟩
    walk_at "go"
    refine c_map T DL.prD (fun g => seD t g.1 g.2) (by rcases hx with rfl | ⟨d, rfl⟩ <;> rfl) (by omega) ?_ ?_
    · intro g hg
      walk_at "wp"
      walk_at "ev"
      assumption
    walk_at "go"
    refine q T ⟨fun g hg => (hI.ne g hg).1, hI.sep, fun c => ?_⟩
    have dl : E.getD (E.length - 1) 0 = eS e sd * t := by simp [List.getD, List.getElem?_eq_getElem hEl, eEl]
    have := hI.eq c
    rw [dl] at this
    exact this
open Classical in
theorem h_Lany : ∀ ds Q, C_Lany ds Q → t_Lany (retE Q) (startD N_Lany ds) := by
  rintro ds Q ⟨l, st, t, ps, a, b, hS, hk, rfl, q⟩
  have ht := hS.tk
  have ht1 := ht.1
  have hn := hS.nk
  have hw := szW_at hk
  have hh := szH_at hk
  have mulle : ∀ {x y : Int}, x * t ≤ y * t → x ≤ y := fun h => Int.le_of_mul_le_mul_right h (by omega)
  have hst := hS.sk.2
  rw [sd_Lany]
  unfold t_Lany
  walk_at "go"
  have em : (((st.map shD).length : Nat) : Int).toNat = st.length := by simp
  rw [em]
  refine l_R (fun n δ => (∃ (x y z u w : Option Cell), δ = [some (.dat (scD l st t ps)), some (.dat (.tup [.int a, .int b])), x, y, z, u, w, none]) ∧ ∀ i : Nat, i < n → ¬ FreeIn l st t ps a b (i : Int)) ?_ ?_ ?_
  · exact ⟨⟨_, _, _, _, _, rfl⟩, fun i hi => absurd hi (Nat.not_lt_zero _)⟩
  · rintro n δ2 N hn' ⟨⟨x, y, z, u, w, rfl⟩, hI⟩ hN
    rw [Int.zero_add]
    have he0 : st[n]? = some st[n] := List.getElem?_eq_getElem hn'
    have he : st[((n : Nat) : Int).toNat]? = some st[n] := by rw [Int.toNat_natCast]; exact he0
    have hat : atI (st.map shD) (n : Int) = some (shD st[n]) := map_at he0
    have fa : ∀ h X Y, FreeAt l st t ps a b (n : Int) h X Y ↔ (0 ≤ h ∧ h < st[n].2.2 ∧ placeFor l t st[n].1 st[n].2.1 a b (ps.filter (onSh (n : Int) h)) X Y) := fun h X Y => freeAt_iff (by omega) he hk
    walk_at "go"
    refine l_N ps pcR (fun k δ => ∃ (us : List Int) (z : Option Cell), δ = [some (.dat (scD l st t ps)), some (.dat (.tup [.int a, .int b])), some (.dat (.int (n : Int))), some (.own (us.map D.int)), z, u, w, none] ∧ us.length ≤ k ∧ us.Nodup ∧ ∀ h, h ∈ us ↔ ∃ i p, i < k ∧ ps[i]? = some p ∧ p.s = (n : Int) ∧ p.h = h) ?_ ?_ ?_
    · exact ⟨[], _, rfl, Nat.le_refl _, List.nodup_nil, fun h => ⟨fun z => (List.not_mem_nil z).elim, fun ⟨i, p, hi, _⟩ => absurd hi (Nat.not_lt_zero _)⟩⟩
    · rintro k p δ3 N2 hp ⟨us, z, rfl, hul, hnd, hus⟩ hN2
      have hkl := lt_get hp
      have hul2 : (us.map D.int).length < 100000 := by rw [List.length_map]; omega
      have keep : ¬ (p.s = (n : Int) ∧ p.h ∉ us) → ∀ h, h ∈ us ↔ ∃ i p, i < k + 1 ∧ ps[i]? = some p ∧ p.s = (n : Int) ∧ p.h = h := fun c h => by
        rw [hus h]
        constructor
        · rintro ⟨i, p', h1, h2⟩; exact ⟨i, p', by omega, h2⟩
        · rintro ⟨i, p', h1, h2, h3, h4⟩
          by_cases e : i = k
          · subst e
            rw [hp] at h2
            cases h2
            by_cases c2 : p.h ∈ us
            · rw [← h4]; exact (hus p.h).mp c2
            · exact absurd ⟨h3, c2⟩ c
          · exact ⟨i, p', by omega, h2, h3, h4⟩
      walk_at "go"
      by_cases c1 : p.s = (n : Int)
      · rw [if_pos (by simpa using c1)]
        walk_at "go"
        refine c_notInI us (by rfl) ?_
        walk_at "go"
        by_cases c2 : p.h ∈ us
        · rw [if_neg (by simp [c2])]
          walk_at "go"
          exact hN2 _ ⟨us, _, rfl, by omega, hnd, keep fun z => z.2 c2⟩
        · rw [if_pos (by simp [c2])]
          walk_at "go"
          refine hN2 _ ⟨us ++ [p.h], _, by rw [List.map_append]; rfl, by simp; omega, ?_, fun h => ?_⟩
          · rw [List.nodup_append]
            refine ⟨hnd, List.pairwise_singleton _ _, fun x hx y hy e => ?_⟩
            cases List.mem_singleton.mp hy
            subst e
            exact c2 hx
          · rw [List.mem_append, hus h]
            constructor
            · rintro (⟨i, p', h1, h2⟩ | h1)
              · exact ⟨i, p', by omega, h2⟩
              · cases List.mem_singleton.mp h1
                exact ⟨k, p, by omega, hp, c1, rfl⟩
            · rintro ⟨i, p', h1, h2, h3, h4⟩
              by_cases e : i = k
              · subst e
                rw [hp] at h2
                cases h2
                exact .inr (List.mem_singleton.mpr h4.symm)
              · exact .inl ⟨i, p', by omega, h2, h3, h4⟩
      · rw [if_neg (by simpa using c1)]
        walk_at "go"
        exact hN2 _ ⟨us, _, rfl, by omega, hnd, keep fun z => c1 z.1⟩
    · rintro δ3 ⟨us, z, rfl, hul, hnd, hus'⟩
      have hus : ∀ h, h ∈ us ↔ ∃ p, p ∈ ps ∧ p.s = (n : Int) ∧ p.h = h := fun h => by
        rw [hus' h]
        constructor
        · rintro ⟨i, p, _, h1, h2⟩; exact ⟨p, List.mem_of_getElem? h1, h2⟩
        · rintro ⟨p, h1, h2⟩
          obtain ⟨i, h3, h4⟩ := List.getElem_of_mem h1
          exact ⟨i, p, h3, by rw [List.getElem?_eq_getElem h3, h4], h2⟩
      have hus0 : ∀ h, h ∈ us → 0 ≤ h ∧ h < st[n].2.2 := fun h hh => by
        obtain ⟨p, hp, h1, rfl⟩ := (hus h).mp hh
        obtain ⟨_, _, e', he', h0, h2, _⟩ := hS.pk p hp
        rw [h1, he] at he'
        cases he'
        exact ⟨h0, h2⟩
      generalize st[n] = e at *
      have fin : ∀ f : Bool, (f = true ↔ szW l a ≤ e.1 ∧ szH l b ≤ e.2.1) → (dSeq (dIf (dAnd (dTst (dVar 6)) (dTst (dBin fLt (dUn fLen (dVar 3)) (dBin fIx (dVar 5) (dC (.int 2))))))
   (dRet (dC (.bl true)))
   dNext)
  (dIf (dTst (dBin fGt (dUn fLen (dFrz (dLc (dSrcL (dVar 3)) (dgName 7) (dTst (dCall C_Lopen (dCons (dVar 0) (dCons (dVar 1) (dCons (dVar 2) (dCons (dVar 7) dNil)))))) (dC (.int 1)) [7]))) (dC (.int 0))))
   (dRet (dC (.bl true)))
   dNext)) { nx := N, rt := fun d _ => Q d, bk := fun _ => True, ct := N } [some (.dat (scD l st t ps)), some (.dat (.tup [.int a, .int b])), some (.dat (.int (n : Int))), some (.own (us.map D.int)), z, some (.dat (shD e)), some (.dat (.bl f)), none] := by
        intro f hf
        have yes : FreeIn l st t ps a b (n : Int) → Q (.bl true) := fun ⟨h, X, Y, hF⟩ => by
          rw [decide_eq_true (show Free l st t ps a b from ⟨_, h, X, Y, hF⟩)] at q
          exact q
        walk_at "go"
        by_cases c : f = true ∧ (us.length : Int) < e.2.2
        · have hff := hf.mp c.1
          have c2 := c.2
          rw [if_pos (by simp [c.1]; exact c2)]
          walk_at "go"
          obtain ⟨m, m0, m1, m2⟩ := spare us
          refine yes ⟨m, 0, 0, (fa m 0 0).mpr ⟨m0, by omega, Int.le_refl _, ?_, Int.le_refl _, ?_, fun p hp => ?_⟩⟩
          · have := Int.mul_le_mul_of_nonneg_right hff.1 (show 0 ≤ t by omega)
            omega
          · have := Int.mul_le_mul_of_nonneg_right hff.2 (show 0 ≤ t by omega)
            omega
          · obtain ⟨hp1, hp2⟩ := List.mem_filter.mp hp
            obtain ⟨g1, g2⟩ := onSh_iff.mp hp2
            exact absurd ((hus m).mpr ⟨p, hp1, g1, g2⟩) m2
        · rw [if_neg (by
            simp
            intro z
            have : ¬ ((us.length : Int) < e.2.2) := fun w => c ⟨z, w⟩
            omega)]
          walk_at "go"
          have hul2 : us.length ≤ 58 := by omega
          refine c_fil us D.int (fun _ => .int 1) (fun h => decide (∃ X Y, FreeAt l st t ps a b (n : Int) h X Y)) (by rfl) (by omega) ?_ ?_
          · intro h hh
            have h0 := hus0 h hh
            walk_at "wp"
            constructor
            · intro Q q
              walk_at "es"
              exact ⟨l, st, t, ps, a, b, (n : Int), h, e, hS, hk, by omega, he, h0.1, h0.2, rfl, q⟩
            · intro _
              walk_at "ev"
          walk_at "go"
          by_cases c3 : ∃ h, h ∈ us ∧ ∃ X Y, FreeAt l st t ps a b (n : Int) h X Y
          · obtain ⟨h, hh, X, Y, hF⟩ := c3
            rw [if_pos (by
              rw [decide_eq_true_iff, List.length_map]
              have := List.length_pos_of_mem (show h ∈ List.filter (fun h => decide (∃ X Y, FreeAt l st t ps a b (n : Int) h X Y)) us from List.mem_filter.mpr ⟨hh, decide_eq_true ⟨X, Y, hF⟩⟩)
              omega)]
            walk_at "go"
            exact yes ⟨h, X, Y, hF⟩
          · rw [if_neg (by
              rw [decide_eq_true_iff, List.length_map]
              have : List.filter (fun h => decide (∃ X Y, FreeAt l st t ps a b (n : Int) h X Y)) us = [] := List.filter_eq_nil_iff.mpr fun h hh z => c3 ⟨h, hh, of_decide_eq_true z⟩
              rw [this]
              simp)]
            walk_at "go"
            refine hN _ ⟨⟨_, _, _, _, _, rfl⟩, fun i hi => ?_⟩
            by_cases ei : i = n
            · subst ei
              rintro ⟨h, X, Y, hF⟩
              have hp := (fa h X Y).mp hF
              obtain ⟨p0, p1, i1, i2, i3, i4, _⟩ := hp
              have f1 := mulle (x := szW l a) (y := e.1) (by omega)
              have f2 := mulle (x := szH l b) (y := e.2.1) (by omega)
              have hl2 : e.2.2 ≤ us.length := by
                have : ¬ ((us.length : Int) < e.2.2) := fun w => c ⟨hf.mpr ⟨f1, f2⟩, w⟩
                omega
              exact c3 ⟨h, full_nd hnd hus0 hl2 p0 p1, X, Y, hF⟩
            · exact hI i (by omega)
      walk_at "go"
      by_cases d1 : szW l a ≤ e.1
      · rw [if_pos (by simpa using d1)]
        refine abs (r := .dat (.bl (decide (szH l b ≤ e.2.1)))) (by walk_at "ev") ?_
        exact fin _ (by simp [d1])
      · rw [if_neg (by simpa using d1)]
        exact fin false (by simp [d1])
  · rintro δ2 ⟨⟨x, y, z, u, w, rfl⟩, hI⟩
    walk_at "go"
    have : ¬ Free l st t ps a b := by
      rintro ⟨s, h, X, Y, hf⟩
      obtain ⟨_, hs, e, he, _⟩ := hf.p
      have hs' : 0 ≤ s := hs
      have he' : st[s.toNat]? = some e := he
      have hlt := lt_get he'
      refine hI s.toNat hlt ⟨h, X, Y, ?_⟩
      have e2 : ((s.toNat : Nat) : Int) = s := by omega
      rw [e2]
      exact hf
    rw [decide_eq_false this] at q
    exact q
theorem big_free {l : Ls} {st : List (Int × Int × Int)} {t : Int} {ps : List Pc} {a b s h : Int} {e : Int × Int × Int} (hS : ScOk l st t ps) (hk : KOk l a b) (hs : 0 ≤ s) (he : st[s.toNat]? = some e) (h0 : 0 ≤ h) (h1 : h < e.2.2) (f1 : szW l a ≤ e.1) (f2 : szH l b ≤ e.2.1) (hb : e.1 = bigN ∨ e.2.1 = bigN) : ∃ X Y, FreeAt l st t ps a b s h X Y := by
  have ht1 := hS.tk.1
  have ht2 := hS.tk.2
  have w0 := szW_pos hS.lk.w hk
  have v0 := szH_pos hS.lk.h hk
  have hn := hS.nk
  have ml : ∀ {x y : Int}, x ≤ y → x * t ≤ y * t := fun h => Int.mul_le_mul_of_nonneg_right h (by omega)
  have hE := hS.sk.1 e (List.mem_of_getElem? he)
  have sz : ∀ p, p ∈ ps → ∀ sd, sd = 0 ∨ sd = 1 → hiS l t p sd - loS p sd ≤ 6 * t := fun p hp sd hsd => by
    have k := (hS.pk p hp).k
    rcases hsd with rfl | rfl
    · have := ml (szW_pos hS.lk.w k).2
      show p.x + szW l p.a * t - p.x ≤ 6 * t
      omega
    · have := ml (szH_pos hS.lk.h k).2
      show p.y + szH l p.b * t - p.y ≤ 6 * t
      omega
  have main : ∀ (sd z : Int), (sd = 0 ∨ sd = 1) → z ≤ 6 * t → ∃ k : Int, 0 ≤ k ∧ k ≤ 58 ∧ ∀ p, p ∈ ps → ¬ (12 * t * k < hiS l t p sd ∧ loS p sd < 12 * t * k + z) := by
    intro sd z hsd hz
    obtain ⟨k, k1, k2⟩ := pigeon (fun (p : Pc) k => 12 * t * k < hiS l t p sd ∧ loS p sd < 12 * t * k + z) ps (zup 59) (fun p hp k k' hk hk' => by
      have := sz p hp sd hsd
      by_cases c1 : k < k'
      · have : 12 * t * (k + 1) ≤ 12 * t * k' := Int.mul_le_mul_of_nonneg_left (by omega) (by omega)
        rw [Int.mul_add] at this
        omega
      · by_cases c2 : k' < k
        · have : 12 * t * (k' + 1) ≤ 12 * t * k := Int.mul_le_mul_of_nonneg_left (by omega) (by omega)
          rw [Int.mul_add] at this
          omega
        · omega) (by rw [zup_len]; omega) (zup_nodup 59)
    have := zup_mem.mp k1
    exact ⟨k, this.1, by omega, k2⟩
  have ov : ∀ X Y, 0 ≤ X → X + szW l a * t ≤ e.1 * t → 0 ≤ Y → Y + szH l b * t ≤ e.2.1 * t → (∀ p, p ∈ ps → ¬ ((X < hiS l t p 0 ∧ loS p 0 < X + szW l a * t) ∧ (Y < hiS l t p 1 ∧ loS p 1 < Y + szH l b * t))) → ∃ X Y, FreeAt l st t ps a b s h X Y := fun X Y i1 i2 i3 i4 i5 =>
    ⟨X, Y, (freeAt_iff hs he hk).mpr ⟨h0, h1, i1, i2, i3, i4, fun p hp => i5 p (List.mem_filter.mp hp).1⟩⟩
  have m1 := ml f1
  have m2 := ml f2
  rcases hb with hb | hb
  · obtain ⟨k, k0, k1, k2⟩ := main 0 (szW l a * t) (.inl rfl) (ml w0.2)
    have kt : 12 * t * k = (12 * k) * t := by rw [Int.mul_assoc, Int.mul_comm t k, Int.mul_assoc]
    refine ov (12 * t * k) 0 (Int.mul_nonneg (by omega) k0) ?_ (Int.le_refl _) (by omega) fun p hp hh => k2 p hp hh.1
    rw [kt, ← Int.add_mul, hb]
    exact ml (by unfold bigN; omega)
  · obtain ⟨k, k0, k1, k2⟩ := main 1 (szH l b * t) (.inr rfl) (ml v0.2)
    have kt : 12 * t * k = (12 * k) * t := by rw [Int.mul_assoc, Int.mul_comm t k, Int.mul_assoc]
    refine ov 0 (12 * t * k) (Int.le_refl _) (by omega) (Int.mul_nonneg (by omega) k0) ?_ fun p hp hh => k2 p hp hh.2
    rw [kt, ← Int.add_mul, hb]
    exact ml (by unfold bigN; omega)
theorem CS_pow {i j : Int} {a : Nat} {k : Nat} (e : i = (a : Int)) (h : a < 2 ^ k) (hk : k < 1000000) (h0 : 0 ≤ j) (h1 : j ≤ 1000000) : CS i j := by
  subst e
  exact ⟨h0, h1, by rw [Int.natAbs_natCast]; exact Nat.lt_trans h (Nat.pow_lt_pow_right (by decide) hk)⟩
theorem k_block {w h c : Int} {Q : D → Prop} (h1 : 0 ≤ w ∧ w ≤ 100) (h2 : 0 ≤ h ∧ h ≤ 100) (h3 : 0 ≤ c ∧ c ≤ 100) (q : Q (.int (blockM w.toNat h.toNat c.toNat : Nat))) : C_Lblock [.int w, .int h, .int c] Q :=
  ⟨w.toNat, h.toNat, c.toNat, by omega, by omega, by omega, by rw [Int.toNat_of_nonneg h1.1, Int.toNat_of_nonneg h2.1, Int.toNat_of_nonneg h3.1], q⟩
theorem cast_shl (a : Nat) (j : Int) : (a : Int) * 2 ^ j.toNat = ((a * 2 ^ j.toNat : Nat) : Int) := by simp
theorem blk_cs {w h c j : Int} (h1 : 0 ≤ w ∧ w ≤ c) (h2 : 0 ≤ h ∧ h ≤ 100) (h3 : c ≤ 100) (j0 : 0 ≤ j) (j1 : j ≤ 1000000) : CS (blockM w.toNat h.toNat c.toNat : Nat) j := by
  refine CS_pow rfl (bm_lt (w := w.toNat) (c := c.toNat) (by omega) h.toNat) ?_ j0 j1
  have : h.toNat * c.toNat ≤ 100 * 100 := Nat.mul_le_mul (by omega) (by omega)
  omega
theorem open_iff {l : Ls} {st : List (Int × Int × Int)} {t : Int} {ps : List Pc} {a b s h : Int} {e : Int × Int × Int} {T : Nat} {X Y : Int} (hS : ScOk l st t ps) (hk : KOk l a b) (hs : 0 ≤ s) (he : st[s.toNat]? = some e) (h0 : 0 ≤ h) (h1 : h < e.2.2)
    (hT : ∀ i, T.testBit i = true ↔ ∃ p, p ∈ ps ∧ onSh s h p = true ∧ rectBit (e.1 * t).toNat p.x p.y (szW l p.a * t) (szH l p.b * t) i) (i1 : 0 ≤ X) (i2 : X + szW l a * t ≤ e.1 * t) (i3 : 0 ≤ Y) (i4 : Y + szH l b * t ≤ e.2.1 * t) :
    (T &&& (blockM (szW l a * t).toNat (szH l b * t).toNat (e.1 * t).toNat * 2 ^ (X + Y * (e.1 * t)).toNat) = 0) ↔ FreeAt l st t ps a b s h X Y := by
  have ht1 := hS.tk.1
  have w0 := szW_pos hS.lk.w hk
  have v0 := szH_pos hS.lk.h hk
  have pw : 0 < szW l a * t := Int.mul_pos (by omega) (by omega)
  have ph : 0 < szH l b * t := Int.mul_pos (by omega) (by omega)
  rw [and_zero, freeAt_iff hs he hk]
  have lap : ∀ p, p ∈ ps → onSh s h p = true → ((∃ i, rectBit (e.1 * t).toNat p.x p.y (szW l p.a * t) (szH l p.b * t) i ∧ rectBit (e.1 * t).toNat X Y (szW l a * t) (szH l b * t) i) ↔ ((X < hiS l t p 0 ∧ loS p 0 < X + szW l a * t) ∧ (Y < hiS l t p 1 ∧ loS p 1 < Y + szH l b * t))) := fun p hp ho => by
    have hP := hS.pk p hp
    have k1 := szW_pos hS.lk.w hP.k
    have k2 := szH_pos hS.lk.h hP.k
    have pw' : 0 < szW l p.a * t := Int.mul_pos (by omega) (by omega)
    have ph' : 0 < szH l p.b * t := Int.mul_pos (by omega) (by omega)
    obtain ⟨_, _, e', he', _, _, q1, q2, q3, q4⟩ := hP
    rw [(onSh_iff.mp ho).1, he] at he'
    cases he'
    rw [rect_lap (by omega) q1 q3 i1 i3 q2 i2 pw' pw ph' ph]
    show _ ↔ ((X < p.x + szW l p.a * t ∧ p.x < X + szW l a * t) ∧ (Y < p.y + szH l p.b * t ∧ p.y < Y + szH l b * t))
    omega
  have hM : ∀ i, (blockM (szW l a * t).toNat (szH l b * t).toNat (e.1 * t).toNat * 2 ^ (X + Y * (e.1 * t)).toNat).testBit i = true ↔ rectBit (e.1 * t).toNat X Y (szW l a * t) (szH l b * t) i := fun i => sh_bit (by omega) i1 i3 (by omega) (by omega) i2
  constructor
  · intro hz
    refine ⟨h0, h1, i1, i2, i3, i4, fun p hp hh => ?_⟩
    obtain ⟨hp1, hp2⟩ := List.mem_filter.mp hp
    obtain ⟨i, r1, r2⟩ := (lap p hp1 hp2).mpr hh
    exact hz i ⟨(hT i).mpr ⟨p, hp1, hp2, r1⟩, (hM i).mpr r2⟩
  · rintro ⟨_, _, _, _, _, _, hd⟩ i ⟨z1, z2⟩
    obtain ⟨p, hp1, hp2, r1⟩ := (hT i).mp z1
    exact hd p (List.mem_filter.mpr ⟨hp1, hp2⟩) ((lap p hp1 hp2).mp ⟨i, r1, (hM i).mp z2⟩)
open Classical in
theorem h_Lopen (bf : ∀ (l : Ls) (st : List (Int × Int × Int)) (t : Int) (ps : List Pc) (a b s h : Int) (e : Int × Int × Int), ScOk l st t ps → KOk l a b → 0 ≤ s → st[s.toNat]? = some e → 0 ≤ h → h < e.2.2 → szW l a ≤ e.1 → szH l b ≤ e.2.1 → (e.1 = bigN ∨ e.2.1 = bigN) → ∃ X Y, FreeAt l st t ps a b s h X Y) :
    ∀ ds Q, C_Lopen ds Q → t_Lopen (retE Q) (startD N_Lopen ds) := by
  rintro ds Q ⟨l, st, t, ps, a, b, s, h, e, hS, hk, hs, he, h0, h1, rfl, q⟩
  have ht := hS.tk
  have ht1 := ht.1
  have ht2 := ht.2
  have hn := hS.nk
  have hat := st_at hs he
  have hw := szW_at hk
  have hh := szH_at hk
  have hE := hS.sk.1 e (List.mem_of_getElem? he)
  have mulle : ∀ {x y : Int}, x * t ≤ y * t → x ≤ y := fun h => Int.le_of_mul_le_mul_right h (by omega)
  have fa : ∀ X Y, FreeAt l st t ps a b s h X Y ↔ (0 ≤ h ∧ h < e.2.2 ∧ placeFor l t e.1 e.2.1 a b (ps.filter (onSh s h)) X Y) := fun X Y => freeAt_iff hs he hk
  have no : ¬ (∃ X Y, FreeAt l st t ps a b s h X Y) → Q (.bl false) := fun z => by rw [decide_eq_false z] at q; exact q
  have yes : (∃ X Y, FreeAt l st t ps a b s h X Y) → Q (.bl true) := fun z => by rw [decide_eq_true z] at q; exact q
  have noF : e.1 < szW l a ∨ e.2.1 < szH l b → ¬ ∃ X Y, FreeAt l st t ps a b s h X Y := by
    rintro c ⟨X, Y, hf⟩
    obtain ⟨_, _, i1, i2, i3, i4, _⟩ := (fa X Y).mp hf
    have := mulle (x := szW l a) (y := e.1) (by omega)
    have := mulle (x := szH l b) (y := e.2.1) (by omega)
    omega
  have w0 := szW_pos hS.lk.w hk
  have v0 := szH_pos hS.lk.h hk
  rw [sd_Lopen]
  unfold t_Lopen
  walk_at "go"
  by_cases c : e.1 < szW l a ∨ e.2.1 < szH l b
  · rw [if_pos (by simpa using c)]
    walk_at "go"
    exact no (noF c)
  rw [if_neg (by simpa using c)]
  walk_at "go"
  have f1 : szW l a ≤ e.1 := by omega
  have f2 : szH l b ≤ e.2.1 := by omega
  by_cases cb : e.1 = bigN ∨ e.2.1 = bigN
  · rw [if_pos (by
      rw [decide_eq_true_iff]
      unfold gMax
      have : bigN = 999999999999 := rfl
      split <;> omega)]
    walk_at "go"
    exact yes (bf l st t ps a b s h e hS hk hs he h0 h1 f1 f2 cb)
  have s1 : 1 ≤ e.1 ∧ e.1 ≤ 14 := by
    rcases hE.1 with h | h
    · exact h
    · exact absurd (.inl h) cb
  have s2 : 1 ≤ e.2.1 ∧ e.2.1 ≤ 14 := by
    rcases hE.2.1 with h | h
    · exact h
    · exact absurd (.inr h) cb
  rw [if_neg (by
    rw [decide_eq_true_iff]
    unfold gMax
    split <;> omega)]
  have mle : ∀ {x y : Int}, x ≤ y → 0 ≤ x → 0 ≤ x * t ∧ x * t ≤ y * t ∧ x * t ≤ 7 * y := fun {x y} h z => by
    have m1 := Int.mul_le_mul_of_nonneg_right h (show 0 ≤ t by omega)
    have m2 : x * t ≤ x * 7 := Int.mul_le_mul_of_nonneg_left ht2 z
    exact ⟨Int.mul_nonneg z (by omega), m1, by omega⟩
  have C1 := mle (show e.1 ≤ 14 by omega) (by omega)
  have H1 := mle (show e.2.1 ≤ 14 by omega) (by omega)
  have W2 := mle f1 (by omega)
  have V2 := mle f2 (by omega)
  have C0 : 0 < e.1 * t := Int.mul_pos (by omega) (by omega)
  have cmc : ∀ z, CM z (e.1 * t) := fun z => .inr (by omega)
  have pj : ∀ x y : Int, 0 ≤ x → x ≤ 98 → 0 ≤ y → y ≤ 98 → 0 ≤ x + y * (e.1 * t) ∧ x + y * (e.1 * t) ≤ 1000000 := fun x y a1 a2 a3 a4 => by
    have m1 : y * (e.1 * t) ≤ 98 * (e.1 * t) := Int.mul_le_mul_of_nonneg_right a4 (by omega)
    have m2 : 0 ≤ y * (e.1 * t) := Int.mul_nonneg a3 (by omega)
    omega
  walk_at "go"
  refine l_N ps pcR (fun n δ => ∃ (T : Nat) (x y : Option Cell), δ = [some (.dat (scD l st t ps)), some (.dat (.tup [.int a, .int b])), some (.dat (.int s)), some (.dat (.int h)), some (.dat (shD e)), some (.dat (lsD l)), some (.dat (.int (szW l a))), some (.dat (.int (szH l b))), some (.dat (.int t)), some (.dat (.int (e.1 * t))), some (.dat (.int (T : Int))), x, y, none, none]
      ∧ ∀ i, T.testBit i = true ↔ ∃ j p, j < n ∧ ps[j]? = some p ∧ onSh s h p = true ∧ rectBit (e.1 * t).toNat p.x p.y (szW l p.a * t) (szH l p.b * t) i) ?_ ?_ ?_
  · refine ⟨0, none, none, rfl, fun i => ?_⟩
    rw [Nat.zero_testBit]
    constructor
    · intro z; cases z
    · rintro ⟨j, p, hj, _⟩; exact absurd hj (Nat.not_lt_zero _)
  · rintro n p δ2 N hp ⟨T, x, y, rfl, hT⟩ hN
    have hpm := List.mem_of_getElem? hp
    have hP := hS.pk p hpm
    have hwp := szW_at hP.k
    have hhp := szH_at hP.k
    have wp := szW_pos hS.lk.w hP.k
    have vp := szH_pos hS.lk.h hP.k
    have cm5 := cmc p.y
    walk_at "go"
    by_cases c2 : p.s = s ∧ p.h = h
    · rw [if_pos (by simpa using c2)]
      obtain ⟨_, _, e', he', _, _, q1, q2, q3, q4⟩ := hP
      rw [c2.1, he] at he'
      cases he'
      have W3 := mle (show szW l p.a ≤ 6 by omega) (by omega)
      have V3 := mle (show szH l p.b ≤ 6 by omega) (by omega)
      have cmw : CM (szW l p.a) t := .inl (by omega)
      have cmh : CM (szH l p.b) t := .inl (by omega)
      have j1 := pj p.x p.y q1 (by omega) q3 (by omega)
      have cs := blk_cs (w := szW l p.a * t) (h := szH l p.b * t) (c := e.1 * t) ⟨by omega, by omega⟩ ⟨by omega, by omega⟩ (by omega) j1.1 j1.2
      walk_at "go"
      refine k_block ⟨by omega, by omega⟩ ⟨by omega, by omega⟩ ⟨by omega, by omega⟩ ?_
      walk_at "go"
      rw [cast_shl, bor_nat]
      refine hN _ ⟨_, _, _, rfl, fun i => ?_⟩
      rw [Nat.testBit_or, Bool.or_eq_true, hT i, sh_bit C0 q1 q3 (by omega) (by omega) q2]
      constructor
      · rintro (⟨j, p', h1, h2⟩ | h1)
        · exact ⟨j, p', by omega, h2⟩
        · exact ⟨n, p, by omega, hp, onSh_iff.mpr c2, h1⟩
      · rintro ⟨j, p', h1, h2, h3, h4⟩
        by_cases ej : j = n
        · subst ej
          rw [hp] at h2
          cases h2
          exact .inr h4
        · exact .inl ⟨j, p', by omega, h2, h3, h4⟩
    · rw [if_neg (by simpa using c2)]
      walk_at "go"
      refine hN _ ⟨T, _, _, rfl, fun i => ?_⟩
      rw [hT i]
      constructor
      · rintro ⟨j, p', h1, h2⟩
        exact ⟨j, p', by omega, h2⟩
      · rintro ⟨j, p', h1, h2, h3, h4⟩
        by_cases ej : j = n
        · subst ej
          rw [hp] at h2
          cases h2
          exact absurd (onSh_iff.mp h3) c2
        · exact ⟨j, p', by omega, h2, h3, h4⟩
  · rintro δ2 ⟨T, x, y, rfl, hT'⟩
    have hT : ∀ i, T.testBit i = true ↔ ∃ p, p ∈ ps ∧ onSh s h p = true ∧ rectBit (e.1 * t).toNat p.x p.y (szW l p.a * t) (szH l p.b * t) i := fun i => by
      rw [hT' i]
      constructor
      · rintro ⟨j, p, _, h1, h2⟩; exact ⟨p, List.mem_of_getElem? h1, h2⟩
      · rintro ⟨p, h1, h2⟩
        obtain ⟨j, h3, h4⟩ := List.getElem_of_mem h1
        exact ⟨j, p, h3, by rw [List.getElem?_eq_getElem h3, h4], h2⟩
    have cmw : CM (szW l a) t := .inl (by omega)
    have cmh : CM (szH l b) t := .inl (by omega)
    have cmr : CM (e.2.1 - szH l b) t := .inl (by omega)
    have cmq : CM (e.1 - szW l a) t := .inl (by omega)
    have eW : (e.1 - szW l a) * t = e.1 * t - szW l a * t := Int.sub_mul ..
    have eH : (e.2.1 - szH l b) * t = e.2.1 * t - szH l b * t := Int.sub_mul ..
    walk_at "go"
    refine k_block ⟨by omega, by omega⟩ ⟨by omega, by omega⟩ ⟨by omega, by omega⟩ ?_
    walk_at "go"
    refine l_R (fun n δ => (∃ (x u v : Option Cell), δ = [some (.dat (scD l st t ps)), some (.dat (.tup [.int a, .int b])), some (.dat (.int s)), some (.dat (.int h)), some (.dat (shD e)), some (.dat (lsD l)), some (.dat (.int (szW l a))), some (.dat (.int (szH l b))), some (.dat (.int t)), some (.dat (.int (e.1 * t))), some (.dat (.int (T : Int))), x, some (.dat (.int (blockM (szW l a * t).toNat (szH l b * t).toNat (e.1 * t).toNat : Nat))), u, v])
      ∧ ∀ (Y X : Int), 0 ≤ Y → Y < n → 0 ≤ X → X ≤ (e.1 - szW l a) * t → ¬ FreeAt l st t ps a b s h X Y) ?_ ?_ ?_
    · exact ⟨⟨_, _, _, rfl⟩, fun Y X y0 y1 => by omega⟩
    · rintro n δ3 N hn3 ⟨⟨x, u, v, rfl⟩, hI⟩ hN
      rw [Int.zero_add]
      walk_at "go"
      refine l_R (fun k δ => (∃ (x v : Option Cell), δ = [some (.dat (scD l st t ps)), some (.dat (.tup [.int a, .int b])), some (.dat (.int s)), some (.dat (.int h)), some (.dat (shD e)), some (.dat (lsD l)), some (.dat (.int (szW l a))), some (.dat (.int (szH l b))), some (.dat (.int t)), some (.dat (.int (e.1 * t))), some (.dat (.int (T : Int))), x, some (.dat (.int (blockM (szW l a * t).toNat (szH l b * t).toNat (e.1 * t).toNat : Nat))), some (.dat (.int (n : Int))), v])
        ∧ ∀ (X : Int), 0 ≤ X → X < k → ¬ FreeAt l st t ps a b s h X (n : Int)) ?_ ?_ ?_
      · exact ⟨⟨_, _, rfl⟩, fun X x0 x1 => by omega⟩
      · rintro k δ4 N2 hk4 ⟨⟨x, v, rfl⟩, hJ⟩ hN2
        rw [Int.zero_add]
        have cm6 := cmc (n : Int)
        have j1 := pj (k : Int) (n : Int) (by omega) (by omega) (by omega) (by omega)
        have cs := blk_cs (w := szW l a * t) (h := szH l b * t) (c := e.1 * t) ⟨by omega, by omega⟩ ⟨by omega, by omega⟩ (by omega) j1.1 j1.2
        have oi := open_iff (X := (k : Int)) (Y := (n : Int)) hS hk hs he h0 h1 hT (by omega) (by omega) (by omega) (by omega)
        walk_at "go"
        rw [cast_shl, band_nat]
        by_cases cz : T &&& (blockM (szW l a * t).toNat (szH l b * t).toNat (e.1 * t).toNat * 2 ^ ((k : Int) + (n : Int) * (e.1 * t)).toNat) = 0
        · rw [if_pos (by rw [cz]; rfl)]
          walk_at "go"
          exact yes ⟨_, _, oi.mp cz⟩
        · rw [if_neg (by rw [decide_eq_true_iff]; exact fun z => cz (by exact_mod_cast z))]
          walk_at "go"
          refine hN2 _ ⟨⟨_, _, rfl⟩, fun X x0 x1 hF => ?_⟩
          by_cases ex : X = k
          · subst ex
            exact cz (oi.mpr hF)
          · exact hJ X x0 (by omega) hF
      · rintro δ4 ⟨⟨x, v, rfl⟩, hJ⟩
        refine hN _ ⟨⟨_, _, _, rfl⟩, fun Y X y0 y1 x0 x1 hF => ?_⟩
        by_cases ey : Y = n
        · subst ey
          exact hJ X x0 (by omega) hF
        · exact hI Y X y0 (by omega) x0 x1 hF
    · rintro δ3 ⟨⟨x, u, v, rfl⟩, hI⟩
      walk_at "go"
      refine no ?_
      rintro ⟨X, Y, hF⟩
      obtain ⟨_, _, i1, i2, i3, i4, _⟩ := (fa X Y).mp hF
      exact hI Y X i3 (by omega) i1 (by omega) hF
theorem rows_div : ∀ r, r ∈ rowsL → ∀ x, x ∈ r → x % r.getD 0 0 = 0 ∧ r.getD 0 0 ≤ x := by decide
theorem row_div {r : List Int} {a : Int} (h : ROk r) (h0 : 0 ≤ a) (h1 : a < r.length) : r.getD a.toNat 0 % r.getD 0 0 = 0 ∧ r.getD 0 0 ≤ r.getD a.toNat 0 := by
  have hl : a.toNat < r.length := by omega
  have e : r.getD a.toNat 0 = r[a.toNat] := by simp [List.getD, List.getElem?_eq_getElem hl]
  rw [e]
  exact rows_div r h _ (List.getElem_mem hl)
/-- pieces on the grid of units -/
structure UI (l : Ls) (cols rows u v : Int) (gs : List Pc) (T : Nat) : Prop where
  k : ∀ g, g ∈ gs → KOk l g.a g.b ∧ g.s = 0 ∧ g.h = 0 ∧ 0 ≤ g.x ∧ g.x + szW l g.a / u ≤ cols ∧ 0 ≤ g.y ∧ g.y + szH l g.b / v ≤ rows
  d : gs.Pairwise fun g o => ¬ ((g.x < o.x + szW l o.a / u ∧ o.x < g.x + szW l g.a / u) ∧ (g.y < o.y + szH l o.b / v ∧ o.y < g.y + szH l g.b / v))
  b : ∀ i, T.testBit i = true ↔ ∃ g, g ∈ gs ∧ rectBit cols.toNat g.x g.y (szW l g.a / u) (szH l g.b / v) i
def upP (u v : Int) (g : Pc) : Pc := ⟨g.a, g.b, 0, 0, g.x * u, g.y * v⟩
theorem ui_add {l : Ls} {cols rows u v : Int} {gs : List Pc} {T : Nat} {a b c r : Int} (hI : UI l cols rows u v gs T) (hk : KOk l a b) (c0 : 0 ≤ c) (c1 : c + szW l a / u ≤ cols) (r0 : 0 ≤ r) (r1 : r + szH l b / v ≤ rows) (pos : ∀ a b, KOk l a b → 0 < szW l a / u ∧ 0 < szH l b / v) (hC : 0 < cols)
    (hz : T &&& (blockM (szW l a / u).toNat (szH l b / v).toNat cols.toNat * 2 ^ (c + r * cols).toNat) = 0) :
    UI l cols rows u v (gs ++ [⟨a, b, 0, 0, c, r⟩]) (T ||| (blockM (szW l a / u).toNat (szH l b / v).toNat cols.toNat * 2 ^ (c + r * cols).toNat)) := by
  have pk := pos a b hk
  have hM : ∀ i, (blockM (szW l a / u).toNat (szH l b / v).toNat cols.toNat * 2 ^ (c + r * cols).toNat).testBit i = true ↔ rectBit cols.toNat c r (szW l a / u) (szH l b / v) i := fun i => sh_bit hC c0 r0 (by omega) (by omega) c1
  refine ⟨fun g hg => ?_, ?_, fun i => ?_⟩
  · rcases List.mem_append.mp hg with hg | hg
    · exact hI.k g hg
    · cases List.mem_singleton.mp hg
      exact ⟨hk, rfl, rfl, c0, c1, r0, r1⟩
  · refine List.pairwise_append.mpr ⟨hI.d, List.pairwise_singleton _ _, fun g hg o ho hh => ?_⟩
    cases List.mem_singleton.mp ho
    obtain ⟨gk, _, _, g1, g2, g3, g4⟩ := hI.k g hg
    have pg := pos g.a g.b gk
    obtain ⟨i, z1, z2⟩ := (rect_lap hC g1 g3 c0 r0 g2 c1 pg.1 pk.1 pg.2 pk.2).mpr hh
    exact and_zero.mp hz i ⟨(hI.b i).mpr ⟨g, hg, z1⟩, (hM i).mpr z2⟩
  · rw [Nat.testBit_or, Bool.or_eq_true, hI.b i, hM i]
    constructor
    · rintro (⟨g, hg, z⟩ | z)
      · exact ⟨g, List.mem_append_left _ hg, z⟩
      · exact ⟨_, List.mem_append_right _ (List.mem_singleton.mpr rfl), z⟩
    · rintro ⟨g, hg, z⟩
      rcases List.mem_append.mp hg with hg | hg
      · exact .inl ⟨g, hg, z⟩
      · cases List.mem_singleton.mp hg
        exact .inr z
theorem ui_fil {l : Ls} {cols rows u v : Int} {gs : List Pc} {T : Nat} {e : Int × Int × Int} (hI : UI l cols rows u v gs T) (hl : gs.length ≤ 14) (hu : 0 < u) (hv : 0 < v) (dw : ∀ a b, KOk l a b → szW l a / u * u = szW l a ∧ szH l b / v * v = szH l b) (hc : cols * u ≤ e.1) (hr : rows * v ≤ e.2.1) : FilOk l e 1 (gs.map (upP u v)) := by
  refine ⟨fun p hp => ?_, ?_, by simpa using hl⟩
  · obtain ⟨g, hg, rfl⟩ := List.mem_map.mp hp
    obtain ⟨gk, _, _, g1, g2, g3, g4⟩ := hI.k g hg
    obtain ⟨d1, d2⟩ := dw g.a g.b gk
    refine ⟨gk, rfl, rfl, ?_, ?_, ?_, ?_⟩
    · exact Int.mul_nonneg g1 (by omega)
    · show g.x * u + szW l g.a * 1 ≤ e.1 * 1
      have := Int.mul_le_mul_of_nonneg_right g2 (show 0 ≤ u by omega)
      rw [Int.add_mul, d1] at this
      omega
    · exact Int.mul_nonneg g3 (by omega)
    · show g.y * v + szH l g.b * 1 ≤ e.2.1 * 1
      have := Int.mul_le_mul_of_nonneg_right g4 (show 0 ≤ v by omega)
      rw [Int.add_mul, d2] at this
      omega
  · unfold Dis
    rw [List.pairwise_map]
    refine List.Pairwise.imp_of_mem ?_ hI.d
    intro g o hg ho hh
    obtain ⟨d1, d2⟩ := dw g.a g.b (hI.k g hg).1
    obtain ⟨d3, d4⟩ := dw o.a o.b (hI.k o ho).1
    have lt : ∀ {x y : Int} (w : Int), 0 < w → (x * w < y * w → x < y) := fun w hw h => Int.lt_of_mul_lt_mul_right h (by omega)
    cases hov : ovB l 1 (upP u v g) (upP u v o) with
    | false => rfl
    | true =>
      unfold ovB ovS at hov
      simp [loS, hiS, szS, upP] at hov
      obtain ⟨⟨z1, z2⟩, z3, z4⟩ := hov
      refine absurd ⟨⟨lt u hu ?_, lt u hu ?_⟩, lt v hv ?_, lt v hv ?_⟩ hh
      · rw [Int.add_mul, d3]; exact z1
      · rw [Int.add_mul, d1]; exact z2
      · rw [Int.add_mul, d4]; exact z3
      · rw [Int.add_mul, d2]; exact z4
theorem row_first' {r : List Int} (h : ROk r) : atI (r.map D.int) 0 = some (.int (r.getD 0 0)) := by
  have : ∀ r, r ∈ rowsL → 1 ≤ r.length := by decide
  have := this r h
  exact row_at (a := 0) (by decide) (by omega)
theorem rows_first : ∀ r, r ∈ rowsL → 1 ≤ r.getD 0 0 ∧ r.getD 0 0 ≤ 2 ∧ 1 ≤ r.length ∧ r.length ≤ 3 := by decide
theorem gMin_le {i j : Int} : gMin i j ≤ i ∧ gMin i j ≤ j := by
  unfold gMin
  split <;> omega
theorem gMin_nn {i j : Int} (h1 : 0 ≤ i) (h2 : 0 ≤ j) : 0 ≤ gMin i j := by
  unfold gMin
  split <;> omega
theorem h_Lfilled : ∀ ds Q, C_Lfilled ds Q → t_Lfilled (retF Q) (startF N_Lfilled ds) := by
  rintro ds Q ⟨l, e, hL, hE, rfl, q⟩
  have hu0 := row_first' hL.w
  have hv0 := row_first' hL.h
  obtain ⟨u1, u2, wl1, wl2⟩ := rows_first _ hL.w
  obtain ⟨v1, v2, hl1, hl2⟩ := rows_first _ hL.h
  have dW : ∀ a b, KOk l a b → szW l a / l.w.getD 0 0 * l.w.getD 0 0 = szW l a ∧ szH l b / l.h.getD 0 0 * l.h.getD 0 0 = szH l b := fun a b hk => by
    have d1 := row_div hL.w hk.1 hk.2.1
    have d2 := row_div hL.h hk.2.2.1 hk.2.2.2
    exact ⟨Int.ediv_mul_cancel (Int.dvd_of_emod_eq_zero d1.1), Int.ediv_mul_cancel (Int.dvd_of_emod_eq_zero d2.1)⟩
  have pos : ∀ a b, KOk l a b → 0 < szW l a / l.w.getD 0 0 ∧ 0 < szH l b / l.h.getD 0 0 := fun a b hk => by
    have d1 := row_div hL.w hk.1 hk.2.1
    have d2 := row_div hL.h hk.2.2.1 hk.2.2.2
    exact ⟨Int.ediv_pos_of_pos_of_dvd (by have := szW_pos hL.w hk; omega) (by omega) (Int.dvd_of_emod_eq_zero d1.1), Int.ediv_pos_of_pos_of_dvd (by have := szH_pos hL.h hk; omega) (by omega) (Int.dvd_of_emod_eq_zero d2.1)⟩
  generalize l.w.getD 0 0 = u at *
  generalize l.h.getD 0 0 = v at *
  have b : ∀ n, SideOk n → 0 ≤ n := fun n h => by
    rcases h with h | h
    · omega
    · rw [h]; decide
  have e0 := b _ hE.1
  have e1 := b _ hE.2.1
  have cdu : ∀ z, CD z u := fun z => ⟨by omega, by omega⟩
  have cdv : ∀ z, CD z v := fun z => ⟨by omega, by omega⟩
  have c20 := gMin_le (i := 20) (j := e.1 / u)
  have r20 := gMin_le (i := 20) (j := e.2.1 / v)
  have c0 := gMin_nn (i := 20) (j := e.1 / u) (by omega) (Int.ediv_nonneg e0 (by omega))
  have r0 := gMin_nn (i := 20) (j := e.2.1 / v) (by omega) (Int.ediv_nonneg e1 (by omega))
  have cu : gMin 20 (e.1 / u) * u ≤ e.1 := by
    have h1 := Int.mul_le_mul_of_nonneg_right c20.2 (show 0 ≤ u by omega)
    have h2 := Int.ediv_mul_le e.1 (show u ≠ 0 by omega)
    omega
  have rv : gMin 20 (e.2.1 / v) * v ≤ e.2.1 := by
    have h1 := Int.mul_le_mul_of_nonneg_right r20.2 (show 0 ≤ v by omega)
    have h2 := Int.ediv_mul_le e.2.1 (show v ≠ 0 by omega)
    omega
  have cd1 := cdu e.1
  have cd2 := cdv e.2.1
  rw [sd_Lfilled]
  unfold t_Lfilled
  walk_at "go"
  generalize gMin 20 (e.1 / u) = cols at *
  generalize gMin 20 (e.2.1 / v) = rows at *
  refine k_take (by decide) fun way w0 w1 => ?_
  walk_at "go"
  refine k_take (by decide) fun many m0 m1 => ?_
  walk_at "go"
  refine l_R (fun n δ => ∃ (gs : List Pc) (T : Nat) (x0 x1 x2 x3 x4 x5 x6 x7 x8 x9 : Option Cell), δ = [some .feed, some (.dat (lsD l)), some (.dat (shD e)), some (.dat (.int cols)), some (.dat (.int rows)), some (.dat (.int (T : Int))), some (.own ((gs.map (upP u v)).map p4D)), some (.dat (.int way)), x0, x1, x2, x3, x4, x5, x6, x7, x8, x9]
      ∧ gs.length < 14 ∧ UI l cols rows u v gs T) ?_ ?_ ?_
  · refine ⟨[], 0, _, _, _, _, _, _, _, _, _, _, rfl, by decide, ⟨fun g hg => (List.not_mem_nil hg).elim, List.Pairwise.nil, fun i => ?_⟩⟩
    rw [Nat.zero_testBit]
    constructor
    · intro z; cases z
    · rintro ⟨g, hg, _⟩; exact (List.not_mem_nil hg).elim
  · rintro n δ2 N hn ⟨gs, T, x0, x1, x2, x3, x4, x5, x6, x7, x8, x9, rfl, hgl, hI⟩ hN
    rw [Int.zero_add]
    walk_at "go"
    refine k_take (by rw [List.length_map]; omega) fun a a0 a1 => ?_
    rw [List.length_map] at a1
    walk_at "go"
    refine k_take (by rw [List.length_map]; omega) fun b b0 b1 => ?_
    rw [List.length_map] at b1
    have hk : KOk l a b := ⟨a0, a1, b0, b1⟩
    have hw := szW_at hk
    have hh := szH_at hk
    have pk := pos a b hk
    have cd3 := cdu (szW l a)
    have cd4 := cdv (szH l b)
    have sw := szW_pos hL.w hk
    have sh := szH_pos hL.h hk
    have dw6 : szW l a / u ≤ 6 := by
      have := Int.ediv_le_self u (show 0 ≤ szW l a by omega)
      omega
    have dh6 : szH l b / v ≤ 6 := by
      have := Int.ediv_le_self v (show 0 ≤ szH l b by omega)
      omega
    walk_at "go"
    refine l_R (fun m δ => ∃ (x5 : Option Cell), δ = [some .feed, some (.dat (lsD l)), some (.dat (shD e)), some (.dat (.int cols)), some (.dat (.int rows)), some (.dat (.int (T : Int))), some (.own ((gs.map (upP u v)).map p4D)), some (.dat (.int way)), some (.dat (.int (n : Int))), some (.dat (.tup [.int a, .int b])), some (.dat (.int (szW l a / u))), some (.dat (.int (szH l b / v))), some (.dat (.int (blockM (szW l a / u).toNat m cols.toNat : Nat))), x5, x6, x7, x8, x9]) ?_ ?_ ?_
    · exact ⟨_, rfl⟩
    · rintro m δ3 N3 hm ⟨x5, rfl⟩ hN3
      rw [Int.zero_add]
      have c1 : CS 1 (szW l a / u) := ⟨by omega, by omega, Nat.one_lt_two_pow (by decide)⟩
      have c2 : CM (m : Int) cols := .inr (by omega)
      have e1' : (1 : Int) * 2 ^ (szW l a / u).toNat - 1 = ((2 ^ (szW l a / u).toNat - 1 : Nat) : Int) := by
        have : 1 ≤ 2 ^ (szW l a / u).toNat := Nat.one_le_two_pow
        rw [Int.one_mul]
        push_cast [this]
        simp
      have ec : cols = (cols.toNat : Int) := by omega
      have e2 : ((m : Int) * cols) = ((m * cols.toNat : Nat) : Int) := by
        conv => lhs; rw [ec]
        simp
      have hnc : m * cols.toNat ≤ 6 * 20 := Nat.mul_le_mul (by omega) (by omega)
      have hnc2 : m * cols.toNat ≤ 1000000 := by omega
      have c3 : CS (1 * 2 ^ (szW l a / u).toNat - 1) ((m : Int) * cols) := by
        rw [e1', e2]
        refine ⟨Int.natCast_nonneg _, Int.ofNat_le.mpr hnc2, ?_⟩
        rw [Int.natAbs_natCast]
        exact Nat.lt_of_le_of_lt (Nat.sub_le _ _) (Nat.pow_lt_pow_right (by decide) (by omega))
      walk_at "go"
      have e3 : ((blockM (szW l a / u).toNat m cols.toNat : Nat) : Int) + (1 * 2 ^ (szW l a / u).toNat - 1) * 2 ^ ((m : Int) * cols).toNat = ((blockM (szW l a / u).toNat (m + 1) cols.toNat : Nat) : Int) := by
        rw [e1', e2, Int.toNat_natCast]
        unfold blockM
        rw [List.range_succ, List.foldl_append]
        simp
      rw [e3]
      exact hN3 _ ⟨_, rfl⟩
    · rintro δ3 ⟨x5, rfl⟩
      have cmn : 0 ≤ cols * rows ∧ cols * rows ≤ 400 := by
        have m1 : cols * rows ≤ 20 * rows := Int.mul_le_mul_of_nonneg_right (by omega) (by omega)
        exact ⟨Int.mul_nonneg (by omega) (by omega), by omega⟩
      have cmr : CM cols rows := .inr (by omega)
      walk_at "go"
      by_cases cw : way = 2
      · rw [if_pos (by simpa using cw)]
        walk_at "go"
        refine k_take (by omega) fun start st0 st1 => ?_
        walk_at "go"
        refine l_R (fun m δ => ∃ (y0 y1 y2 y3 : Option Cell), δ = [some .feed, some (.dat (lsD l)), some (.dat (shD e)), some (.dat (.int cols)), some (.dat (.int rows)), some (.dat (.int (T : Int))), some (.own ((gs.map (upP u v)).map p4D)), some (.dat (.int way)), some (.dat (.int (n : Int))), some (.dat (.tup [.int a, .int b])), some (.dat (.int (szW l a / u))), some (.dat (.int (szH l b / v))), some (.dat (.int (blockM (szW l a / u).toNat (szH l b / v).toNat cols.toNat : Nat))), y0, some (.dat (.int start)), y1, y2, y3]) ?_ ?_ ?_
        · exact ⟨_, _, _, _, rfl⟩
        · rintro m δ4 N4 hm4 ⟨y0, y1, y2, y3, rfl⟩ hN4
          have cr : 0 < cols * rows := by omega
          have hcp : 0 < cols := by
            by_cases z : cols = 0
            · subst z; simp at cr
            · omega
          have hrp : 0 < rows := by
            by_cases z : rows = 0
            · subst z; simp at cr
            · omega
          simp only [Int.zero_add]
          have cdc : ∀ z, CD z cols := fun z => ⟨by omega, by omega⟩
          have cdr : ∀ z, CD z rows := fun z => ⟨by omega, by omega⟩
          have sp0 : 0 ≤ (start + (m : Int)) % (cols * rows) := Int.emod_nonneg _ (by omega)
          have sp1 : (start + (m : Int)) % (cols * rows) < cols * rows := Int.emod_lt_of_pos _ cr
          have cdc1 := cdc ((start + (m : Int)) % (cols * rows))
          have cdr1 := cdr ((start + (m : Int)) % (cols * rows))
          have core : ∀ (R : D → En → Prop) (BK : En → Prop), (∀ (gs' : List Pc) (T' : Nat) (y0 y1 y2 y3 : Option Cell), gs'.length ≤ 14 → UI l cols rows u v gs' T' → BK ([some .feed, some (.dat (lsD l)), some (.dat (shD e)), some (.dat (.int cols)), some (.dat (.int rows)), some (.dat (.int (T' : Int))), some (.own ((gs'.map (upP u v)).map p4D)), some (.dat (.int way)), some (.dat (.int (n : Int))), some (.dat (.tup [.int a, .int b])), some (.dat (.int (szW l a / u))), some (.dat (.int (szH l b / v))), some (.dat (.int (blockM (szW l a / u).toNat (szH l b / v).toNat cols.toNat : Nat))), y0, some (.dat (.int start)), y1, y2, y3])) → ∀ c r : Int, 0 ≤ c → 0 ≤ r → ∀ sp y1 : Option Cell, (dIf (dAnd (dTst (dBin fLe (dBin fAdd (dVar 17) (dVar 10)) (dVar 3))) (dAnd (dTst (dBin fLe (dBin fAdd (dVar 13) (dVar 11)) (dVar 4))) (dTst (dBin fEq (dBin fAnd (dVar 5) (dBin fShl (dVar 12) (dBin fAdd (dVar 17) (dBin fMul (dVar 13) (dVar 3))))) (dC (.int 0))))))
           (dSeq (dAsg (dBin fOr (dVar 5) (dBin fShl (dVar 12) (dBin fAdd (dVar 17) (dBin fMul (dVar 13) (dVar 3))))) (dgName 5))
          (dSeq (dApp 6 (dBin fCatT (dVar 9) (dTup (dCons (dBin fMul (dVar 17) (dBin fIx (dBin fIx (dVar 1) (dC (.int 0))) (dC (.int 0)))) (dCons (dBin fMul (dVar 13) (dBin fIx (dBin fIx (dVar 1) (dC (.int 1))) (dC (.int 0)))) dNil)))))
          dBrk))
           dNext) { nx := N4, rt := R, bk := BK, ct := N4 } [some .feed, some (.dat (lsD l)), some (.dat (shD e)), some (.dat (.int cols)), some (.dat (.int rows)), some (.dat (.int (T : Int))), some (.own ((gs.map (upP u v)).map p4D)), some (.dat (.int way)), some (.dat (.int (n : Int))), some (.dat (.tup [.int a, .int b])), some (.dat (.int (szW l a / u))), some (.dat (.int (szH l b / v))), some (.dat (.int (blockM (szW l a / u).toNat (szH l b / v).toNat cols.toNat : Nat))), some (.dat (.int r)), some (.dat (.int start)), y1, sp, some (.dat (.int c))] := by
            intro R BK hBK c r hc0 hr0 sp y1
            walk_at "go"
            by_cases k1 : c + szW l a / u ≤ cols
            · rw [if_pos (by simpa using k1)]
              walk_at "go"
              by_cases k2 : r + szH l b / v ≤ rows
              · rw [if_pos (by simpa using k2)]
                have cm1 : CM r cols := .inr (by omega)
                have jb : 0 ≤ c + r * cols ∧ c + r * cols ≤ 1000000 := by
                  have m1 : r * cols ≤ 20 * cols := Int.mul_le_mul_of_nonneg_right (by omega) (by omega)
                  have m2 : 0 ≤ r * cols := Int.mul_nonneg hr0 (by omega)
                  omega
                have cs : CS (blockM (szW l a / u).toNat (szH l b / v).toNat cols.toNat : Nat) (c + r * cols) := by
                  refine ⟨jb.1, jb.2, ?_⟩
                  rw [Int.natAbs_natCast]
                  refine Nat.lt_trans (bm_lt (w := (szW l a / u).toNat) (c := cols.toNat) (by omega) (szH l b / v).toNat) (Nat.pow_lt_pow_right (by decide) ?_)
                  have : (szH l b / v).toNat * cols.toNat ≤ 20 * 20 := Nat.mul_le_mul (by omega) (by omega)
                  omega
                have csh : ((blockM (szW l a / u).toNat (szH l b / v).toNat cols.toNat : Nat) : Int) * 2 ^ (c + r * cols).toNat = ((blockM (szW l a / u).toNat (szH l b / v).toNat cols.toNat * 2 ^ (c + r * cols).toNat : Nat) : Int) := by simp
                have cu1 : CM c u := .inr (by omega)
                have cv1 : CM r v := .inr (by omega)
                have hgl2 : ((gs.map (upP u v)).map p4D).length < 100000 := by rw [List.length_map, List.length_map]; omega
                walk_at "go"
                rw [csh, band_nat]
                by_cases k3 : T &&& (blockM (szW l a / u).toNat (szH l b / v).toNat cols.toNat * 2 ^ (c + r * cols).toNat) = 0
                · rw [if_pos (by rw [k3]; rfl)]
                  walk_at "go"
                  rw [csh, bor_nat]
                  have hfin := hBK (gs ++ [⟨a, b, 0, 0, c, r⟩]) _ (some (.dat (.int r))) y1 sp (some (.dat (.int c))) (by simp; omega) (ui_add hI hk hc0 k1 hr0 k2 pos hcp k3)
                  rw [List.map_append, List.map_append] at hfin
                  exact hfin
                · rw [if_neg (by rw [decide_eq_true_iff]; exact fun z => k3 (by exact_mod_cast z))]
                  walk_at "go"
                  exact hN4 _ ⟨_, _, _, _, rfl⟩
              · rw [if_neg (by simpa using k2)]
                walk_at "go"
                exact hN4 _ ⟨_, _, _, _, rfl⟩
            · rw [if_neg (by simpa using k1)]
              walk_at "go"
              exact hN4 _ ⟨_, _, _, _, rfl⟩
          walk_at "go"
          by_cases cw1 : way = 1
          · rw [if_pos (by simpa using cw1)]
            with_reducible apply s_seq
            with_reducible apply s_asg
            with_reducible (apply abs; focus (walk_at "ev"; done))
            with_reducible apply c_valD
            with_reducible apply s_asg
            with_reducible (apply abs; focus (walk_at "ev"; done))
            with_reducible apply c_valD
            simp only [List.set_cons_zero, List.set_cons_succ]
            refine core _ _ (fun gs' T' y0 y1 y2 y3 gl' hI' => ?_) ((start + (m : Int)) % (cols * rows) / rows) ((start + (m : Int)) % (cols * rows) % rows) ?_ ?_ _ _
            · walk_at "go"
              by_cases cl : gs'.length = 14
              · rw [if_pos (by rw [decide_eq_true_iff, List.length_map, List.length_map]; omega)]
                walk_at "go"
                exact ⟨rfl, q _ (ui_fil hI' (by omega) (by omega) (by omega) dW cu rv)⟩
              · rw [if_neg (by rw [decide_eq_true_iff, List.length_map, List.length_map]; omega)]
                walk_at "go"
                exact hN _ ⟨gs', _, _, _, _, _, _, _, _, _, _, _, rfl, by omega, hI'⟩
            · exact Int.ediv_nonneg sp0 (by omega)
            · exact Int.emod_nonneg _ (by omega)
          rw [if_neg (by simpa using cw1)]
          with_reducible apply s_next
          refine core _ _ (fun gs' T' y0 y1 y2 y3 gl' hI' => ?_) ((start + (m : Int)) % (cols * rows) % cols) ((start + (m : Int)) % (cols * rows) / cols) ?_ ?_ _ _
          · walk_at "go"
            by_cases cl : gs'.length = 14
            · rw [if_pos (by rw [decide_eq_true_iff, List.length_map, List.length_map]; omega)]
              walk_at "go"
              exact ⟨rfl, q _ (ui_fil hI' (by omega) (by omega) (by omega) dW cu rv)⟩
            · rw [if_neg (by rw [decide_eq_true_iff, List.length_map, List.length_map]; omega)]
              walk_at "go"
              exact hN _ ⟨gs', _, _, _, _, _, _, _, _, _, _, _, rfl, by omega, hI'⟩
          · exact Int.emod_nonneg _ (by omega)
          · exact Int.ediv_nonneg sp0 (by omega)
        · rintro δ4 ⟨y0, y1, y2, y3, rfl⟩
          walk_at "go"
          by_cases cl : gs.length = 14
          · rw [if_pos (by rw [decide_eq_true_iff, List.length_map, List.length_map]; omega)]
            walk_at "go"
            exact ⟨rfl, q _ (ui_fil hI (by omega) (by omega) (by omega) dW cu rv)⟩
          · rw [if_neg (by rw [decide_eq_true_iff, List.length_map, List.length_map]; omega)]
            walk_at "go"
            exact hN _ ⟨gs, _, _, _, _, _, _, _, _, _, _, _, rfl, by omega, hI⟩
      rw [if_neg (by simpa using cw)]
      walk_at "go"
      refine l_R (fun m δ => ∃ (y0 y1 y2 y3 : Option Cell), δ = [some .feed, some (.dat (lsD l)), some (.dat (shD e)), some (.dat (.int cols)), some (.dat (.int rows)), some (.dat (.int (T : Int))), some (.own ((gs.map (upP u v)).map p4D)), some (.dat (.int way)), some (.dat (.int (n : Int))), some (.dat (.tup [.int a, .int b])), some (.dat (.int (szW l a / u))), some (.dat (.int (szH l b / v))), some (.dat (.int (blockM (szW l a / u).toNat (szH l b / v).toNat cols.toNat : Nat))), y0, some (.dat (.int 0)), y1, y2, y3]) ?_ ?_ ?_
      · exact ⟨_, _, _, _, rfl⟩
      · rintro m δ4 N4 hm4 ⟨y0, y1, y2, y3, rfl⟩ hN4
        have cr : 0 < cols * rows := by omega
        have hcp : 0 < cols := by
          by_cases z : cols = 0
          · subst z; simp at cr
          · omega
        have hrp : 0 < rows := by
          by_cases z : rows = 0
          · subst z; simp at cr
          · omega
        simp only [Int.zero_add]
        have cdc : ∀ z, CD z cols := fun z => ⟨by omega, by omega⟩
        have cdr : ∀ z, CD z rows := fun z => ⟨by omega, by omega⟩
        have sp0 : 0 ≤ (0 + (m : Int)) % (cols * rows) := Int.emod_nonneg _ (by omega)
        have sp1 : (0 + (m : Int)) % (cols * rows) < cols * rows := Int.emod_lt_of_pos _ cr
        have cdc1 := cdc ((0 + (m : Int)) % (cols * rows))
        have cdr1 := cdr ((0 + (m : Int)) % (cols * rows))
        have core : ∀ (R : D → En → Prop) (BK : En → Prop), (∀ (gs' : List Pc) (T' : Nat) (y0 y1 y2 y3 : Option Cell), gs'.length ≤ 14 → UI l cols rows u v gs' T' → BK ([some .feed, some (.dat (lsD l)), some (.dat (shD e)), some (.dat (.int cols)), some (.dat (.int rows)), some (.dat (.int (T' : Int))), some (.own ((gs'.map (upP u v)).map p4D)), some (.dat (.int way)), some (.dat (.int (n : Int))), some (.dat (.tup [.int a, .int b])), some (.dat (.int (szW l a / u))), some (.dat (.int (szH l b / v))), some (.dat (.int (blockM (szW l a / u).toNat (szH l b / v).toNat cols.toNat : Nat))), y0, some (.dat (.int 0)), y1, y2, y3])) → ∀ c r : Int, 0 ≤ c → 0 ≤ r → ∀ sp y1 : Option Cell, (dIf (dAnd (dTst (dBin fLe (dBin fAdd (dVar 17) (dVar 10)) (dVar 3))) (dAnd (dTst (dBin fLe (dBin fAdd (dVar 13) (dVar 11)) (dVar 4))) (dTst (dBin fEq (dBin fAnd (dVar 5) (dBin fShl (dVar 12) (dBin fAdd (dVar 17) (dBin fMul (dVar 13) (dVar 3))))) (dC (.int 0))))))
         (dSeq (dAsg (dBin fOr (dVar 5) (dBin fShl (dVar 12) (dBin fAdd (dVar 17) (dBin fMul (dVar 13) (dVar 3))))) (dgName 5))
        (dSeq (dApp 6 (dBin fCatT (dVar 9) (dTup (dCons (dBin fMul (dVar 17) (dBin fIx (dBin fIx (dVar 1) (dC (.int 0))) (dC (.int 0)))) (dCons (dBin fMul (dVar 13) (dBin fIx (dBin fIx (dVar 1) (dC (.int 1))) (dC (.int 0)))) dNil)))))
        dBrk))
         dNext) { nx := N4, rt := R, bk := BK, ct := N4 } [some .feed, some (.dat (lsD l)), some (.dat (shD e)), some (.dat (.int cols)), some (.dat (.int rows)), some (.dat (.int (T : Int))), some (.own ((gs.map (upP u v)).map p4D)), some (.dat (.int way)), some (.dat (.int (n : Int))), some (.dat (.tup [.int a, .int b])), some (.dat (.int (szW l a / u))), some (.dat (.int (szH l b / v))), some (.dat (.int (blockM (szW l a / u).toNat (szH l b / v).toNat cols.toNat : Nat))), some (.dat (.int r)), some (.dat (.int 0)), y1, sp, some (.dat (.int c))] := by
          intro R BK hBK c r hc0 hr0 sp y1
          walk_at "go"
          by_cases k1 : c + szW l a / u ≤ cols
          · rw [if_pos (by simpa using k1)]
            walk_at "go"
            by_cases k2 : r + szH l b / v ≤ rows
            · rw [if_pos (by simpa using k2)]
              have cm1 : CM r cols := .inr (by omega)
              have jb : 0 ≤ c + r * cols ∧ c + r * cols ≤ 1000000 := by
                have m1 : r * cols ≤ 20 * cols := Int.mul_le_mul_of_nonneg_right (by omega) (by omega)
                have m2 : 0 ≤ r * cols := Int.mul_nonneg hr0 (by omega)
                omega
              have cs : CS (blockM (szW l a / u).toNat (szH l b / v).toNat cols.toNat : Nat) (c + r * cols) := by
                refine ⟨jb.1, jb.2, ?_⟩
                rw [Int.natAbs_natCast]
                refine Nat.lt_trans (bm_lt (w := (szW l a / u).toNat) (c := cols.toNat) (by omega) (szH l b / v).toNat) (Nat.pow_lt_pow_right (by decide) ?_)
                have : (szH l b / v).toNat * cols.toNat ≤ 20 * 20 := Nat.mul_le_mul (by omega) (by omega)
                omega
              have csh : ((blockM (szW l a / u).toNat (szH l b / v).toNat cols.toNat : Nat) : Int) * 2 ^ (c + r * cols).toNat = ((blockM (szW l a / u).toNat (szH l b / v).toNat cols.toNat * 2 ^ (c + r * cols).toNat : Nat) : Int) := by simp
              have cu1 : CM c u := .inr (by omega)
              have cv1 : CM r v := .inr (by omega)
              have hgl2 : ((gs.map (upP u v)).map p4D).length < 100000 := by rw [List.length_map, List.length_map]; omega
              walk_at "go"
              rw [csh, band_nat]
              by_cases k3 : T &&& (blockM (szW l a / u).toNat (szH l b / v).toNat cols.toNat * 2 ^ (c + r * cols).toNat) = 0
              · rw [if_pos (by rw [k3]; rfl)]
                walk_at "go"
                rw [csh, bor_nat]
                have hfin := hBK (gs ++ [⟨a, b, 0, 0, c, r⟩]) _ (some (.dat (.int r))) y1 sp (some (.dat (.int c))) (by simp; omega) (ui_add hI hk hc0 k1 hr0 k2 pos hcp k3)
                rw [List.map_append, List.map_append] at hfin
                exact hfin
              · rw [if_neg (by rw [decide_eq_true_iff]; exact fun z => k3 (by exact_mod_cast z))]
                walk_at "go"
                exact hN4 _ ⟨_, _, _, _, rfl⟩
            · rw [if_neg (by simpa using k2)]
              walk_at "go"
              exact hN4 _ ⟨_, _, _, _, rfl⟩
          · rw [if_neg (by simpa using k1)]
            walk_at "go"
            exact hN4 _ ⟨_, _, _, _, rfl⟩
        walk_at "go"
        by_cases cw1 : way = 1
        · rw [if_pos (by simpa using cw1)]
          with_reducible apply s_seq
          with_reducible apply s_asg
          with_reducible (apply abs; focus (walk_at "ev"; done))
          with_reducible apply c_valD
          with_reducible apply s_asg
          with_reducible (apply abs; focus (walk_at "ev"; done))
          with_reducible apply c_valD
          simp only [List.set_cons_zero, List.set_cons_succ]
          refine core _ _ (fun gs' T' y0 y1 y2 y3 gl' hI' => ?_) ((0 + (m : Int)) % (cols * rows) / rows) ((0 + (m : Int)) % (cols * rows) % rows) ?_ ?_ _ _
          · walk_at "go"
            by_cases cl : gs'.length = 14
            · rw [if_pos (by rw [decide_eq_true_iff, List.length_map, List.length_map]; omega)]
              walk_at "go"
              exact ⟨rfl, q _ (ui_fil hI' (by omega) (by omega) (by omega) dW cu rv)⟩
            · rw [if_neg (by rw [decide_eq_true_iff, List.length_map, List.length_map]; omega)]
              walk_at "go"
              exact hN _ ⟨gs', _, _, _, _, _, _, _, _, _, _, _, rfl, by omega, hI'⟩
          · exact Int.ediv_nonneg sp0 (by omega)
          · exact Int.emod_nonneg _ (by omega)
        rw [if_neg (by simpa using cw1)]
        with_reducible apply s_next
        refine core _ _ (fun gs' T' y0 y1 y2 y3 gl' hI' => ?_) ((0 + (m : Int)) % (cols * rows) % cols) ((0 + (m : Int)) % (cols * rows) / cols) ?_ ?_ _ _
        · walk_at "go"
          by_cases cl : gs'.length = 14
          · rw [if_pos (by rw [decide_eq_true_iff, List.length_map, List.length_map]; omega)]
            walk_at "go"
            exact ⟨rfl, q _ (ui_fil hI' (by omega) (by omega) (by omega) dW cu rv)⟩
          · rw [if_neg (by rw [decide_eq_true_iff, List.length_map, List.length_map]; omega)]
            walk_at "go"
            exact hN _ ⟨gs', _, _, _, _, _, _, _, _, _, _, _, rfl, by omega, hI'⟩
        · exact Int.emod_nonneg _ (by omega)
        · exact Int.ediv_nonneg sp0 (by omega)
      · rintro δ4 ⟨y0, y1, y2, y3, rfl⟩
        walk_at "go"
        by_cases cl : gs.length = 14
        · rw [if_pos (by rw [decide_eq_true_iff, List.length_map, List.length_map]; omega)]
          walk_at "go"
          exact ⟨rfl, q _ (ui_fil hI (by omega) (by omega) (by omega) dW cu rv)⟩
        · rw [if_neg (by rw [decide_eq_true_iff, List.length_map, List.length_map]; omega)]
          walk_at "go"
          exact hN _ ⟨gs, _, _, _, _, _, _, _, _, _, _, _, rfl, by omega, hI⟩
  · rintro δ2 ⟨gs, T, x0, x1, x2, x3, x4, x5, x6, x7, x8, x9, rfl, hgl, hI⟩
    walk_at "go"
    exact ⟨rfl, q _ (ui_fil hI (by omega) (by omega) (by omega) dW cu rv)⟩
theorem ovB_symm' {l : Ls} {t : Int} {p o : Pc} : ovB l t p o = ovB l t o p := by
  unfold ovB ovS
  have e1 : decide (p.s = o.s) = decide (o.s = p.s) := decide_eq_decide.mpr ⟨Eq.symm, Eq.symm⟩
  have e2 : decide (p.h = o.h) = decide (o.h = p.h) := decide_eq_decide.mpr ⟨Eq.symm, Eq.symm⟩
  rw [e1, e2]
  congr 1
  congr 1 <;> exact Bool.and_comm _ _
theorem s_forO {P : DEnds} {δ : En} {i : Nat} {ds : List D} {g : DTG} {tb : DTS} (h : δ[i]? = some (some (.own ds)))
    (q : ∀ a, dForL g tb ds { nx := fun δ2 => δ2[i]? = some (some (.pin a)) ∧ P.nx (δ2.set i (some (.own ds))), rt := fun _ _ => False, bk := fun _ => False, ct := fun _ => False } (δ.set i (some (.pin a)))) : dForO i g tb P δ := by
  unfold dForO
  simp only [h]
  exact q
theorem ov_side {l : Ls} {t sd : Int} (hsd : sd = 0 ∨ sd = 1) (p o : Pc) (a1 : p.s = 0) (a2 : p.h = 0) (a3 : o.s = 0) (a4 : o.h = 0) : ovB l t p o = false ↔ ¬ ((loS p sd < loS o sd + szS l o sd * t ∧ loS o sd < loS p sd + szS l p sd * t) ∧ (loS p (1 - sd) < loS o (1 - sd) + szS l o (1 - sd) * t ∧ loS o (1 - sd) < loS p (1 - sd) + szS l p (1 - sd) * t)) := by
  rw [← Bool.not_eq_true]
  refine not_congr ?_
  unfold ovB ovS
  rw [a1, a2, a3, a4]
  rcases hsd with rfl | rfl
  · simp only [hiS, Int.reduceSub, decide_true, Bool.true_and, Bool.and_eq_true, decide_eq_true_eq, and_self]
    constructor
    · rintro ⟨⟨z1, z2⟩, z3, z4⟩
      exact ⟨⟨of_decide_eq_true z1, of_decide_eq_true z2⟩, of_decide_eq_true z3, of_decide_eq_true z4⟩
    · rintro ⟨⟨z1, z2⟩, z3, z4⟩
      exact ⟨⟨decide_eq_true z1, decide_eq_true z2⟩, decide_eq_true z3, decide_eq_true z4⟩
  · simp only [hiS, Int.reduceSub, decide_true, Bool.true_and, Bool.and_eq_true, decide_eq_true_eq, and_self]
    constructor
    · rintro ⟨⟨z1, z2⟩, z3, z4⟩
      exact ⟨⟨of_decide_eq_true z3, of_decide_eq_true z4⟩, of_decide_eq_true z1, of_decide_eq_true z2⟩
    · rintro ⟨⟨z1, z2⟩, z3, z4⟩
      exact ⟨⟨decide_eq_true z3, decide_eq_true z4⟩, decide_eq_true z1, decide_eq_true z2⟩
theorem dis_mem {l : Ls} {t : Int} {ps : List Pc} {p o : Pc} (h : Dis l t ps) (hp : p ∈ ps) (ho : o ∈ ps) (hne : p ≠ o) : ovB l t p o = false := by
  obtain ⟨i, hi, rfl⟩ := List.getElem_of_mem hp
  obtain ⟨j, hj, rfl⟩ := List.getElem_of_mem ho
  have hd := List.pairwise_iff_getElem.mp h
  by_cases c : i < j
  · exact hd i j hi hj c
  · by_cases c2 : j < i
    · rw [ovB_symm']
      exact hd j i hj hi c2
    · have : i = j := by omega
      subst this
      exact absurd rfl hne
def moveP (p : Pc) (sd far : Int) : Pc := if sd = 0 then { p with x := far } else { p with y := far }
theorem fil_move {l : Ls} {e : Int × Int × Int} {t : Int} {ps : List Pc} {k : Nat} {sd far en : Int} (hL : LOk l) (ht : TOk t) (hF : FilOk l e t ps) (hk : k < ps.length) (hsd : sd = 0 ∨ sd = 1) (h1 : loS ps[k] sd ≤ far) (h2 : far + szS l ps[k] sd * t ≤ en) (h3 : en ≤ eS e sd * t)
    (h4 : ∀ o, o ∈ ps → loS ps[k] sd < loS o sd → loS o (1 - sd) < loS ps[k] (1 - sd) + szS l ps[k] (1 - sd) * t → loS ps[k] (1 - sd) < loS o (1 - sd) + szS l o (1 - sd) * t → en ≤ loS o sd) : FilOk l e t (ps.set k (moveP ps[k] sd far)) := by
  have hP := hF.k _ (List.getElem_mem hk)
  have ht1 := ht.1
  have posS : ∀ p, p ∈ ps → 0 < szS l p sd * t := fun p hp => by
    have k := (hF.k p hp).1
    rcases hsd with rfl | rfl
    · exact Int.mul_pos (by have := szW_pos hL.w k; show 0 < szW l p.a; omega) (by omega)
    · exact Int.mul_pos (by have := szH_pos hL.h k; show 0 < szH l p.b; omega) (by omega)
  have ovx : ∀ p o : Pc, p.s = 0 → p.h = 0 → o.s = 0 → o.h = 0 → (ovB l t p o = false ↔ ¬ ((loS p sd < loS o sd + szS l o sd * t ∧ loS o sd < loS p sd + szS l p sd * t) ∧ (loS p (1 - sd) < loS o (1 - sd) + szS l o (1 - sd) * t ∧ loS o (1 - sd) < loS p (1 - sd) + szS l p (1 - sd) * t))) := fun p o a1 a2 a3 a4 => by
    rw [← Bool.not_eq_true]
    refine not_congr ?_
    unfold ovB ovS
    rw [a1, a2, a3, a4]
    rcases hsd with rfl | rfl
    · simp only [hiS, Int.reduceSub, decide_true, Bool.true_and, Bool.and_eq_true, decide_eq_true_eq, and_self]
      constructor
      · rintro ⟨⟨z1, z2⟩, z3, z4⟩
        exact ⟨⟨of_decide_eq_true z1, of_decide_eq_true z2⟩, of_decide_eq_true z3, of_decide_eq_true z4⟩
      · rintro ⟨⟨z1, z2⟩, z3, z4⟩
        exact ⟨⟨decide_eq_true z1, decide_eq_true z2⟩, decide_eq_true z3, decide_eq_true z4⟩
    · simp only [hiS, Int.reduceSub, decide_true, Bool.true_and, Bool.and_eq_true, decide_eq_true_eq, and_self]
      constructor
      · rintro ⟨⟨z1, z2⟩, z3, z4⟩
        exact ⟨⟨of_decide_eq_true z3, of_decide_eq_true z4⟩, of_decide_eq_true z1, of_decide_eq_true z2⟩
      · rintro ⟨⟨z1, z2⟩, z3, z4⟩
        exact ⟨⟨decide_eq_true z3, decide_eq_true z4⟩, decide_eq_true z1, decide_eq_true z2⟩
  have m1 : (moveP ps[k] sd far).s = 0 ∧ (moveP ps[k] sd far).h = 0 ∧ (moveP ps[k] sd far).a = ps[k].a ∧ (moveP ps[k] sd far).b = ps[k].b ∧ loS (moveP ps[k] sd far) sd = far ∧ loS (moveP ps[k] sd far) (1 - sd) = loS ps[k] (1 - sd) ∧ szS l (moveP ps[k] sd far) sd = szS l ps[k] sd ∧ szS l (moveP ps[k] sd far) (1 - sd) = szS l ps[k] (1 - sd) := by
    rcases hsd with rfl | rfl
    · exact ⟨hP.2.1, hP.2.2.1, rfl, rfl, rfl, rfl, rfl, rfl⟩
    · exact ⟨hP.2.1, hP.2.2.1, rfl, rfl, rfl, rfl, rfl, rfl⟩
  obtain ⟨n1, n2, n3, n4, n5, n6, n7, n8⟩ := m1
  have key : ∀ o, o ∈ ps → ovB l t ps[k] o = false → ovB l t (moveP ps[k] sd far) o = false := fun o ho hov => by
    obtain ⟨_, o1, o2, _⟩ := hF.k o ho
    have po := posS o ho
    have pk := posS _ (List.getElem_mem hk)
    rw [ovx _ _ hP.2.1 hP.2.2.1 o1 o2] at hov
    rw [ovx _ _ n1 n2 o1 o2, n5, n6, n7, n8]
    rintro ⟨⟨z1, z2⟩, z3, z4⟩
    by_cases c : loS ps[k] sd < loS o sd
    · have := h4 o ho c z4 z3
      omega
    · exact hov ⟨⟨by omega, by omega⟩, z3, z4⟩
  refine ⟨fun p hp => ?_, ?_, by rw [List.length_set]; exact hF.n⟩
  · rcases List.mem_or_eq_of_mem_set hp with hp | rfl
    · exact hF.k p hp
    · refine ⟨by rw [n3, n4]; exact hP.1, n1, n2, ?_⟩
      obtain ⟨i1, i2, i3, i4⟩ := hP.2.2.2
      rcases hsd with rfl | rfl
      · have e1 : loS ps[k] 0 = ps[k].x := rfl
        have e2 : szS l ps[k] 0 = szW l ps[k].a := rfl
        have e3 : eS e 0 = e.1 := rfl
        rw [e1] at h1
        rw [e2] at h2
        rw [e3] at h3
        exact ⟨by show 0 ≤ far; omega, by show far + szW l ps[k].a * t ≤ e.1 * t; omega, i3, i4⟩
      · have e1 : loS ps[k] 1 = ps[k].y := rfl
        have e2 : szS l ps[k] 1 = szH l ps[k].b := rfl
        have e3 : eS e 1 = e.2.1 := rfl
        rw [e1] at h1
        rw [e2] at h2
        rw [e3] at h3
        exact ⟨i1, i2, by show 0 ≤ far; omega, by show far + szH l ps[k].b * t ≤ e.2.1 * t; omega⟩
  · have hd := List.pairwise_iff_getElem.mp hF.d
    unfold Dis
    rw [List.pairwise_iff_getElem]
    intro i j hi hj hij
    rw [List.length_set] at hi hj
    rw [List.getElem_set, List.getElem_set]
    by_cases ci : k = i
    · subst ci
      rw [if_pos rfl, if_neg (by omega)]
      exact key _ (List.getElem_mem hj) (hd k j hi hj hij)
    · rw [if_neg ci]
      by_cases cj : k = j
      · subst cj
        rw [if_pos rfl]
        have h5 := hd i k hi hj hij
        rw [ovB_symm'] at h5 ⊢
        exact key _ (List.getElem_mem hi) h5
      · rw [if_neg cj]
        exact hd i j hi hj hij
def rS' (l : Ls) (sd : Int) : List Int := if sd = 0 then l.w else l.h
def kS' (p : Pc) (sd : Int) : Int := if sd = 0 then p.a else p.b
theorem gMin_le' {i j : Int} : gMin i j ≤ i ∧ gMin i j ≤ j ∧ ∀ z, z ≤ i → z ≤ j → z ≤ gMin i j := by
  unfold gMin
  split
  · exact ⟨by omega, by omega, fun z _ h => h⟩
  · exact ⟨by omega, by omega, fun z h _ => h⟩
theorem h_Lmoved : ∀ ds Q, C_Lmoved ds Q → t_Lmoved (retF Q) (startF N_Lmoved ds) := by
  rintro ds Q ⟨l, e, t, ps, sd, hL, hE, ht, hF, hsd, rfl, q⟩
  have ht1 := ht.1
  have ht2 := ht.2
  have hps := hF.n
  have a1 : ∀ p : Pc, atI [D.int p.a, D.int p.b, D.int p.x, D.int p.y] (2 + sd) = some (.int (loS p sd)) := fun p => by rcases hsd with rfl | rfl <;> rfl
  have a2 : ∀ p : Pc, atI [D.int p.a, D.int p.b, D.int p.x, D.int p.y] (3 - sd) = some (.int (loS p (1 - sd))) := fun p => by rcases hsd with rfl | rfl <;> rfl
  have a3 : ∀ p : Pc, atI [D.int p.a, D.int p.b, D.int p.x, D.int p.y] sd = some (.int (kS' p sd)) := fun p => by rcases hsd with rfl | rfl <;> rfl
  have a4 : ∀ p : Pc, atI [D.int p.a, D.int p.b, D.int p.x, D.int p.y] (1 - sd) = some (.int (kS' p (1 - sd))) := fun p => by rcases hsd with rfl | rfl <;> rfl
  have b1 : atI [rowD l.w, rowD l.h] sd = some (rowD (rS' l sd)) := by rcases hsd with rfl | rfl <;> rfl
  have b2 : atI [rowD l.w, rowD l.h] (1 - sd) = some (rowD (rS' l (1 - sd))) := by rcases hsd with rfl | rfl <;> rfl
  have c1 : ∀ p : Pc, KOk l p.a p.b → atI ((rS' l sd).map D.int) (kS' p sd) = some (.int (szS l p sd)) := fun p hk => by
    rcases hsd with rfl | rfl
    · exact szW_at hk
    · exact szH_at hk
  have c2 : ∀ p : Pc, KOk l p.a p.b → atI ((rS' l (1 - sd)).map D.int) (kS' p (1 - sd)) = some (.int (szS l p (1 - sd))) := fun p hk => by
    rcases hsd with rfl | rfl
    · exact szH_at hk
    · exact szW_at hk
  have eat : atI [D.int e.1, D.int e.2.1, D.int e.2.2] sd = some (.int (eS e sd)) := by rcases hsd with rfl | rfl <;> rfl
  rw [sd_Lmoved]
  unfold t_Lmoved
  walk_at "go"
  have hcat : ∀ k, k < ps.length → ps[k]? = some (ps.getD k p0) := fun k hk => by simp [List.getD, List.getElem?_eq_getElem hk]
  refine c_mapR (fun k => DL.prD (0 - loS (ps.getD k p0) sd, (k : Int))) (by rfl) (by simp; omega) ?_ ?_
  · intro k hk
    have hk' : k < ps.length := by simpa using hk
    have hat : atI (ps.map p4D) (k : Int) = some (p4D (ps.getD k p0)) := map_at (hcat k hk')
    have h1 := a1 (ps.getD k p0)
    walk_at "wp"
    rw [Int.zero_add]
    walk_at "ev"
    assumption
  have e1 : (((ps.map p4D).length : Nat) : Int).toNat = ps.length := by simp
  rw [e1]
  walk_at "go"
  refine c_sortP ((List.range ps.length).map fun k => (0 - loS (ps.getD k p0) sd, (k : Int))) (by rw [List.map_map]; rfl) ?_
  intro qs hp hs
  have hmem : ∀ p, p ∈ qs → 0 ≤ p.2 ∧ p.2 < ps.length := fun p h => by
    have := hp.mem_iff.mp h
    obtain ⟨k, h1, h2⟩ := List.mem_map.mp this
    have := List.mem_range.mp h1
    rw [← h2]
    simp only
    omega
  walk_at "go"
  refine l_N qs DL.prD (fun n δ => ∃ (ps' : List Pc) (x0 x1 x2 x3 x4 x5 x6 x7 x8 : Option Cell), δ = [some .feed, some (.dat (lsD l)), some (.dat (shD e)), some (.dat (.int t)), some (.dat (.lst (ps.map p4D))), some (.dat (.int sd)), some (.dat (.lst (qs.map DL.prD))), some (.own (ps'.map p4D)), x0, x1, x2, x3, x4, x5, x6, x7, x8]
      ∧ ps'.length = ps.length ∧ FilOk l e t ps') ?_ ?_ ?_
  · exact ⟨ps, _, _, _, _, _, _, _, _, _, rfl, rfl, hF⟩
  · rintro n f δ2 N hf ⟨ps', x0, x1, x2, x3, x4, x5, x6, x7, x8, rfl, hl', hF'⟩ hN
    have hfm := hmem f (List.mem_of_getElem? hf)
    have hk : f.2.toNat < ps'.length := by omega
    have hpk : ps'[f.2.toNat]? = some ps'[f.2.toNat] := List.getElem?_eq_getElem hk
    have hat : atI (ps'.map p4D) f.2 = some (p4D ps'[f.2.toNat]) := by
      rw [atI_z _ _ hfm.1, List.getElem?_map, hpk]
      rfl
    have hmk := List.getElem_mem hk
    have mv := fun far en => fil_move (k := f.2.toNat) (sd := sd) (far := far) (en := en) hL ht hF' hk hsd
    generalize ps'[f.2.toNat] = one at hat hmk mv
    have hko := (hF'.k one hmk).1
    have o1 := a1 one
    have o2 := a2 one
    have o3 := a3 one
    have o4 := a4 one
    have o5 := c1 one hko
    have o6 := c2 one hko
    have cmE : CM (eS e sd) t := CMt ht
    walk_at "go"
    obtain ⟨_, os, oh, i1, i2, i3, i4⟩ := hF'.k one hmk
    have in1 : loS one sd + szS l one sd * t ≤ eS e sd * t := by
      rcases hsd with rfl | rfl
      · exact i2
      · exact i4
    refine s_forO (by rfl) fun ad => ?_
    simp only [List.set_cons_zero, List.set_cons_succ]
    refine l_N ps' p4D (fun m δ => ∃ (en : Int) (y0 y1 y2 y3 : Option Cell), δ = [some .feed, some (.dat (lsD l)), some (.dat (shD e)), some (.dat (.int t)), some (.dat (.lst (ps.map p4D))), some (.dat (.int sd)), some (.dat (.lst (qs.map DL.prD))), some (.pin ad), some (.dat (DL.prD f)), some (.dat (p4D one)), some (.dat (.int (szS l one sd * t))), some (.dat (.int (szS l one (1 - sd) * t))), some (.dat (.int en)), y0, y1, y2, y3]
      ∧ en ≤ eS e sd * t ∧ loS one sd + szS l one sd * t ≤ en ∧ ∀ (i : Nat) o, i < m → ps'[i]? = some o → loS one sd < loS o sd → loS o (1 - sd) < loS one (1 - sd) + szS l one (1 - sd) * t → loS one (1 - sd) < loS o (1 - sd) + szS l o (1 - sd) * t → en ≤ loS o sd) ?_ ?_ ?_
    · exact ⟨eS e sd * t, _, _, _, _, rfl, Int.le_refl _, in1, fun i o hi => absurd hi (Nat.not_lt_zero _)⟩
    · rintro m two δ3 N3 h2 ⟨en, y0, y1, y2, y3, rfl, en1, en2, hJ⟩ hN3
      have h2m := List.mem_of_getElem? h2
      obtain ⟨kt, ts, th, _⟩ := hF'.k two h2m
      have t1 := a1 two
      have t2 := a2 two
      have t3 := a3 two
      have t4 := a4 two
      have t5 := c1 two kt
      have t6 := c2 two kt
      have cmT : CM (szS l two (1 - sd)) t := CMt ht
      have keep : ¬ (loS one sd < loS two sd ∧ loS two (1 - sd) < loS one (1 - sd) + szS l one (1 - sd) * t ∧ loS one (1 - sd) < loS two (1 - sd) + szS l two (1 - sd) * t) → ∀ (i : Nat) o, i < m + 1 → ps'[i]? = some o → loS one sd < loS o sd → loS o (1 - sd) < loS one (1 - sd) + szS l one (1 - sd) * t → loS one (1 - sd) < loS o (1 - sd) + szS l o (1 - sd) * t → en ≤ loS o sd := fun z i o hi ho z1 z2 z3 => by
        by_cases ei : i = m
        · subst ei
          rw [h2] at ho
          cases ho
          exact absurd ⟨z1, z2, z3⟩ z
        · exact hJ i o (by omega) ho z1 z2 z3
      walk_at "go"
      by_cases d1 : loS one sd < loS two sd
      · rw [if_pos (by simpa using d1)]
        walk_at "go"
        by_cases d2 : loS two (1 - sd) < loS one (1 - sd) + szS l one (1 - sd) * t
        · rw [if_pos (by simpa using d2)]
          walk_at "go"
          by_cases d3 : loS one (1 - sd) < loS two (1 - sd) + szS l two (1 - sd) * t
          · rw [if_pos (by simpa using d3)]
            walk_at "go"
            obtain ⟨g1, g2, g3⟩ := gMin_le' (i := en) (j := loS two sd)
            have hne : one ≠ two := fun z => by subst z; omega
            have hov := (ov_side (l := l) (t := t) hsd one two os oh ts th).mp (dis_mem hF'.d hmk h2m hne)
            have pt : 0 < szS l two sd * t := by
              rcases hsd with rfl | rfl
              · exact Int.mul_pos (by have := szW_pos hL.w kt; show 0 < szW l two.a; omega) (by omega)
              · exact Int.mul_pos (by have := szH_pos hL.h kt; show 0 < szH l two.b; omega) (by omega)
            have sep : loS one sd + szS l one sd * t ≤ loS two sd := by
              by_cases c : loS one sd + szS l one sd * t ≤ loS two sd
              · exact c
              · exact absurd ⟨⟨by omega, by omega⟩, d3, d2⟩ hov
            refine hN3 _ ⟨_, _, _, _, _, rfl, by omega, g3 _ en2 sep, fun i o hi ho z1 z2 z3 => ?_⟩
            by_cases ei : i = m
            · subst ei
              rw [h2] at ho
              cases ho
              exact g2
            · have := hJ i o (by omega) ho z1 z2 z3
              omega
          · rw [if_neg (by simpa using d3)]
            walk_at "go"
            exact hN3 _ ⟨en, _, _, _, _, rfl, en1, en2, keep fun z => d3 z.2.2⟩
        · rw [if_neg (by simpa using d2)]
          walk_at "go"
          exact hN3 _ ⟨en, _, _, _, _, rfl, en1, en2, keep fun z => d2 z.2.1⟩
      · rw [if_neg (by simpa using d1)]
        walk_at "go"
        exact hN3 _ ⟨en, _, _, _, _, rfl, en1, en2, keep fun z => d1 z.1⟩
    · rintro δ3 ⟨en, y0, y1, y2, y3, rfl, en1, en2, hJ⟩
      refine ⟨rfl, ?_⟩
      simp only [List.set_cons_zero, List.set_cons_succ]
      walk_at "go"
      refine k_take (by omega) fun n2 r0 r1 => ?_
      walk_at "go"
      refine k_take (by decide) fun n3 r2 r3 => ?_
      obtain ⟨g1, g2, g3⟩ := gMin_le' (i := en - szS l one sd * t - loS one sd) (j := 1)
      have hdl : ∃ dl : Int, 0 ≤ dl ∧ dl ≤ en - szS l one sd * t - loS one sd ∧ atI [D.int 0, D.int 0, D.int 0, D.int (en - szS l one sd * t - loS one sd), D.int (gMin (en - szS l one sd * t - loS one sd) 1), D.int n2] n3 = some (.int dl) := by
        have : n3 = 0 ∨ n3 = 1 ∨ n3 = 2 ∨ n3 = 3 ∨ n3 = 4 ∨ n3 = 5 := by omega
        rcases this with rfl | rfl | rfl | rfl | rfl | rfl
        · exact ⟨0, Int.le_refl _, by omega, rfl⟩
        · exact ⟨0, Int.le_refl _, by omega, rfl⟩
        · exact ⟨0, Int.le_refl _, by omega, rfl⟩
        · exact ⟨_, by omega, by omega, rfl⟩
        · exact ⟨_, g3 0 (by omega) (by omega), g1, rfl⟩
        · exact ⟨n2, r0, by omega, rfl⟩
      obtain ⟨dl, dl0, dl1, hdl⟩ := hdl
      have mvd : atI [D.tup [.int one.a, .int one.b, .int (loS one sd + dl), .int one.y], D.tup [.int one.a, .int one.b, .int one.x, .int (loS one sd + dl)]] sd = some (p4D (moveP one sd (loS one sd + dl))) := by
        rcases hsd with rfl | rfl <;> rfl
      walk_at "go"
      refine c_setI2 (by rfl) (j := f.2.toNat) ?_ ?_
      · unfold ixN
        rw [if_pos hfm.1, if_pos (by rw [List.length_map]; omega)]
      · refine hN _ ⟨ps'.set f.2.toNat (moveP one sd (loS one sd + dl)), _, _, _, _, _, _, _, _, _, by rw [List.map_set], by rw [List.length_set]; exact hl', ?_⟩
        exact mv _ en (by omega) (by omega) en1 fun o ho z1 z2 z3 => by
          obtain ⟨i, h3, h4⟩ := List.getElem_of_mem ho
          exact hJ i o h3 (by rw [List.getElem?_eq_getElem h3, h4]) z1 z2 z3
  · rintro δ2 ⟨ps', x0, x1, x2, x3, x4, x5, x6, x7, x8, rfl, hl', hF'⟩
    walk_at "go"
    exact ⟨rfl, q _ hF'⟩
def t_leaf : DTS :=
   (dSeq (dApp 4 (dTup (dCons (dVar 6) (dCons (dVar 8) dNil))))
  (dSeq (dAsg (dCallF 0 C_Lfilled (dCons (dVar 1) (dCons (dVar 7) dNil))) (dgName 9))
  (dSeq (dAsg (dBin fIx (dFrz (dLst (dCons (dC (.int 0)) (dCons (dC (.int 0)) (dCons (dC (.int 1)) (dCons (dC (.int 1)) (dCons (dC (.int 2)) (dCons (dC (.int 20)) dNil)))))))) (dCallF 0 C_Ltake (dCons (dC (.int 6)) dNil))) (dgName 10))
  (dSeq (dAsg (dCallF 0 C_Ltake (dCons (dBin fAdd (dUn fLen (dVar 9)) (dC (.int 1))) dNil)) (dgName 11))
  (dSeq (dAsgL 9 (dSlL (dFrz (dCatL (dFrz (dSlL (dVar 9) (dPart (dVar 11)) dNoPart)) (dFrz (dSlL (dVar 9) dNoPart (dPart (dVar 11)))))) (dPart (dVar 10)) dNoPart))
  (dSeq (dAsgL 9 (dLc (dSrcL (dVar 9)) (dgName 12) dYes (dBin fCatT (dSlT (dVar 12) dNoPart (dPart (dC (.int 2)))) (dTup (dCons (dBin fMul (dBin fIx (dVar 12) (dC (.int 2))) (dVar 3)) (dCons (dBin fMul (dBin fIx (dVar 12) (dC (.int 3))) (dVar 3)) dNil)))) [12]))
  (dSeq (dAsg (dCallF 0 C_Lmoved (dCons (dVar 1) (dCons (dVar 7) (dCons (dVar 3) (dCons (dVar 9) (dCons (dC (.int 0)) dNil)))))) (dgName 9))
  (dSeq (dAsg (dCallF 0 C_Lmoved (dCons (dVar 1) (dCons (dVar 7) (dCons (dVar 3) (dCons (dVar 9) (dCons (dC (.int 1)) dNil)))))) (dgName 9))
  (dFor (dSrcL (dVar 9)) (dgName 12)
   (dIns 5 (dCons (dCallF 0 C_Ltake (dCons (dBin fAdd (dUn fLen (dVar 5)) (dC (.int 1))) dNil)) (dCons (dBin fCatT (dBin fCatT (dSlT (dVar 12) dNoPart (dPart (dC (.int 2)))) (dTup (dCons (dVar 6) (dCons (dVar 8) dNil)))) (dSlT (dVar 12) (dPart (dC (.int 2))) dNoPart)) dNil))))))))))))
def t_scene2 : DTS :=
  (dSeq (dAsgL 4 (dLst dNil))
  (dSeq (dAsgL 5 (dLst dNil))
  (dSeq (dFor (dRng1 (dCons (dUn fLen (dVar 2)) dNil)) (dgName 6)
   (dSeq (dAsg (dBin fIx (dVar 2) (dVar 6)) (dgName 7))
  (dFor (dSrcL (dFrz (dLst (dCons (dC (.int 0)) (dCons (dBin fSub (dBin fIx (dVar 7) (dC (.int 2))) (dC (.int 1))) dNil))))) (dgName 8)
   (dIf (dAnd (dTst (dBin fNotInP (dTup (dCons (dVar 6) (dCons (dVar 8) dNil))) (dVar 4))) (dOr (dTst (dBin fEq (dUn fLen (dVar 4)) (dC (.int 0)))) (dTst (dBin fGt (dCallF 0 C_Ltake (dCons (dC (.int 7)) dNil)) (dC (.int 0))))))
   t_leaf
   dNext))))
  (dRet (dFrz (dLst (dCons (dVar 1) (dCons (dVar 2) (dCons (dVar 3) (dCons (dFrz (dSlL (dVar 5) dNoPart (dPart (dC (.int 58))))) dNil))))))))))
def kIns (F : Int → D → List D → Prop) (as : List D) (o : Option (Option Cell)) : Prop := match as, o with
  | [.int k, d], some (some (.own ds)) => F k d ds
  | _, _ => False
theorem s_ins {P : DEnds} {δ : En} {tr : DTA} {ds : List D} {i : Nat} (h0 : δ[i]? = some (some (.own ds))) (q : tr δ fun as δ1 => kIns (fun k d ds => (ds.length < 100000 ∧ 0 ≤ k ∧ k ≤ 100000) ∧ P.nx (δ1.set i (some (.own (insD ds k d))))) as δ1[i]?) : dIns i tr P δ := ⟨⟨ds, h0⟩, q⟩
theorem c_ins2 {F : Int → D → List D → Prop} {k : Int} {d : D} {ds : List D} {o : Option (Option Cell)} (h0 : o = some (some (.own ds))) (q : F k d ds) : kIns F [.int k, d] o := by subst h0; exact q
theorem h_Lscene (main : ∀ (Q : D → Prop) (l : Ls) (st : List (Int × Int × Int)) (t : Int), LOk l → StOk st → TOk t → (∀ l st t ps, ScOk l st t ps → Q (scD l st t ps)) → t_scene2 { nx := (retF Q).nx, rt := (retF Q).rt, bk := (retF Q).bk, ct := (retF Q).ct } [some .feed, some (.dat (lsD l)), some (.dat (stD st)), some (.dat (.int t)), none, none, none, none, none, none, none, none, none]) : ∀ ds Q, C_Lscene ds Q → t_Lscene (retF Q) (startF N_Lscene ds) := by
  rintro ds Q ⟨rfl, q⟩
  rw [sd_Lscene]
  unfold t_Lscene
  walk_at "go"
  refine ⟨rfl, fun l hL => ?_⟩
  walk_at "go"
  refine ⟨l, hL, rfl, fun st hst => ?_⟩
  walk_at "go"
  refine k_take (by decide) fun n n0 n1 => ?_
  have hat : ∃ t : Int, TOk t ∧ atI [D.int 1, D.int 2, D.int 2, D.int 3, D.int 2, D.int 5, D.int 3, D.int 7] n = some (.int t) := by
    have : n = 0 ∨ n = 1 ∨ n = 2 ∨ n = 3 ∨ n = 4 ∨ n = 5 ∨ n = 6 ∨ n = 7 := by omega
    rcases this with rfl | rfl | rfl | rfl | rfl | rfl | rfl | rfl
    · exact ⟨1, ⟨by decide, by decide⟩, rfl⟩
    · exact ⟨2, ⟨by decide, by decide⟩, rfl⟩
    · exact ⟨2, ⟨by decide, by decide⟩, rfl⟩
    · exact ⟨3, ⟨by decide, by decide⟩, rfl⟩
    · exact ⟨2, ⟨by decide, by decide⟩, rfl⟩
    · exact ⟨5, ⟨by decide, by decide⟩, rfl⟩
    · exact ⟨3, ⟨by decide, by decide⟩, rfl⟩
    · exact ⟨7, ⟨by decide, by decide⟩, rfl⟩
  obtain ⟨t0, ht0, hat⟩ := hat
  walk_at "go"
  have hsl := hst.2
  refine c_map st shD (fun e => .int (e.1 * e.2.1)) (by rfl) (by omega) ?_ ?_
  · intro e he
    have hE := hst.1 e he
    have sd1 : ∀ n, SideOk n → 1 ≤ n := fun n h => by
      rcases h with h | h
      · omega
      · rw [h]; decide
    have p1 := sd1 _ hE.1
    have p2 := sd1 _ hE.2.1
    have cm : CM e.1 e.2.1 := by
      rcases hE.2.2.2 with h | h
      · exact .inl (by omega)
      · exact .inr (by omega)
    walk_at "wp"
    walk_at "ev"
  walk_at "go"
  refine c_maxL (0 :: st.map fun e => e.1 * e.2.1) (by show some _ = some _; rw [List.map_cons, List.map_map]; rfl) (by simp) fun m _ _ => ?_
  walk_at "go"
  by_cases c : 30 < m
  · rw [if_pos (by simpa using c)]
    with_reducible apply s_asg
    with_reducible (apply abs; focus (walk_at "ev"; done))
    with_reducible apply c_valD
    simp only [List.set_cons_zero, List.set_cons_succ]
    exact main Q l st (gMin t0 3) hL hst (by unfold gMin; obtain ⟨z1, z2⟩ := ht0; constructor <;> split <;> omega) q
  · rw [if_neg (by simpa using c)]
    with_reducible apply s_next
    exact main Q l st t0 hL hst ht0 q
theorem insD_map {ps : List Pc} {k : Nat} {p : Pc} : insD (ps.map pcR) (k : Int) (pcR p) = (ps.take k ++ p :: ps.drop k).map pcR := by
  unfold insD
  rw [Int.toNat_natCast, List.map_append, List.map_cons, List.map_take, List.map_drop]
abbrev dOr0 (x : Option Cell) : Prop := x = none ∨ ∃ d, x = some (.dat d)
theorem leaf_ok {l : Ls} {st : List (Int × Int × Int)} {t : Int} {e : Int × Int × Int} {n : Nat} {leaf : Int} {spots : List (Int × Int)} {ps : List Pc} {x2 x3 x4 x5 x6 : Option Cell} {N N2 N3 : En → Prop} {rt : D → En → Prop}
    (hL : LOk l) (ht : TOk t) (he : st[((n : Nat) : Int).toNat]? = some e) (hE : EOk e) (hleaf : 0 ≤ leaf ∧ leaf < e.2.2) (hI : SI l st t spots ps) (c1 : ((n : Int), leaf) ∉ spots) (hsl : spots.length ≤ 100) (hx6 : dOr0 x6)
    (hN : ∀ ps' y3 y4 y5 y6, SI l st t (spots ++ [((n : Int), leaf)]) ps' → dOr0 y6 → N [some .feed, some (.dat (lsD l)), some (.dat (stD st)), some (.dat (.int t)), some (.own ((spots ++ [((n : Int), leaf)]).map DL.prD)), some (.own (ps'.map pcR)), some (.dat (.int (n : Int))), some (.dat (shD e)), some (.dat (.int leaf)), y3, y4, y5, y6]) :
    t_leaf ⟨N, rt, N2, N3⟩ [some .feed, some (.dat (lsD l)), some (.dat (stD st)), some (.dat (.int t)), some (.own (spots.map DL.prD)), some (.own (ps.map pcR)), some (.dat (.int (n : Int))), some (.dat (shD e)), some (.dat (.int leaf)), x3, x4, x5, x6] := by
  unfold t_leaf
  have hspl : (spots.map DL.prD).length < 100000 := by rw [List.length_map]; omega
  have espl : spots.map DL.prD ++ [D.tup [.int (n : Int), .int leaf]] = (spots ++ [((n : Int), leaf)]).map DL.prD := by rw [List.map_append]; rfl
  walk_at "go"
  rw [espl]
  refine ⟨l, e, hL, hE, rfl, fun gs hG => ?_⟩
  walk_at "go"
  refine k_take (by decide) fun a a0 a1 => ?_
  obtain ⟨aw, haw⟩ : ∃ aw : Nat, atI [D.int 0, D.int 0, D.int 1, D.int 1, D.int 2, D.int 20] a = some (.int (aw : Int)) := by
    have : a = 0 ∨ a = 1 ∨ a = 2 ∨ a = 3 ∨ a = 4 ∨ a = 5 := by omega
    rcases this with rfl | rfl | rfl | rfl | rfl | rfl
    · exact ⟨0, rfl⟩
    · exact ⟨0, rfl⟩
    · exact ⟨1, rfl⟩
    · exact ⟨1, rfl⟩
    · exact ⟨2, rfl⟩
    · exact ⟨20, rfl⟩
  walk_at "go"
  refine k_take (by omega) fun tu t0 t1 => ?_
  obtain ⟨tn, rfl⟩ := Int.eq_ofNat_of_zero_le t0
  walk_at "go"
  rw [cut_from, cut_to]
  have hgn := hG.n
  refine c_cat2 rfl rfl (by rw [List.length_drop, List.length_take, List.length_map]; omega) ?_
  walk_at "go"
  rw [cut_from, ← List.map_drop, ← List.map_take, ← List.map_append, ← List.map_drop]
  have hG2 : FilOk l e 1 ((gs.drop tn ++ gs.take tn).drop aw) := fil_sub (fil_perm hG (List.perm_append_comm.trans (by rw [List.take_append_drop]))) (List.drop_sublist _ _)
  generalize (gs.drop tn ++ gs.take tn).drop aw = g2 at hG2 ⊢
  have hg2 := hG2.n
  refine c_map g2 p4D (fun p => p4D ⟨p.a, p.b, 0, 0, p.x * t, p.y * t⟩) (by rcases hx6 with rfl | ⟨d, rfl⟩ <;> rfl) (by omega) ?_ ?_
  · intro p hp
    have cx : CM p.x t := CMt ht
    have cy : CM p.y t := CMt ht
    walk_at "wp"
    walk_at "ev"
    assumption
  have e5 : g2.map (fun p => p4D ⟨p.a, p.b, 0, 0, p.x * t, p.y * t⟩) = (g2.map fun p => (⟨p.a, p.b, 0, 0, p.x * t, p.y * t⟩ : Pc)).map p4D := by rw [List.map_map]; rfl
  rw [e5]
  have hG3 := fil_scale ht hG2
  generalize (g2.map fun p => (⟨p.a, p.b, 0, 0, p.x * t, p.y * t⟩ : Pc)) = g3 at hG3 ⊢
  walk_at "go"
  refine ⟨l, e, t, g3, 0, hL, hE, ht, hG3, .inl rfl, rfl, fun g4 hG4 => ?_⟩
  walk_at "go"
  refine ⟨l, e, t, g4, 1, hL, hE, ht, hG4, .inr rfl, rfl, fun g5 hG5 => ?_⟩
  walk_at "go"
  have hadd := hI.add hG5 (Int.natCast_nonneg n) he hleaf.1 hleaf.2 c1
  have hpn := hI.n
  have hg5 := hG5.n
  refine l_N g5 p4D (fun m δ => ∃ (qs : List Pc) (y6 : Option Cell), δ = [some .feed, some (.dat (lsD l)), some (.dat (stD st)), some (.dat (.int t)), some (.own ((spots ++ [((n : Int), leaf)]).map DL.prD)), some (.own (qs.map pcR)), some (.dat (.int (n : Int))), some (.dat (shD e)), some (.dat (.int leaf)), some (.dat (.lst (g5.map p4D))), some (.dat (.int (aw : Int))), some (.dat (.int (tn : Int))), y6] ∧ dOr0 y6 ∧ qs.Perm (ps ++ (g5.take m).map (liftP n leaf))) ?_ ?_ ?_
  · exact ⟨ps, _, rfl, hx6, by simp⟩
  · rintro m p δ2 M hm ⟨qs, y6, rfl, hy6, hp⟩ hM
    have hqs : qs.length ≤ 2000 := by
      rw [hp.length_eq, List.length_append, List.length_map, List.length_take]
      omega
    simp only [List.set_cons_zero, List.set_cons_succ]
    refine s_ins (ds := qs.map pcR) rfl ?_
    walk_at "go"
    refine k_take (by omega) fun k k0 k1 => ?_
    obtain ⟨kn, rfl⟩ := Int.eq_ofNat_of_zero_le k0
    walk_at "go"
    refine c_catT (ds := [.int p.a, .int p.b, .int (n : Int), .int leaf]) (es := [.int p.x, .int p.y]) rfl rfl (by show 4 + 2 ≤ 1000; decide) ?_
    walk_at "go"
    refine c_ins2 (ds := qs.map pcR) rfl ⟨⟨by rw [List.length_map]; omega, by omega, by rw [List.length_map] at k1; omega⟩, ?_⟩
    have ei : insD (qs.map pcR) (kn : Int) (D.tup ([D.int p.a, D.int p.b, D.int (n : Int), D.int leaf] ++ [D.int p.x, D.int p.y])) = (qs.take kn ++ liftP n leaf p :: qs.drop kn).map pcR := insD_map (p := liftP n leaf p)
    try simp only [List.set_cons_zero, List.set_cons_succ]
    rw [ei]
    refine hM _ ⟨_, _, rfl, .inr ⟨_, rfl⟩, (ins_perm qs kn _).trans ?_⟩
    have et : g5.take (m + 1) = g5.take m ++ [p] := by
      rw [List.take_succ, hm]
      rfl
    rw [et, List.map_append, ← List.append_assoc]
    exact ((hp.cons (liftP n leaf p)).trans (List.perm_append_singleton _ _).symm)
  · rintro δ2 ⟨qs, y6, rfl, hy6, hp⟩
    rw [List.take_of_length_le (Nat.le_refl _)] at hp
    exact hN qs _ _ _ y6 (hadd.perm hp) hy6
theorem scene2_ok (Q : D → Prop) (l : Ls) (st : List (Int × Int × Int)) (t : Int) (hL : LOk l) (hst : StOk st) (ht : TOk t) (q : ∀ l st t ps, ScOk l st t ps → Q (scD l st t ps)) :
    t_scene2 { nx := (retF Q).nx, rt := (retF Q).rt, bk := (retF Q).bk, ct := (retF Q).ct } [some .feed, some (.dat (lsD l)), some (.dat (stD st)), some (.dat (.int t)), none, none, none, none, none, none, none, none, none] := by
  unfold t_scene2
  have hst3 := hst.2
  walk_at "go"
  have em : (((st.map shD).length : Nat) : Int).toNat = st.length := by simp
  rw [em]
  refine l_R (fun n δ => ∃ (spots : List (Int × Int)) (ps : List Pc) (x0 x1 x2 x3 x4 x5 x6 : Option Cell), δ = [some .feed, some (.dat (lsD l)), some (.dat (stD st)), some (.dat (.int t)), some (.own (spots.map DL.prD)), some (.own (ps.map pcR)), x0, x1, x2, x3, x4, x5, x6] ∧ spots.length ≤ 2 * n ∧ SI l st t spots ps ∧ dOr0 x6) ?_ ?_ ?_
  · exact ⟨[], [], _, _, _, _, _, _, _, rfl, Nat.le_refl _, ⟨fun p h => (List.not_mem_nil h).elim, List.Pairwise.nil, fun s h => Nat.zero_le _, Nat.le_refl _⟩, .inl rfl⟩
  · rintro n δ2 N hn ⟨spots, ps, x0, x1, x2, x3, x4, x5, x6, rfl, hsl, hI, hx6⟩ hN
    simp only [Int.zero_add]
    have he0 : st[n]? = some st[n] := List.getElem?_eq_getElem hn
    have hat : atI (st.map shD) (n : Int) = some (shD st[n]) := map_at he0
    have he : st[((n : Nat) : Int).toNat]? = some st[n] := by rw [Int.toNat_natCast]; exact he0
    have hE := hst.1 _ (List.getElem_mem hn)
    generalize st[n] = e at *
    walk_at "go"
    refine l_N [0, e.2.2 - 1] D.int (fun m δ => ∃ (spots : List (Int × Int)) (ps : List Pc) (x2 x3 x4 x5 x6 : Option Cell), δ = [some .feed, some (.dat (lsD l)), some (.dat (stD st)), some (.dat (.int t)), some (.own (spots.map DL.prD)), some (.own (ps.map pcR)), some (.dat (.int (n : Int))), some (.dat (shD e)), x2, x3, x4, x5, x6] ∧ spots.length ≤ 2 * n + m ∧ SI l st t spots ps ∧ dOr0 x6) ?_ ?_ ?_
    · exact ⟨spots, ps, _, _, _, _, _, rfl, by omega, hI, hx6⟩
    · rintro m leaf δ3 N3 hm ⟨spots, ps, x2, x3, x4, x5, x6, rfl, hsl, hI, hx6⟩ hN3
      have hleaf : 0 ≤ leaf ∧ leaf < e.2.2 := by
        have := List.mem_of_getElem? hm
        have h1 := hE.2.2.1
        simp at this
        omega
      walk_at "go"
      refine c_notInP spots (by rfl) ?_
      walk_at "go"
      have skip : ∀ x2, N3 [some .feed, some (.dat (lsD l)), some (.dat (stD st)), some (.dat (.int t)), some (.own (spots.map DL.prD)), some (.own (ps.map pcR)), some (.dat (.int (n : Int))), some (.dat (shD e)), x2, x3, x4, x5, x6] := fun x2 => hN3 _ ⟨spots, ps, _, _, _, _, _, rfl, by omega, hI, hx6⟩
      have hm2 : m < 2 := lt_get hm
      by_cases c1 : ((n : Int), leaf) ∈ spots
      · rw [if_neg (by simp [c1])]
        walk_at "go"
        exact skip _
      rw [if_pos (by simp [c1])]
      have go : ∀ (N2 N4 : En → Prop) (rt : D → En → Prop), t_leaf ⟨N3, rt, N2, N4⟩ [some .feed, some (.dat (lsD l)), some (.dat (stD st)), some (.dat (.int t)), some (.own (spots.map DL.prD)), some (.own (ps.map pcR)), some (.dat (.int (n : Int))), some (.dat (shD e)), some (.dat (.int leaf)), x3, x4, x5, x6] := fun N2 N4 rt =>
        leaf_ok (x2 := none) hL ht he hE hleaf hI c1 (by omega) hx6 fun ps' y3 y4 y5 y6 hI' hy => hN3 _ ⟨_, ps', _, _, _, _, _, rfl, by rw [List.length_append, List.length_singleton]; omega, hI', hy⟩
      walk_at "go"
      by_cases c2 : ((spots.map DL.prD).length : Int) = 0
      · rw [if_pos (by rw [decide_eq_true_iff]; exact c2)]
        try rw [if_pos trivial]
        exact go _ _ _
      rw [if_neg (by rw [decide_eq_true_iff]; exact c2)]
      walk_at "go"
      refine k_take (by decide) fun a a0 a1 => ?_
      walk_at "go"
      by_cases c3 : 0 < a
      · rw [if_pos (by rw [decide_eq_true_iff]; exact c3)]
        exact go _ _ _
      · rw [if_neg (by rw [decide_eq_true_iff]; exact c3)]
        walk_at "go"
        exact skip _
    · rintro δ3 ⟨spots, ps, x2, x3, x4, x5, x6, rfl, hsl, hI, hx6⟩
      exact hN _ ⟨spots, ps, _, _, _, _, _, _, _, rfl, by simp at hsl; omega, hI, hx6⟩
  · rintro δ2 ⟨spots, ps, x0, x1, x2, x3, x4, x5, x6, rfl, hsl, hI, hx6⟩
    walk_at "go"
    have := cut_to (ps.map pcR) 58
    refine ⟨rfl, ?_⟩
    have e1 : cut (ps.map pcR) none (some 58) = (ps.take 58).map pcR := by rw [List.map_take]; exact this
    rw [e1]
    exact q l st t (ps.take 58) (hI.done hL ht hst)
theorem h_Lfeed (a : Addr) (ns : List Int) (hl : ns.length ≤ 63) : t_Lfeed a ns (retE fedD) (some (.pin a) :: List.replicate (N_Lfeed.length - 1) none) := by
  have e0 : (some (Cell.pin a) :: List.replicate (N_Lfeed.length - 1) none : En) = [some (.pin a), none, none, none, none, none] := rfl
  rw [e0]
  unfold t_Lfeed
  walk_at "go"
  refine ⟨rfl, ?_⟩
  refine l_N ns D.int (fun n δ => ∃ (m : Int) (zs : List Int) (x3 x4 x5 : Option Cell), δ = [some (.pin a), some (.dat (.int m)), some (.own (zs.map D.int)), x3, x4, x5] ∧ zs.length ≤ 60 * n) ?_ ?_ ?_
  · exact ⟨_, [], _, _, _, rfl, Nat.le_refl _⟩
  · rintro n x δ2 N hn ⟨m, zs, x3, x4, x5, rfl, hz⟩ hN
    have hn2 := lt_get hn
    walk_at "go"
    have step : ∀ (k : Nat) (zs : List Int), zs.length ≤ 60 * n + k → k ≤ 60 → zs.length ≤ 60 * (n + 1) := fun k zs h1 h2 => by omega
    by_cases c : 1000000000000000000 ≤ x
    · rw [if_pos (by rw [decide_eq_true_iff]; exact c)]
      walk_at "go"
      refine l_R (fun k δ => ∃ (zs : List Int) (lf : Int) (x5 : Option Cell), δ = [some (.pin a), some (.dat (.int ((m * 8111 + x * 307 + 7) % 2147483549))), some (.own (zs.map D.int)), some (.dat (.int x)), some (.dat (.int lf)), x5] ∧ zs.length ≤ 60 * n + k) ?_ ?_ ?_
      · exact ⟨zs, x, _, rfl, by omega⟩
      · rintro k δ3 N3 hk ⟨zs, lf, y5, rfl, hz⟩ hN3
        have hk2 : k < 60 := hk
        have hzl : (zs.map D.int).length < 100000 := by rw [List.length_map]; omega
        have e9 : zs.map D.int ++ [D.int (lf % 630)] = (zs ++ [lf % 630]).map D.int := by rw [List.map_append]; rfl
        have hz9 : (zs ++ [lf % 630]).length ≤ 60 * n + (k + 1) := by rw [List.length_append, List.length_singleton]; omega
        walk_at "go"
        rw [e9]
        by_cases c2 : lf / 630 = 0
        · rw [if_pos (by rw [decide_eq_true_iff]; exact c2)]
          walk_at "go"
          exact hN _ ⟨_, _, _, _, _, rfl, step (k + 1) _ hz9 (by omega)⟩
        · rw [if_neg (by rw [decide_eq_true_iff]; exact c2)]
          walk_at "go"
          exact hN3 _ ⟨_, _, _, rfl, hz9⟩
      · rintro δ3 ⟨zs, lf, y5, rfl, hz⟩
        exact hN _ ⟨_, _, _, _, _, rfl, step 60 _ hz (by omega)⟩
    · rw [if_neg (by rw [decide_eq_true_iff]; exact c)]
      walk_at "go"
      exact hN _ ⟨_, _, _, _, _, rfl, step 0 _ hz (by omega)⟩
  · rintro δ2 ⟨m, zs, x3, x4, x5, rfl, hz⟩
    walk_at "go"
    exact ⟨m, zs, rfl⟩
theorem h_Lsame (n : Nat) : ∀ ds Q, C_Ls (n + 1) ds Q → t_Lsame n (retE Q) (startD N_Lsame ds) := by
  rintro ds Q ⟨d, hF, rfl, q⟩
  have sd : startD N_Lsame [d, d] = [some (.dat d), some (.dat d), none] := rfl
  rw [sd]
  unfold t_Lsame
  cases hF with
  | non =>
    walk_at "goi"
    exact q
  | bl =>
    walk_at "goi"
    simpa [retE, isBool] using q
  | int =>
    walk_at "goi"
    simpa [retE, isBool] using q
  | str =>
    walk_at "goi"
    simpa [retE, isBool] using q
  | @tup m es hl hF =>
    walk_at "goi"
    refine l_R (fun k δ => ∃ x, δ = [some (.dat (.tup es)), some (.dat (.tup es)), x]) ?_ ?_ ?_
    · exact ⟨_, rfl⟩
    · rintro k δ2 N hk ⟨x, rfl⟩ hN
      have hk2 : k < es.length := by simpa using hk
      have hat : atI es (k : Int) = some es[k] := by rw [atI_n, List.getElem?_eq_getElem hk2]
      simp only [Int.zero_add]
      walk_at "go"
      refine ⟨es[k], hF _ (List.getElem_mem hk2), rfl, ?_⟩
      walk_at "goi"
      exact hN _ ⟨_, rfl⟩
    · rintro δ2 ⟨x, rfl⟩
      walk_at "go"
      exact q
def t_bent3 : DTS :=
  (dSeq (dAsg (dCallF 0 C_Ltake (dCons (dC (.int 3)) dNil)) (dgName 9))
  (dSeq (dFor (dRng2 (dCons (dVar 9) (dCons (dC (.int 3)) dNil))) (dgName 10)
   (dIf (dOr (dTst (dBin fEq (dVar 10) (dVar 9))) (dTst (dBin fEq (dCallF 0 C_Ltake (dCons (dC (.int 3)) dNil)) (dC (.int 0)))))
   (dSetI 7 (dBin fIx (dBin fIx (dVar 5) (dVar 10)) (dCallF 0 C_Ltake (dCons (dUn fLen (dBin fIx (dVar 5) (dVar 10))) dNil))) (dBin fAdd (dC (.int 2)) (dVar 10)))
   dNext))
  (dRet (dCall (C_Ls 5) (dCons (dCall C_Lasked (dCons (dVar 6) (dCons (dVar 7) dNil))) (dCons (dTup (dCons (dC (.str "bad")) (dCons (dBin fIx (dVar 8) (dVar 9)) (dCons (dUn fNeg (dC (.int 1))) (dCons (dC (.bl true)) dNil))))) dNil))))))
def t_bent2b : DTS :=
  (dSeq (dAsgL 7 (dLst (dCons (dVar 3) (dCons (dVar 4) (dCons (dVar 2) (dCons (dC (.int 0)) (dCons (dC (.int 0)) dNil)))))))
  (dSeq (dAsgL 8 (dLst (dCons (dC (.str "spread")) (dCons (dC (.str "sort")) (dCons (dC (.str "sheet")) dNil)))))
  (dSeq (dIf (dOr (dTst (dBin fEq (dVar 6) (dC (.int 0)))) (dTst (dBin fEq (dVar 6) (dC (.int 3)))))
   (dSeq (dAsgL 8 (dLst (dCons (dC (.str "spread")) (dCons (dC (.str "a")) (dCons (dC (.str "b")) dNil)))))
  (dSeq (dSetI 7 (dCallF 0 C_Ltake (dCons (dUn fLen (dBin fIx (dVar 3) (dC (.int 0)))) dNil)) (dC (.int 3)))
  (dSeq (dSetI 7 (dCallF 0 C_Ltake (dCons (dUn fLen (dBin fIx (dVar 3) (dC (.int 1)))) dNil)) (dC (.int 4)))
  (dSeq (dApp 5 (dFrz (dLst (dCons (dUn fLen (dBin fIx (dVar 3) (dC (.int 0)))) (dCons (dUn fNeg (dC (.int 1))) (dCons (dC .non) (dCons (dC (.bl true)) (dCons (dC (.str "0")) (dCons (dTup (dCons (dC (.int 0)) dNil)) dNil)))))))))
  (dApp 5 (dFrz (dLst (dCons (dUn fLen (dBin fIx (dVar 3) (dC (.int 1)))) (dCons (dUn fNeg (dC (.int 1))) (dCons (dC .non) (dCons (dC (.bl false)) (dCons (dC (.str "0")) (dCons (dTup (dCons (dC (.int 0)) dNil)) dNil)))))))))))))
   (dSeq (dSetI 7 (dCallF 0 C_Ltake (dCons (dUn fLen (dVar 4)) dNil)) (dC (.int 3)))
  (dSeq (dSetI 7 (dBin fSub (dBin fIx (dBin fIx (dVar 4) (dBin fIx (dVar 7) (dC (.int 3)))) (dC (.int 2))) (dC (.int 1))) (dC (.int 4)))
  (dSeq (dApp 5 (dFrz (dLst (dCons (dUn fLen (dVar 4)) (dCons (dUn fNeg (dC (.int 1))) (dCons (dC .non) (dCons (dC (.bl true)) (dCons (dC (.str "0")) (dCons (dTup (dCons (dC (.int 0)) dNil)) dNil)))))))))
  (dApp 5 (dFrz (dLst (dCons (dBin fIx (dBin fIx (dVar 4) (dBin fIx (dVar 7) (dC (.int 3)))) (dC (.int 2))) (dCons (dUn fNeg (dC (.int 1))) (dCons (dC .non) (dCons (dC (.bl false)) (dCons (dC (.str "0")) (dCons (dTup (dCons (dC (.int 0)) dNil)) dNil)))))))))))))
  t_bent3)))
def t_bent2 : DTS :=
  (dSeq (dAsg (dCallF 0 C_Ltake (dCons (dC (.int 6)) dNil)) (dgName 6))
  (dSeq (dIf (dTst (dBin fEq (dUn fLen (dVar 4)) (dC (.int 0))))
   (dAsg (dC (.int 0)) (dgName 6))
   dNext)
  t_bent2b))
theorem bent_parts : t_Lbent = (dSeq (dAsg (dBin fIx (dVar 1) (dC (.int 0))) (dgName 3))
  (dSeq (dAsg (dBin fIx (dVar 1) (dC (.int 1))) (dgName 4))
  (dSeq (dAsgL 5 (dLst (dCons (dFrz (dLst (dCons (dFrz (dUL fListOf (dVar 2))) (dCons (dC .non) (dCons (dBin fCatT (dVar 2) (dTup (dCons (dTup (dCons (dC (.int 0)) (dCons (dC (.int 0)) (dCons (dUn fLen (dVar 4)) (dCons (dC (.int 0)) (dCons (dTup (dCons (dC (.int 0)) (dCons (dC (.int 1)) dNil))) (dCons (dTup (dCons (dC (.int 0)) (dCons (dC (.int 1)) dNil))) dNil))))))) dNil))) (dCons (dBin fCatT (dVar 2) (dTup (dCons (dTup (dCons (dC (.int 0)) dNil)) dNil))) dNil)))))) dNil)))
  (dSeq (dIf (dTst (dBin fGt (dUn fLen (dVar 2)) (dC (.int 0))))
   (dAsgL 5 (dLst (dCons (dFrz (dCatL (dBin fIx (dVar 5) (dC (.int 0))) (dFrz (dLst (dCons (dBin fCatT (dVar 2) (dTup (dCons (dBin fIx (dVar 2) (dCallF 0 C_Ltake (dCons (dUn fLen (dVar 2)) dNil))) dNil))) (dCons (dBin fCatT (dTup (dCons (dFrz (dUL fListOf (dBin fIx (dVar 2) (dC (.int 0))))) dNil)) (dVar 2)) dNil)))))) dNil)))
   dNext)
  t_bent2)))) := rfl
/-- what the last part of bent starts from -/
structure BentOk (l : Ls) (st : List (Int × Int × Int)) (t : Int) (ps : List Pc) (wh : Int) (O0 O1 O2 : List D) (d1 d2 : D) (n1 n2 : Str) : Prop where
  r : 0 ≤ wh ∧ wh < 6
  o0 : 0 < O0.length ∧ O0.length ≤ 6 ∧ ∀ d, d ∈ O0 → BadSp l st t d
  w : (((wh = 0 ∨ wh = 3) ∧ ∃ a b, d1 = .int a ∧ d2 = .int b ∧ KOk l a b ∧ NoIx l.w.length O1 ∧ NoIx l.h.length O2 ∧ n1 = "a" ∧ n2 = "b") ∨
    ((wh = 1 ∨ wh = 2 ∨ wh = 4 ∨ wh = 5) ∧ ∃ s e, d1 = .int s ∧ 0 ≤ s ∧ st[s.toNat]? = some e ∧ NoIx st.length O1 ∧ NoIx e.2.2 O2 ∧ n1 = "sort" ∧ n2 = "sheet"))
theorem bent3_ok {l : Ls} {st : List (Int × Int × Int)} {t : Int} {ps : List Pc} {wh : Int} {O0 O1 O2 : List D} {d1 d2 : D} {n1 n2 : Str} (hS : ScOk l st t ps) (hb : BentOk l st t ps wh O0 O1 O2 d1 d2 n1 n2) (Q : D → Prop) (q : Q (.bl true)) :
    t_bent3 { nx := (retF Q).nx, rt := (retF Q).rt, bk := (retF Q).bk, ct := (retF Q).ct } [some .feed, some (.dat (scD l st t ps)), some (.dat (spD t ps)), some (.dat (lsD l)), some (.dat (stD st)), some (.own [.lst O0, .lst O1, .lst O2]), some (.dat (.int wh)), some (.own [lsD l, stD st, spD t ps, d1, d2]), some (.own [.str "spread", .str n1, .str n2]), none, none] := by
  unfold t_bent3
  have hO : ∀ k : Nat, k < 3 → ∃ Ok, [O0, O1, O2][k]? = some Ok ∧ 0 < Ok.length ∧ Ok.length ≤ 6 := by
    have o1 : O1.length = 6 := by rcases hb.w with ⟨_, a, b, _, _, _, h, _⟩ | ⟨_, s, e, _, _, _, h, _⟩ <;> exact h.1
    have o2 : O2.length = 6 := by rcases hb.w with ⟨_, a, b, _, _, _, _, h, _⟩ | ⟨_, s, e, _, _, _, _, h, _⟩ <;> exact h.1
    intro k hk
    have : k = 0 ∨ k = 1 ∨ k = 2 := by omega
    rcases this with rfl | rfl | rfl
    · exact ⟨O0, rfl, hb.o0.1, hb.o0.2.1⟩
    · exact ⟨O1, rfl, by omega, by omega⟩
    · exact ⟨O2, rfl, by omega, by omega⟩
  have eO : [D.lst O0, D.lst O1, D.lst O2] = [O0, O1, O2].map D.lst := rfl
  rw [eO]
  walk_at "go"
  refine k_take (by decide) fun f0 h0 h1 => ?_
  obtain ⟨f, rfl⟩ := Int.eq_ofNat_of_zero_le h0
  walk_at "go"
  refine l_R (fun j δ => ∃ (L : List D) (x10 : Option Cell), δ = [some .feed, some (.dat (scD l st t ps)), some (.dat (spD t ps)), some (.dat (lsD l)), some (.dat (stD st)), some (.own ([O0, O1, O2].map D.lst)), some (.dat (.int wh)), some (.own L), some (.own [.str "spread", .str n1, .str n2]), some (.dat (.int (f : Int))), x10] ∧ L.length = 5 ∧ (∀ i, i < 2 + f → L[i]? = [lsD l, stD st, spD t ps, d1, d2][i]?) ∧ (1 ≤ j → ∃ d Ok, [O0, O1, O2][f]? = some Ok ∧ d ∈ Ok ∧ L[2 + f]? = some d)) ?_ ?_ ?_
  · exact ⟨_, _, rfl, rfl, fun i _ => rfl, fun h => by omega⟩
  · rintro n δ2 N hn ⟨L, x10, rfl, hL, hi, hj⟩ hN
    have hk3 : f + n < 3 := by omega
    obtain ⟨Ok, hOk, hO1, hO2⟩ := hO (f + n) hk3
    have ek : ((f : Int) + (n : Int)) = ((f + n : Nat) : Int) := by omega
    rw [ek]
    generalize hk : f + n = k at hOk hk3
    have hat : atI ([O0, O1, O2].map D.lst) (k : Int) = some (.lst Ok) := map_at hOk
    have put : ∀ d, d ∈ Ok → N [some .feed, some (.dat (scD l st t ps)), some (.dat (spD t ps)), some (.dat (lsD l)), some (.dat (stD st)), some (.own ([O0, O1, O2].map D.lst)), some (.dat (.int wh)), some (.own (L.set (2 + k) d)), some (.own [.str "spread", .str n1, .str n2]), some (.dat (.int (f : Int))), some (.dat (.int (k : Int)))] := fun d hd => by
      refine hN _ ⟨L.set (2 + k) d, _, rfl, by rw [List.length_set]; exact hL, fun i hi' => ?_, fun _ => ?_⟩
      · rw [List.getElem?_set_ne (by omega)]
        exact hi i hi'
      · by_cases c : n = 0
        · have e : k = f := by omega
          subst e
          exact ⟨d, Ok, hOk, hd, List.getElem?_set_self (by omega)⟩
        · rw [List.getElem?_set_ne (by omega)]
          exact hj (by omega)
    walk_at "go"
    by_cases c : ((k : Nat) : Int) = (f : Int)
    · rw [if_pos (by rw [decide_eq_true_iff]; exact c), if_pos trivial]
      walk_at "go"
      refine k_take (by have := hO1; omega) fun m0 m1 m2 => ?_
      obtain ⟨m, rfl⟩ := Int.eq_ofNat_of_zero_le m1
      have hml : m < Ok.length := by omega
      have hatm : atI Ok (m : Int) = some Ok[m] := by rw [atI_n, List.getElem?_eq_getElem hml]
      walk_at "go"
      have e2 : (2 : Int) + (k : Int) = ((2 + k : Nat) : Int) := by omega
      rw [e2]
      refine c_setI2 (by rfl) (j := 2 + k) (by rw [hL]; exact ixN_nat (by omega)) ?_
      try simp only [List.set_cons_zero, List.set_cons_succ]
      exact put _ (List.getElem_mem hml)
    · rw [if_neg (by rw [decide_eq_true_iff]; exact c)]
      walk_at "go"
      refine k_take (by decide) fun z z0 z1 => ?_
      walk_at "go"
      by_cases c2 : z = 0
      · rw [if_pos (by rw [decide_eq_true_iff]; exact c2)]
        walk_at "go"
        refine k_take (by have := hO1; omega) fun m0 m1 m2 => ?_
        obtain ⟨m, rfl⟩ := Int.eq_ofNat_of_zero_le m1
        have hml : m < Ok.length := by omega
        have hatm : atI Ok (m : Int) = some Ok[m] := by rw [atI_n, List.getElem?_eq_getElem hml]
        walk_at "go"
        have e2 : (2 : Int) + (k : Int) = ((2 + k : Nat) : Int) := by omega
        rw [e2]
        refine c_setI2 (by rfl) (j := 2 + k) (by rw [hL]; exact ixN_nat (by omega)) ?_
        try simp only [List.set_cons_zero, List.set_cons_succ]
        exact put _ (List.getElem_mem hml)
      · rw [if_neg (by rw [decide_eq_true_iff]; exact c2)]
        walk_at "go"
        exact hN _ ⟨L, _, rfl, hL, hi, fun _ => hj (by omega)⟩
  · rintro δ2 ⟨L, x10, rfl, hL, hi, hj⟩
    obtain ⟨d, Ok, hOk, hd, hLf⟩ := hj (by omega)
    walk_at "go"
    have hlen5 : ∃ e0 e1 e2 e3 e4, L = [e0, e1, e2, e3, e4] := by
      match L, hL with
      | [e0, e1, e2, e3, e4], _ => exact ⟨_, _, _, _, _, rfl⟩
    obtain ⟨e0, e1, e2, e3, e4, rfl⟩ := hlen5
    have i0 : e0 = lsD l := by simpa using hi 0 (by omega)
    have i1 : e1 = stD st := by simpa using hi 1 (by omega)
    subst i0
    subst i1
    suffices h : ∀ Q2 : D → Prop, (∀ nm : Str, [D.str "spread", D.str n1, D.str n2][f]? = some (.str nm) → Q2 (badD nm)) → C_Lasked [D.int wh, D.lst [lsD l, stD st, e2, e3, e4]] Q2 by
      refine h _ fun nm hnm => ?_
      have hat2 : atI [D.str "spread", D.str n1, D.str n2] (f : Int) = some (.str nm) := by rw [atI_n]; exact hnm
      walk_at "go"
      refine ⟨badD nm, .tup (by show 4 ≤ 1000; decide) (fun d hd => by
        simp only [List.mem_cons, List.not_mem_nil, or_false] at hd
        rcases hd with rfl | rfl | rfl | rfl
        · exact .str
        · exact .str
        · exact .int
        · exact .bl), rfl, ?_⟩
      walk_at "go"
      exact ⟨rfl, q⟩
    intro Q2 hQ
    have hf : f = 0 ∨ f = 1 ∨ f = 2 := by omega
    have sp : 1 ≤ f → e2 = spD t ps := fun h => by simpa using hi 2 (by omega)
    have s3 : 2 ≤ f → e3 = d1 := fun h => by simpa using hi 3 (by omega)
    have b0 : f = 0 → BadSp l st t e2 := fun h => by
      subst h
      have e1 : O0 = Ok := by simpa using hOk
      have e5 : e2 = d := by simpa using hLf
      rw [e5]
      exact hb.o0.2.2 d (e1 ▸ hd)
    have b1 : f = 1 → e3 ∈ O1 := fun h => by
      subst h
      have e1 : O1 = Ok := by simpa using hOk
      have e5 : e3 = d := by simpa using hLf
      rw [e5, e1]
      exact hd
    have b2 : f = 2 → e4 ∈ O2 := fun h => by
      subst h
      have e1 : O2 = Ok := by simpa using hOk
      have e5 : e4 = d := by simpa using hLf
      rw [e5, e1]
      exact hd
    have hx : ∀ nm : Str, [D.str "spread", D.str n1, D.str n2][f]? = some (.str nm) → xcW (fun v u => u = .int (-1) ∧ ∃ w, v = .str w ∧ Q2 (badD w)) nm := fun nm h => ⟨rfl, nm, rfl, hQ nm h⟩
    refine ⟨wh, l, st, e2, e3, e4, hb.r.1, hb.r.2, rfl, fun hw => ?_, fun hw => ?_, fun hw => ?_⟩
    · rcases hb.w with ⟨_, a, b, rfl, rfl, hk, o1, o2, rfl, rfl⟩ | ⟨hw2, _⟩
      · refine ⟨l, st, t, e2, e3, e4, hS.tk, rfl, ?_⟩
        rcases hf with hf | hf | hf
        · exact .inl ⟨b0 hf, hx _ (by subst hf; rfl)⟩
        · exact .inr ⟨ps, sp (by omega), hS, .inl ⟨o1.2 _ (b1 hf), hx _ (by subst hf; rfl)⟩⟩
        · exact .inr ⟨ps, sp (by omega), hS, .inr (.inl ⟨⟨a, s3 (by omega), hk.1, hk.2.1⟩, o2.2 _ (b2 hf), hx _ (by subst hf; rfl)⟩)⟩
      · omega
    · rcases hb.w with ⟨hw2, _⟩ | ⟨_, s, e, rfl, hs, he, o1, o2, rfl, rfl⟩
      · omega
      · refine ⟨l, st, t, e2, e3, e4, hS.tk, rfl, ?_⟩
        rcases hf with hf | hf | hf
        · exact .inl ⟨b0 hf, hx _ (by subst hf; rfl)⟩
        · exact .inr ⟨ps, sp (by omega), hS, .inl ⟨o1.2 _ (b1 hf), hx _ (by subst hf; rfl)⟩⟩
        · exact .inr ⟨ps, sp (by omega), hS, .inr ⟨s, e, s3 (by omega), hs, he, .inl ⟨o2.2 _ (b2 hf), hx _ (by subst hf; rfl)⟩⟩⟩
    · rcases hb.w with ⟨hw2, _⟩ | ⟨_, s, e, rfl, hs, he, o1, o2, rfl, rfl⟩
      · omega
      · refine ⟨l, st, t, e2, e3, e4, hS.tk, rfl, ?_⟩
        rcases hf with hf | hf | hf
        · exact .inl ⟨b0 hf, hx _ (by subst hf; rfl)⟩
        · exact .inr ⟨ps, sp (by omega), hS, .inl ⟨o1.2 _ (b1 hf), hx _ (by subst hf; rfl)⟩⟩
        · exact .inr ⟨ps, sp (by omega), hS, .inr ⟨s, e, s3 (by omega), hs, he, .inl ⟨o2.2 _ (b2 hf), hx _ (by subst hf; rfl)⟩⟩⟩
theorem bent2_ok {l : Ls} {st : List (Int × Int × Int)} {t : Int} {ps : List Pc} {O0 : List D} (hS : ScOk l st t ps) (hO : 0 < O0.length ∧ O0.length ≤ 6 ∧ ∀ d, d ∈ O0 → BadSp l st t d) (Q : D → Prop) (q : Q (.bl true)) :
    t_bent2 { nx := (retF Q).nx, rt := (retF Q).rt, bk := (retF Q).bk, ct := (retF Q).ct } [some .feed, some (.dat (scD l st t ps)), some (.dat (spD t ps)), some (.dat (lsD l)), some (.dat (stD st)), some (.own [.lst O0]), none, none, none, none, none] := by
  unfold t_bent2
  have hst := hS.sk.2
  have go : ∀ wh : Int, 0 ≤ wh → wh < 6 → (st.length = 0 → wh = 0) → t_bent2b { nx := (retF Q).nx, rt := (retF Q).rt, bk := (retF Q).bk, ct := (retF Q).ct } [some .feed, some (.dat (scD l st t ps)), some (.dat (spD t ps)), some (.dat (lsD l)), some (.dat (stD st)), some (.own [.lst O0]), some (.dat (.int wh)), none, none, none, none] := by
    intro wh w0 w1 w2
    unfold t_bent2b
    walk_at "go"
    have hr : ∀ r, r ∈ rowsL → 0 < r.length := by decide
    have hw0 := hr _ hS.lk.w
    have hh0 := hr _ hS.lk.h
    by_cases c : wh = 0 ∨ wh = 3
    · rw [if_pos (by simpa using c)]
      walk_at "go"
      refine k_take (by rw [List.length_map]; omega) fun a a0 a1 => ?_
      walk_at "go"
      refine c_setI2 (by rfl) (j := 3) (by rfl) ?_
      try simp only [List.set_cons_zero, List.set_cons_succ]
      walk_at "go"
      refine k_take (by rw [List.length_map]; omega) fun b b0 b1 => ?_
      walk_at "go"
      refine c_setI2 (by rfl) (j := 4) (by rfl) ?_
      try simp only [List.set_cons_zero, List.set_cons_succ]
      walk_at "go"
      rw [List.length_map] at a1 b1
      refine bent3_ok hS ⟨⟨w0, w1⟩, hO, .inl ⟨c, a, b, rfl, rfl, ⟨a0, a1, b0, b1⟩, ?_, ?_, rfl, rfl⟩⟩ Q q
      · rw [List.length_map]
        exact noIx_of _
      · rw [List.length_map]
        exact noIx_of _
    · rw [if_neg (by simpa using c)]
      have hs0 : 0 < st.length := by
        by_cases z : st.length = 0
        · exact absurd (.inl (w2 z)) c
        · omega
      walk_at "go"
      refine k_take (by rw [List.length_map]; omega) fun s0 h0 h1 => ?_
      rw [List.length_map] at h1
      obtain ⟨s, rfl⟩ := Int.eq_ofNat_of_zero_le h0
      have hsl : s < st.length := by omega
      have he : st[((s : Nat) : Int).toNat]? = some st[s] := by rw [Int.toNat_natCast]; exact List.getElem?_eq_getElem hsl
      have hat : atI (st.map shD) (s : Int) = some (shD st[s]) := map_at (List.getElem?_eq_getElem hsl)
      generalize st[s] = e at he hat
      walk_at "go"
      refine c_setI2 (by rfl) (j := 3) (by rfl) ?_
      try simp only [List.set_cons_zero, List.set_cons_succ]
      walk_at "go"
      refine c_setI2 (by rfl) (j := 4) (by rfl) ?_
      try simp only [List.set_cons_zero, List.set_cons_succ]
      walk_at "go"
      refine bent3_ok hS ⟨⟨w0, w1⟩, hO, .inr ⟨by omega, (s : Int), e, rfl, h0, he, ?_, noIx_of _, rfl, rfl⟩⟩ Q q
      rw [List.length_map]
      exact noIx_of _
  walk_at "go"
  refine k_take (by decide) fun wh w0 w1 => ?_
  walk_at "go"
  by_cases c : ((st.map shD).length : Int) = 0
  · rw [if_pos (by rw [decide_eq_true_iff]; exact c)]
    walk_at "go"
    exact go 0 (by omega) (by omega) (fun _ => rfl)
  · rw [if_neg (by rw [decide_eq_true_iff]; exact c)]
    walk_at "go"
    exact go wh w0 w1 (fun h => by rw [List.length_map] at c; omega)
theorem h_Lbent : ∀ ds Q, C_Lbent ds Q → t_Lbent (retF Q) (startF N_Lbent ds) := by
  rintro ds Q ⟨l, st, t, ps, hS, rfl, q⟩
  have sd : startF N_Lbent [scD l st t ps, spD t ps] = [some .feed, some (.dat (scD l st t ps)), some (.dat (spD t ps)), none, none, none, none, none, none, none, none] := rfl
  rw [sd, bent_parts]
  have hn := hS.nk
  have hpl : (ps.map (pcD t)).length ≤ 58 := by rw [List.length_map]; omega
  walk_at "go"
  have eN : ((st.map shD).length : Int) = (st.length : Int) := by rw [List.length_map]
  rw [eN]
  have bads : ∀ d, d ∈ [D.lst (ps.map (pcD t)), D.non, D.tup (ps.map (pcD t) ++ [.tup [.int 0, .int 0, .int st.length, .int 0, .tup [.int 0, .int 1], .tup [.int 0, .int 1]]]), D.tup (ps.map (pcD t) ++ [.tup [.int 0]])] → BadSp l st t d := fun d hd => by
    simp only [List.mem_cons, List.not_mem_nil, or_false] at hd
    rcases hd with rfl | rfl | rfl | rfl
    · exact .notT rfl
    · exact .notT rfl
    · exact bad_far hS
    · exact bad_short hS
  by_cases c : 0 < ((ps.map (pcD t)).length : Int)
  · rw [if_pos (by rw [decide_eq_true_iff]; exact c)]
    have c2 : 0 < ps.length := by rw [List.length_map] at c; omega
    have hat0 : atI (ps.map (pcD t)) 0 = some (pcD t ps[0]) := map_at (n := 0) (List.getElem?_eq_getElem c2)
    walk_at "go"
    refine k_take c fun k0 h0 h1 => ?_
    obtain ⟨k, rfl⟩ := Int.eq_ofNat_of_zero_le h0
    have hk : k < ps.length := by rw [List.length_map] at h1; omega
    have hatk : atI (ps.map (pcD t)) (k : Int) = some (pcD t ps[k]) := map_at (List.getElem?_eq_getElem hk)
    have hm := List.getElem_mem hk
    generalize ps[k] = p at hatk hm
    generalize ps[0] = p0 at hat0
    walk_at "go"
    refine bent2_ok hS ⟨by show 0 < 6; decide, by show 6 ≤ 6; decide, fun d hd => ?_⟩ Q q
    rcases List.mem_append.mp hd with hd | hd
    · exact bads d hd
    · simp only [List.mem_cons, List.not_mem_nil, or_false] at hd
      rcases hd with rfl | rfl
      · exact bad_twice hS hm
      · exact bad_list
  · rw [if_neg (by rw [decide_eq_true_iff]; exact c)]
    walk_at "go"
    exact bent2_ok hS ⟨by show 0 < 4; decide, by show 4 ≤ 6; decide, bads⟩ Q q
def t_lawS : DTS :=
   (dFor (dRng1 (dCons (dC (.int 2)) dNil)) (dgName 11)
   (dSeq (dAsg (dCall C_Lasked (dCons (dBin fAdd (dBin fSub (dC (.int 2)) (dVar 11)) (dBin fMul (dC (.int 3)) (dCallF 1 C_Ltake (dCons (dC (.int 2)) dNil)))) (dCons (dFrz (dLst (dCons (dVar 3) (dCons (dVar 4) (dCons (dVar 5) (dCons (dVar 9) (dCons (dVar 10) dNil))))))) dNil))) (dgName 8))
  (dIf (dNot (dTst (dCall (C_Ls 5) (dCons (dVar 8) (dCons (dTup (dCons (dC (.str "good")) (dCons (dCall C_Lclear (dCons (dVar 2) (dCons (dVar 9) (dCons (dVar 10) (dCons (dVar 11) dNil))))) dNil))) dNil)))))
   (dRet (dC (.bl false)))
   dNext)))
theorem flat_gaps {t : Int} {gs : List (Int × Int)} (hl : gs.length ≤ 1000) : Flat 4 (D.tup [.str "good", gapsD t gs]) := by
  refine .tup (by show 2 ≤ 1000; decide) fun d hd => ?_
  simp only [List.mem_cons, List.not_mem_nil, or_false] at hd
  rcases hd with rfl | rfl
  · exact .str
  · refine .tup (by rw [List.length_map]; exact hl) fun d hd => ?_
    obtain ⟨g, _, rfl⟩ := List.mem_map.mp hd
    refine .tup (by show 2 ≤ 1000; decide) fun d hd => ?_
    simp only [List.mem_cons, List.not_mem_nil, or_false] at hd
    rcases hd with rfl | rfl
    · refine .tup (by show 2 ≤ 1000; decide) fun d hd => ?_
      simp only [List.mem_cons, List.not_mem_nil, or_false] at hd
      rcases hd with rfl | rfl
      · exact .int
      · exact .int
    · refine .tup (by show 2 ≤ 1000; decide) fun d hd => ?_
      simp only [List.mem_cons, List.not_mem_nil, or_false] at hd
      rcases hd with rfl | rfl
      · exact .int
      · exact .int
theorem h_law : t_law (retE (fun d => d = .bl true)) [none, some .feed, none, none, none, none, none, none, none, none, none, none] := by
  unfold t_law
  walk_at "go"
  refine ⟨rfl, fun l st t ps hS => ?_⟩
  walk_at "go"
  refine ⟨t, ps, hS.tk, hS.nk, rfl, ?_⟩
  walk_at "go"
  have hr : ∀ r, r ∈ rowsL → 0 < r.length := by decide
  have hw0 := hr _ hS.lk.w
  have hh0 := hr _ hS.lk.h
  refine k_take (by rw [List.length_map]; omega) fun a a0 a1 => ?_
  walk_at "go"
  refine k_take (by rw [List.length_map]; omega) fun b b0 b1 => ?_
  walk_at "go"
  rw [List.length_map] at a1 b1
  obtain ⟨kinds, ek, hk⟩ : ∃ kinds : List (Int × Int), [D.tup [D.int (((l.w.map D.int).length : Int) - 1), D.int (((l.h.map D.int).length : Int) - 1)], D.tup [D.int 0, D.int 0], D.tup [D.int (((l.w.map D.int).length : Int) - 1), D.int 0], D.tup [D.int 0, D.int (((l.h.map D.int).length : Int) - 1)], D.tup [D.int a, D.int b]] = kinds.map DL.prD ∧ ∀ k, k ∈ kinds → KOk l k.1 k.2 := by
    refine ⟨[((l.w.length : Int) - 1, (l.h.length : Int) - 1), (0, 0), ((l.w.length : Int) - 1, 0), (0, (l.h.length : Int) - 1), (a, b)], by rw [List.length_map, List.length_map]; rfl, fun k hk => ?_⟩
    simp only [List.mem_cons, List.not_mem_nil, or_false] at hk
    unfold KOk
    rcases hk with rfl | rfl | rfl | rfl | rfl <;> dsimp only <;> omega
  rw [ek]
  refine l_N kinds DL.prD (fun n δ => ∃ (x7 x8 : Option Cell), δ = [none, some .feed, some (.dat (scD l st t ps)), some (.dat (lsD l)), some (.dat (stD st)), some (.dat (spD t ps)), some (.dat (.lst (kinds.map DL.prD))), x7, x8, none, none, none]) ?_ ?_ ?_
  · exact ⟨_, _, rfl⟩
  · rintro n k δ2 N hn ⟨x7, x8, rfl⟩ hN
    have hkk := hk k (List.mem_of_getElem? hn)
    have eprd : DL.prD k = D.tup [D.int k.1, D.int k.2] := rfl
    rw [eprd]
    walk_at "go"
    refine k_take (by decide) fun m m0 m1 => ?_
    walk_at "go"
    have hm : m = 0 ∨ m = 1 := by omega
    refine ⟨3 * m, l, st, spD t ps, .int k.1, .int k.2, by omega, by omega, rfl, fun _ => ?_, fun h => by omega, fun h => by omega⟩
    refine ⟨l, st, t, spD t ps, .int k.1, .int k.2, hS.tk, rfl, .inr ⟨ps, rfl, hS, .inr (.inr ⟨k.1, k.2, rfl, rfl, hkk, fun s h X Y hF => ?_, fun hn => ?_⟩)⟩⟩
    · unfold goodD
      walk_at "goi"
      refine ⟨l, st, t, ps, k.1, k.2, hS, hkk, rfl, ?_⟩
      have e1 : ∀ i : Decidable (Free l st t ps k.1 k.2), @decide _ i = true := fun i => decide_eq_true ⟨s, h, X, Y, hF⟩
      rw [e1]
      walk_at "goi"
      refine ⟨l, st, t, ps, k.1, k.2, s, h, X, Y, hS, hF, rfl, ?_⟩
      walk_at "goi"
      exact hN _ ⟨_, _, rfl⟩
    · unfold goodD
      walk_at "goi"
      refine ⟨l, st, t, ps, k.1, k.2, hS, hkk, rfl, ?_⟩
      have e1 : ∀ i : Decidable (Free l st t ps k.1 k.2), @decide _ i = false := fun i => decide_eq_false hn
      rw [e1]
      walk_at "goi"
      exact hN _ ⟨_, _, rfl⟩
  · rintro δ2 ⟨x7, x8, rfl⟩
    have hst3 := hS.sk.2
    walk_at "go"
    have em : (((st.map shD).length : Nat) : Int).toNat = st.length := by simp
    rw [em]
    refine l_R (fun n δ => ∃ (x7 x8 x9 x10 x11 : Option Cell), δ = [none, some .feed, some (.dat (scD l st t ps)), some (.dat (lsD l)), some (.dat (stD st)), some (.dat (spD t ps)), some (.dat (.lst (kinds.map DL.prD))), x7, x8, x9, x10, x11]) ?_ ?_ ?_
    · exact ⟨_, _, _, _, _, rfl⟩
    · rintro n δ2 N hn ⟨x7, x8, x9, x10, x11, rfl⟩ hN
      simp only [Int.zero_add]
      have he0 : st[n]? = some st[n] := List.getElem?_eq_getElem hn
      have hat : atI (st.map shD) (n : Int) = some (shD st[n]) := map_at he0
      have he : st[((n : Nat) : Int).toNat]? = some st[n] := by rw [Int.toNat_natCast]; exact he0
      have hE := hS.sk.1 _ (List.getElem_mem hn)
      generalize st[n] = e at *
      walk_at "go"
      refine l_N [0, gMin 1 (e.2.2 - 1), e.2.2 - 1] D.int (fun m δ => ∃ (x7 x8 x10 x11 : Option Cell), δ = [none, some .feed, some (.dat (scD l st t ps)), some (.dat (lsD l)), some (.dat (stD st)), some (.dat (spD t ps)), some (.dat (.lst (kinds.map DL.prD))), x7, x8, some (.dat (.int (n : Int))), x10, x11]) ?_ ?_ ?_
      · exact ⟨_, _, _, _, rfl⟩
      · rintro m leaf δ3 N3 hm ⟨x7, x8, x10, x11, rfl⟩ hN3
        have hleaf : 0 ≤ leaf ∧ leaf < e.2.2 := by
          have := List.mem_of_getElem? hm
          have h1 := hE.2.2.1
          simp only [List.mem_cons, List.not_mem_nil, or_false] at this
          unfold gMin at this
          split at this <;> omega
        have sides : ∀ (N2 N4 : En → Prop) (rt : D → En → Prop), t_lawS ⟨N3, rt, N2, N4⟩ [none, some .feed, some (.dat (scD l st t ps)), some (.dat (lsD l)), some (.dat (stD st)), some (.dat (spD t ps)), some (.dat (.lst (kinds.map DL.prD))), x7, x8, some (.dat (.int (n : Int))), some (.dat (.int leaf)), x11] := by
          intro N2 N4 rt
          unfold t_lawS
          walk_at "go"
          refine l_R (fun j δ => ∃ (x8 x11 : Option Cell), δ = [none, some .feed, some (.dat (scD l st t ps)), some (.dat (lsD l)), some (.dat (stD st)), some (.dat (spD t ps)), some (.dat (.lst (kinds.map DL.prD))), x7, x8, some (.dat (.int (n : Int))), some (.dat (.int leaf)), x11]) ?_ ?_ ?_
          · exact ⟨_, _, rfl⟩
          · rintro j δ4 N5 hj ⟨x8, x11, rfl⟩ hN5
            simp only [Int.zero_add]
            have hj2 : j < 2 := hj
            walk_at "go"
            refine k_take (by decide) fun z z0 z1 => ?_
            walk_at "go"
            have hsd : (j : Int) = 0 ∨ (j : Int) = 1 := by omega
            suffices h : ∀ Q2 : D → Prop, (∀ gs : List (Int × Int), gs.length ≤ 1000 → Gaps (eS e (j : Int) * t) (strOf l t ps (n : Int) leaf (j : Int)) gs → Q2 (goodD (gapsD t gs))) → C_Lasked [.int (2 - (j : Int) + 3 * z), .lst [lsD l, stD st, spD t ps, .int (n : Int), .int leaf]] Q2 by
              refine h _ fun gs hl hG => ?_
              unfold goodD
              walk_at "go"
              refine ⟨l, st, t, ps, (n : Int), leaf, e, (j : Int), hS, Int.natCast_nonneg n, he, hleaf.1, hleaf.2, hsd, rfl, fun gs2 hG2 => ?_⟩
              have eg := hG2.uniq hG
              subst eg
              walk_at "go"
              refine ⟨_, flat_gaps hl, rfl, ?_⟩
              walk_at "goi"
              exact hN5 _ ⟨_, _, rfl⟩
            intro Q2 fin
            refine ⟨2 - (j : Int) + 3 * z, l, st, spD t ps, .int (n : Int), .int leaf, by omega, by omega, rfl, fun h => by omega, fun h => ?_, fun h => ?_⟩
            · have j1 : (j : Int) = 1 := by omega
              refine ⟨l, st, t, spD t ps, .int (n : Int), .int leaf, hS.tk, rfl, .inr ⟨ps, rfl, hS, .inr ⟨(n : Int), e, rfl, Int.natCast_nonneg n, he, .inr ⟨leaf, rfl, hleaf.1, hleaf.2, (j : Int), hsd, fun x hx => by cases hx; exact j1, fin⟩⟩⟩⟩
            · have j1 : (j : Int) = 0 := by omega
              refine ⟨l, st, t, spD t ps, .int (n : Int), .int leaf, hS.tk, rfl, .inr ⟨ps, rfl, hS, .inr ⟨(n : Int), e, rfl, Int.natCast_nonneg n, he, .inr ⟨leaf, rfl, hleaf.1, hleaf.2, (j : Int), hsd, fun x hx => by cases hx; exact j1, fin⟩⟩⟩⟩
          · rintro δ4 ⟨x8, x11, rfl⟩
            exact hN3 _ ⟨_, _, _, _, rfl⟩
        walk_at "go"
        by_cases c : leaf = 0
        · rw [if_pos (by rw [decide_eq_true_iff]; exact c)]
          try rw [if_pos trivial]
          exact sides _ _ _
        · rw [if_neg (by rw [decide_eq_true_iff]; exact c)]
          walk_at "go"
          refine k_take (by decide) fun z z0 z1 => ?_
          walk_at "go"
          by_cases c2 : z = 0
          · rw [if_pos (by rw [decide_eq_true_iff]; exact c2)]
            exact sides _ _ _
          · rw [if_neg (by rw [decide_eq_true_iff]; exact c2)]
            walk_at "go"
            exact hN3 _ ⟨_, _, _, _, rfl⟩
      · rintro δ3 ⟨x7, x8, x10, x11, rfl⟩
        exact hN _ ⟨_, _, _, _, _, rfl⟩
    · rintro δ3 ⟨x7, x8, x9, x10, x11, rfl⟩
      walk_at "go"
      refine ⟨l, st, t, ps, hS, rfl, ?_⟩
      walk_at "go"
      rfl
theorem mono_free {ds : List D} {P P' : D → Prop} {xc : V → V → Prop} (h : C_free_place ds P xc) (m : ∀ d, P d → P' d) : C_free_place ds P' xc := by
  obtain ⟨l, st, t, d, d1, d2, ht, e, h⟩ := h
  refine ⟨l, st, t, d, d1, d2, ht, e, ?_⟩
  rcases h with h | ⟨ps, e1, hS, h⟩
  · exact .inl h
  · refine .inr ⟨ps, e1, hS, ?_⟩
    rcases h with h | h | ⟨a, b, e2, e3, hk, h1, h2⟩
    · exact .inl h
    · exact .inr (.inl h)
    · exact .inr (.inr ⟨a, b, e2, e3, hk, fun s h X Y hF => m _ (h1 s h X Y hF), fun hn => m _ (h2 hn)⟩)
theorem mono_clear {f : D → D → D → D → D → List D} {o : Option Int} {ds : List D} {P P' : D → Prop} {xc : V → V → Prop} (h : clearSpec f o ds P xc) (m : ∀ d, P d → P' d) : clearSpec f o ds P' xc := by
  obtain ⟨l, st, t, d, d1, d2, ht, e, h⟩ := h
  refine ⟨l, st, t, d, d1, d2, ht, e, ?_⟩
  rcases h with h | ⟨ps, e1, hS, h⟩
  · exact .inl h
  · refine .inr ⟨ps, e1, hS, ?_⟩
    rcases h with h | ⟨s, e2, h1, h2, h3, h⟩
    · exact .inl h
    · refine .inr ⟨s, e2, h1, h2, h3, ?_⟩
      rcases h with h | ⟨hh, h4, h5, h6, sd, h7, h8, h9⟩
      · exact .inl h
      · exact .inr ⟨hh, h4, h5, h6, sd, h7, h8, fun gs hl hG => m _ (h9 gs hl hG)⟩
section
variable {t u : DTS} {P : DEnds} {w k : Int} {x0 x1 x2 : Option Cell} {L : List D} {x : D}
theorem iv (h : atI L k = some x) : Ev (dBin fIx (dVar 1) (dC (.int k))) [x0, some (.dat (.lst L)), x2] (.dat x) [x0, some (.dat (.lst L)), x2] := ev_ixL (ev_var rfl) ev_c h
theorem try_no (h : ¬ w = k) (q : u P [some (.dat (.int w)), x1, x2]) : dSeq (dIf (dTst (dBin fEq (dVar 0) (dC (.int k)))) t dNext) u P [some (.dat (.int w)), x1, x2] :=
  g_seq (g_if (et_is (et_tst (ev_eqI (ev_var rfl) ev_c)) (decide_eq_false h)) (fun z => nomatch z) (fun _ => q))
theorem try_yes (q : t { P with nx := u P } [some (.dat (.int w)), x1, x2]) : dSeq (dIf (dTst (dBin fEq (dVar 0) (dC (.int w)))) t dNext) u P [some (.dat (.int w)), x1, x2] :=
  g_seq (g_if (et_is (et_tst (ev_eqI (ev_var rfl) ev_c)) (decide_eq_true rfl)) (fun _ => q) (fun z => nomatch z))
theorem try_ret {C : DCX} {xc : V → V → Prop} {ta : DTA} {δ : En} {ds : List D} {Q : D → Prop} (hP : ∀ d δ, Q d → P.rt d δ) (m : ∀ P P' : D → Prop, C ds P xc → (∀ d, P d → P' d) → C ds P' xc) (ha : EvA ta δ ds δ) (h : C ds (fun r => Q (goodD r)) xc) :
    dRet (dTup (dCons (dC (.str "good")) (dCons (dCallX C xc ta) dNil))) P δ :=
  ha (fun ds δ1 => C ds _ xc) (m _ _ h fun r q => ⟨by show 2 ≤ 1000; decide, hP _ _ q⟩)
theorem try_retK {C : DCX} {xc : V → V → Prop} {n m0 : Nat} {ta tk : DTA} {δ : En} {ds es : List D} {Q : D → Prop} (hP : ∀ d δ, Q d → P.rt d δ) (m : ∀ P P' : D → Prop, C (revG ds es) P xc → (∀ d, P d → P' d) → C (revG ds es) P' xc) (ha : EvA ta δ ds δ) (hk : EvA tk δ es δ) (hl : ds.length = n ∧ es.length = m0) (h : C (revG ds es) (fun r => Q (goodD r)) xc) :
    dRet (dTup (dCons (dC (.str "good")) (dCons (dCallXK n m0 C xc ta tk) dNil))) P δ :=
  ha (fun ds δ1 => tk δ1 fun es δ2 => (ds.length = n ∧ es.length = m0) ∧ C (revG ds es) _ xc) (hk (fun es δ2 => (_ ∧ es.length = m0) ∧ C (revG _ es) _ xc) ⟨hl, m _ _ h fun r q => ⟨by show 2 ≤ 1000; decide, hP _ _ q⟩⟩)
end
theorem h_Ltry : ∀ ds Q, C_Lasked ds Q → t_Ltry (xcOf Q) (retE Q) (startD N_Lasked ds) := by
  rintro ds Q ⟨wh, l, st, d, d1, d2, w0, w1, rfl, hf, ha, hu⟩
  have sd : startD N_Lasked [.int wh, .lst [lsD l, stD st, d, d1, d2]] = [some (.dat (.int wh)), some (.dat (.lst [lsD l, stD st, d, d1, d2])), none] := rfl
  rw [sd]
  unfold t_Ltry
  have hw : wh = 0 ∨ wh = 1 ∨ wh = 2 ∨ wh = 3 ∨ wh = 4 ∨ wh = 5 := by omega
  have hP : ∀ d (δ : En), Q d → (retE Q).rt d δ := fun d δ q => q
  have mf : ∀ ds, ∀ P P' : D → Prop, C_free_place ds P (xcOf Q) → (∀ d, P d → P' d) → C_free_place ds P' (xcOf Q) := fun ds P P' h m => mono_free h m
  have ma : ∀ ds, ∀ P P' : D → Prop, C_clear_across ds P (xcOf Q) → (∀ d, P d → P' d) → C_clear_across ds P' (xcOf Q) := fun ds P P' h m => mono_clear h m
  have mu : ∀ ds, ∀ P P' : D → Prop, C_clear_up ds P (xcOf Q) → (∀ d, P d → P' d) → C_clear_up ds P' (xcOf Q) := fun ds P P' h m => mono_clear h m
  rcases hw with rfl | rfl | rfl | rfl | rfl | rfl
  · exact try_yes (try_ret hP (mf _) (ea_cons (iv e_at0) (ea_cons (iv e_at1) (ea_cons (iv e_at2) (ea_cons (iv e_at3) (ea_cons (iv e_at4) ea_nil))))) (hf (by decide)))
  · exact try_no (by decide) (try_yes (try_ret hP (ma _) (ea_cons (iv e_at0) (ea_cons (iv e_at1) (ea_cons (iv e_at2) (ea_cons (iv e_at3) (ea_cons (iv e_at4) ea_nil))))) (ha (by decide))))
  · exact try_no (by decide) (try_no (by decide) (try_yes (try_ret hP (mu _) (ea_cons (iv e_at0) (ea_cons (iv e_at1) (ea_cons (iv e_at2) (ea_cons (iv e_at3) (ea_cons (iv e_at4) ea_nil))))) (hu (by decide)))))
  · exact try_no (by decide) (try_no (by decide) (try_no (by decide) (try_yes (try_retK hP (mf _) ea_nil (ea_cons (iv e_at4) (ea_cons (iv e_at3) (ea_cons (iv e_at2) (ea_cons (iv e_at1) (ea_cons (iv e_at0) ea_nil))))) ⟨rfl, rfl⟩ (hf (by decide))))))
  · exact try_no (by decide) (try_no (by decide) (try_no (by decide) (try_no (by decide) (try_yes (try_retK hP (ma _) (ea_cons (iv e_at0) ea_nil) (ea_cons (iv e_at4) (ea_cons (iv e_at3) (ea_cons (iv e_at2) (ea_cons (iv e_at1) ea_nil)))) ⟨rfl, rfl⟩ (ha (by decide)))))))
  · exact try_no (by decide) (try_no (by decide) (try_no (by decide) (try_no (by decide) (try_no (by decide) (try_retK hP (mu _) (ea_cons (iv e_at0) (ea_cons (iv e_at1) ea_nil)) (ea_cons (iv e_at4) (ea_cons (iv e_at3) (ea_cons (iv e_at2) ea_nil))) ⟨rfl, rfl⟩ (hu (by decide)))))))
end K28
end
section
set_option Elab.async false
set_option linter.all false
set_option maxRecDepth 100000
set_option maxHeartbeats 0
namespace K28
open PySem PySem.Spec PyProof.Rows L2 DL
theorem oexB_ok {K : PySem.W.Frag} {C : Addr} (h : oexB K C = true) : ∃ nm q N bs bm sn sub ab col dd k0 k1 k2 k3 k5, K.lookup C = some (excClassObj nm q C N bs bm true sn sub ab col dd k0 k1 k2 k3 k5 "ValueError.__new__") ∧ PySem.HandSPX.refsVE bm = true := by
  unfold oexB at h
  split at h
  · rename_i dd cd sl e
    split at h
    · rename_i C' bm k0 k1 k2 k3 n k5 e1 e2
      obtain ⟨h1, r1⟩ := He.ba h
      obtain ⟨h2, r2⟩ := He.ba r1
      obtain ⟨h3, r3⟩ := He.ba r2
      obtain ⟨h4, r4⟩ := He.ba r3
      obtain ⟨nm, bs, mro, ns, q, hd, sn, sub, ab, col, dl⟩ := cd
      obtain ⟨sl⟩ := sl
      dsimp only at e1 e2 h3 h4
      have z1 : C' = C := of_decide_eq_true h1
      have z2 : n = "ValueError.__new__" := of_decide_eq_true h2
      subst z1
      subst z2
      subst e1
      subst e2
      subst h4
      have z3 : dl = false := by cases dl with
        | false => rfl
        | true => cases h3
      subst z3
      exact ⟨nm, q, ns, bs, bm, sn, sub, ab, col, dd, k0, k1, k2, k3, k5, e, r4⟩
    · cases h
  · cases h
theorem kb0 {kV doc pm : Value} {an : Option Addr} {cdv ct : Value} {us ws : List Value} (l1 : us.length = 0) (l2 : ws.length = 5) : bindArgs (PySem.W.fnOf "free_place" "free_place" (defArgs s_free_place) (defBody s_free_place) (defScope s_free_place) .none kV doc pm an cdv ct) ⟨us, (["b", "a", "spread", "stock", "lists"] : List Str).zip ws⟩ = pure ((["lists", "stock", "spread", "a", "b"] : List Str).zip (revG us ws)) :=
  match us, l1, ws, l2 with
  | [], _, [_, _, _, _, _], _ => rfl
theorem kb1 {kV doc pm : Value} {an : Option Addr} {cdv ct : Value} {us ws : List Value} (l1 : us.length = 1) (l2 : ws.length = 4) : bindArgs (PySem.W.fnOf "clear_across" "clear_across" (defArgs s_clear_across) (defBody s_clear_across) (defScope s_clear_across) .none kV doc pm an cdv ct) ⟨us, (["sheet", "sort", "spread", "stock"] : List Str).zip ws⟩ = pure ((["lists", "stock", "spread", "sort", "sheet"] : List Str).zip (revG us ws)) :=
  match us, l1, ws, l2 with
  | [_], _, [_, _, _, _], _ => rfl
theorem kb2 {kV doc pm : Value} {an : Option Addr} {cdv ct : Value} {us ws : List Value} (l1 : us.length = 2) (l2 : ws.length = 3) : bindArgs (PySem.W.fnOf "clear_up" "clear_up" (defArgs s_clear_up) (defBody s_clear_up) (defScope s_clear_up) .none kV doc pm an cdv ct) ⟨us, (["sheet", "sort", "spread"] : List Str).zip ws⟩ = pure ((["lists", "stock", "spread", "sort", "sheet"] : List Str).zip (revG us ws)) :=
  match us, l1, ws, l2 with
  | [_, _], _, [_, _, _], _ => rfl
theorem facts {P : Program} {w : World} {K : PySem.W.Frag} {h : Heap} {mg : Str → Option Value} {f : Addr} (X : K.In h) (G : h.Ns mainGlobals mg) (hfa : mg ("law" : Str) = some (.ref f)) (c : He.SaysX fa fn [] [] ex w h K) :
    ∃ fd : FuncData, (∀ (s : Shared) (v : Value), BindsTo s fd ⟨[v], []⟩ [("_law_script", v)]) ∧ ∀ base : Heap, K.In base → base.Ns mainGlobals mg → FnOk P w K mg base CX0 11 f fd ["_law_script"] (spLaw K) := by
  have D := c.t.d
  obtain ⟨fd_ends_of, F_ends_of⟩ := D.def_ 0 (d := d_ends_of) rfl
  obtain ⟨fd_is_below, F_is_below⟩ := D.def_ 1 (d := d_is_below) rfl
  obtain ⟨fd_greater_of, F_greater_of⟩ := D.def_ 2 (d := d_greater_of) rfl
  obtain ⟨fd_have_common, F_have_common⟩ := D.def_ 3 (d := d_have_common) rfl
  obtain ⟨fd_same_sheet, F_same_sheet⟩ := D.def_ 4 (d := d_same_sheet) rfl
  obtain ⟨fd_do_overlap, F_do_overlap⟩ := D.def_ 5 (d := d_do_overlap) rfl
  obtain ⟨fd_by_value, F_by_value⟩ := D.def_ 6 (d := d_by_value) rfl
  obtain ⟨fd_in_sheet, F_in_sheet⟩ := D.def_ 7 (d := d_in_sheet) rfl
  obtain ⟨fd_is_integer, F_is_integer⟩ := D.def_ 8 (d := d_is_integer) rfl
  obtain ⟨fd_is_number, F_is_number⟩ := D.def_ 9 (d := d_is_number) rfl
  obtain ⟨fd_is_quotient, F_is_quotient⟩ := D.def_ 10 (d := d_is_quotient) rfl
  obtain ⟨fd_is_kind, F_is_kind⟩ := D.def_ 11 (d := d_is_kind) rfl
  obtain ⟨fd_is_tuple_of, F_is_tuple_of⟩ := D.def_ 12 (d := d_is_tuple_of) rfl
  obtain ⟨fd_is_piece, F_is_piece⟩ := D.def_ 13 (d := d_is_piece) rfl
  obtain ⟨fd_is_inside, F_is_inside⟩ := D.def_ 14 (d := d_is_inside) rfl
  obtain ⟨fd_first_pair, F_first_pair⟩ := D.def_ 15 (d := d_first_pair) rfl
  obtain ⟨fd_first_fault, F_first_fault⟩ := D.def_ 16 (d := d_first_fault) rfl
  obtain ⟨fd_need_spread, F_need_spread⟩ := D.def_ 17 (d := d_need_spread) rfl
  obtain ⟨fd_need_index, F_need_index⟩ := D.def_ 18 (d := d_need_index) rfl
  obtain ⟨fd_need_sheet, F_need_sheet⟩ := D.def_ 19 (d := d_need_sheet) rfl
  obtain ⟨fd_lowest, F_lowest⟩ := D.def_ 20 (d := d_lowest) rfl
  obtain ⟨fd_place_in, F_place_in⟩ := D.def_ 21 (d := d_place_in) rfl
  obtain ⟨fd_unused, F_unused⟩ := D.def_ 22 (d := d_unused) rfl
  obtain ⟨fd_spot_in_sort, F_spot_in_sort⟩ := D.def_ 23 (d := d_spot_in_sort) rfl
  obtain ⟨fd_free_place, F_free_place⟩ := D.def_ 24 (d := d_free_place) rfl
  obtain ⟨fd_clear, F_clear⟩ := D.def_ 25 (d := d_clear) rfl
  obtain ⟨fd_clear_side, F_clear_side⟩ := D.def_ 26 (d := d_clear_side) rfl
  obtain ⟨fd_clear_across, F_clear_across⟩ := D.def_ 27 (d := d_clear_across) rfl
  obtain ⟨fd_clear_up, F_clear_up⟩ := D.def_ 28 (d := d_clear_up) rfl
  obtain ⟨fd_Lfeed, F_Lfeed⟩ := D.def_ 29 (d := d_Lfeed) rfl
  obtain ⟨fd_Ltake, F_Ltake⟩ := D.def_ 30 (d := d_Ltake) rfl
  obtain ⟨fd_Lsame, F_Lsame⟩ := D.def_ 31 (d := d_Lsame) rfl
  obtain ⟨fd_Llow, F_Llow⟩ := D.def_ 32 (d := d_Llow) rfl
  obtain ⟨fd_Lsizes, F_Lsizes⟩ := D.def_ 33 (d := d_Lsizes) rfl
  obtain ⟨fd_Lside, F_Lside⟩ := D.def_ 34 (d := d_Lside) rfl
  obtain ⟨fd_Lstock, F_Lstock⟩ := D.def_ 35 (d := d_Lstock) rfl
  obtain ⟨fd_Lfilled, F_Lfilled⟩ := D.def_ 36 (d := d_Lfilled) rfl
  obtain ⟨fd_Lmoved, F_Lmoved⟩ := D.def_ 37 (d := d_Lmoved) rfl
  obtain ⟨fd_Lscene, F_Lscene⟩ := D.def_ 38 (d := d_Lscene) rfl
  obtain ⟨fd_Lspread, F_Lspread⟩ := D.def_ 39 (d := d_Lspread) rfl
  obtain ⟨fd_Lblock, F_Lblock⟩ := D.def_ 40 (d := d_Lblock) rfl
  obtain ⟨fd_Lopen, F_Lopen⟩ := D.def_ 41 (d := d_Lopen) rfl
  obtain ⟨fd_Lany, F_Lany⟩ := D.def_ 42 (d := d_Lany) rfl
  obtain ⟨fd_Lquotient, F_Lquotient⟩ := D.def_ 43 (d := d_Lquotient) rfl
  obtain ⟨fd_Lfits, F_Lfits⟩ := D.def_ 44 (d := d_Lfits) rfl
  obtain ⟨fd_Lclear, F_Lclear⟩ := D.def_ 45 (d := d_Lclear) rfl
  obtain ⟨fd_Lasked, F_Lasked⟩ := D.def_ 46 (d := d_Lasked) rfl
  obtain ⟨fd_Lbent, F_Lbent⟩ := D.def_ 47 (d := d_Lbent) rfl
  obtain ⟨fd_law, F_law⟩ := D.def_ 48 (d := d_law) rfl
  obtain ⟨fd_init, F_init⟩ := D.def_ 49 (d := d_init) rfl
  have e := hfa.symm.trans (He.glo_ok X G (D.fact 48 (f := .glo "law") rfl))
  cases e
  obtain ⟨x1, r⟩ := He.ba c.more
  obtain ⟨x2, r⟩ := He.ba r
  obtain ⟨x3, r⟩ := He.ba r
  obtain ⟨x4, r⟩ := He.ba r
  obtain ⟨x5, r⟩ := He.ba r
  obtain ⟨x6, r⟩ := He.ba r
  obtain ⟨x7, r⟩ := He.ba r
  obtain ⟨x8, r⟩ := He.ba r
  obtain ⟨x9, r⟩ := He.ba r
  obtain ⟨x10, r⟩ := He.ba r
  obtain ⟨x11, r⟩ := He.ba r
  obtain ⟨x12, r⟩ := He.ba r
  obtain ⟨x13, r⟩ := He.ba r
  obtain ⟨x14, r⟩ := He.ba r
  obtain ⟨x15, r⟩ := He.ba r
  obtain ⟨x16, r⟩ := He.ba r
  obtain ⟨x17, r⟩ := He.ba r
  obtain ⟨x18, r⟩ := He.ba r
  obtain ⟨x19, x20⟩ := He.ba r
  have O : OexC K (He.ga K "NotUsable") := ⟨oexB_ok x1, He.eqO_ok x2, of_decide_eq_true x3, of_decide_eq_true x4, x5⟩
  have hcl : (PySem.W.clsIn K (He.ga K "NotUsable")).isSome = true := by
    obtain ⟨nm, q, N, bs, bm, sn, sub, ab, col, dd, k0, k1, k2, k3, k5, hC, hbm⟩ := O.cls
    unfold PySem.W.clsIn
    rw [hC]
    rfl
  refine ⟨fd_law, fun s v => FunD.bindsA (ps := ["_law_script"]) F_law (fun _ _ _ _ _ _ us hl => match us, hl with | [_], _ => rfl) s [v] rfl, fun base _ _ => ?_⟩
  have TT : Txt K mg := ⟨(He.free_ok X G (D.fact 51 (f := .free "bool") rfl)), (He.free_ok X G (D.fact 52 (f := .free "enumerate") rfl)), (He.free_ok X G (D.fact 53 (f := .free "int") rfl)), (He.free_ok X G (D.fact 54 (f := .free "isinstance") rfl)), (He.free_ok X G (D.fact 55 (f := .free "len") rfl)), (He.free_ok X G (D.fact 56 (f := .free "list") rfl)), (He.free_ok X G (D.fact 57 (f := .free "max") rfl)), (He.free_ok X G (D.fact 58 (f := .free "min") rfl)), (He.free_ok X G (D.fact 59 (f := .free "range") rfl)), (He.free_ok X G (D.fact 60 (f := .free "set") rfl)), (He.free_ok X G (D.fact 61 (f := .free "sorted") rfl)), (He.free_ok X G (D.fact 62 (f := .free "str") rfl)), (He.free_ok X G (D.fact 63 (f := .free "tuple") rfl)), PySem.W.mg_of X G (He.eqO_ok x10), PySem.W.mg_of X G (He.eqO_ok x11)⟩
  have TX : TxtX P w K mg base (He.ga K "NotUsable") := ⟨TT, (He.glo_ok X G (D.fact 49 (f := .glo "NotUsable") rfl)), O, ⟨ini K, fd_init, He.eqO_ok x8, of_decide_eq_true x9, ok_init O (He.eqO_ok x6) (He.eqO_ok x7) F_init, F_init.bindsN fun _ _ _ _ _ _ us hl => match us, hl with | [_, _, _], _ => rfl⟩⟩
  have TA : TxtA P w K mg base (He.ga K "NotUsable") (He.ga K "LayError") := ⟨TX, (He.glo_ok X G (D.fact 50 (f := .glo "LayError") rfl)), ⟨He.eqO_ok x13, He.eqO_ok x14, of_decide_eq_true x3, x15⟩, He.eqO_ok x6, He.eqO_ok x7, of_decide_eq_true x12,
    ⟨hcl, He.eqO_ok x13, He.eqO_ok x14, of_decide_eq_true x3, He.eqO_ok x16, He.eqO_ok x17, of_decide_eq_true x18, of_decide_eq_true x19⟩, of_decide_eq_true x20⟩
  have c_Ltake := ok_Ltake (P := P) (w := w) (base := base) TX.toTxt F_Ltake (He.glo_ok X G (D.fact 30 (f := .glo "_law_take") rfl))
  have c_Ls0 : Cal P w K mg base CX0 0 "_law_same" ["_law_one", "_law_other"] (pureSp (C_Ls 0)) := same0 F_Lsame (He.glo_ok X G (D.fact 31 (f := .glo "_law_same") rfl))
  have c_Ls1 := ok_Lsame1 TX.toTxt c_Ls0 F_Lsame (He.glo_ok X G (D.fact 31 (f := .glo "_law_same") rfl)) (hl_Lsame 0) (h_Lsame 0)
  have c_Ls2 := ok_Lsame1 TX.toTxt c_Ls1 F_Lsame (He.glo_ok X G (D.fact 31 (f := .glo "_law_same") rfl)) (hl_Lsame 1) (h_Lsame 1)
  have c_Ls3 := ok_Lsame1 TX.toTxt c_Ls2 F_Lsame (He.glo_ok X G (D.fact 31 (f := .glo "_law_same") rfl)) (hl_Lsame 2) (h_Lsame 2)
  have c_Ls4 := ok_Lsame1 TX.toTxt c_Ls3 F_Lsame (He.glo_ok X G (D.fact 31 (f := .glo "_law_same") rfl)) (hl_Lsame 3) (h_Lsame 3)
  have c_Ls5 := ok_Lsame1 TX.toTxt c_Ls4 F_Lsame (He.glo_ok X G (D.fact 31 (f := .glo "_law_same") rfl)) (hl_Lsame 4) (h_Lsame 4)
  have c_Lsame := c_Ls5
  have c_ends_of := ok_ends_of (P := P) (w := w) (base := base) TX.toTxt  F_ends_of (He.glo_ok X G (D.fact 0 (f := .glo "ends_of") rfl)) hl_ends_of h_ends_of
  have c_is_below := ok_is_below (P := P) (w := w) (base := base) TX.toTxt  F_is_below (He.glo_ok X G (D.fact 1 (f := .glo "is_below") rfl)) hl_is_below h_is_below
  have c_same_sheet := ok_same_sheet (P := P) (w := w) (base := base) TX.toTxt  F_same_sheet (He.glo_ok X G (D.fact 4 (f := .glo "same_sheet") rfl)) hl_same_sheet h_same_sheet
  have c_by_value := ok_by_value (P := P) (w := w) (base := base) TX.toTxt  F_by_value (He.glo_ok X G (D.fact 6 (f := .glo "by_value") rfl)) hl_by_value h_by_value
  have c_in_sheet := ok_in_sheet (P := P) (w := w) (base := base) TX.toTxt  F_in_sheet (He.glo_ok X G (D.fact 7 (f := .glo "in_sheet") rfl)) hl_in_sheet h_in_sheet
  have c_is_integer := ok_is_integer (P := P) (w := w) (base := base) TX.toTxt  F_is_integer (He.glo_ok X G (D.fact 8 (f := .glo "is_integer") rfl)) hl_is_integer h_is_integer
  have c_is_tuple_of := ok_is_tuple_of (P := P) (w := w) (base := base) TX.toTxt  F_is_tuple_of (He.glo_ok X G (D.fact 12 (f := .glo "_is_tuple_of") rfl)) hl_is_tuple_of h_is_tuple_of
  have c_unused := ok_unused (P := P) (w := w) (base := base) TX.toTxt  F_unused (He.glo_ok X G (D.fact 22 (f := .glo "_unused") rfl)) hl_unused h_unused
  have c_Llow := ok_Llow (P := P) (w := w) (base := base) TX.toTxt  F_Llow (He.glo_ok X G (D.fact 32 (f := .glo "_law_low") rfl)) hl_Llow h_Llow
  have c_Lblock := ok_Lblock (P := P) (w := w) (base := base) TX.toTxt  F_Lblock (He.glo_ok X G (D.fact 40 (f := .glo "_law_block") rfl)) hl_Lblock h_Lblock
  have c_greater_of := ok_greater_of (P := P) (w := w) (base := base) TX.toTxt c_is_below F_greater_of (He.glo_ok X G (D.fact 2 (f := .glo "greater_of") rfl)) hl_greater_of h_greater_of
  have c_have_common := ok_have_common (P := P) (w := w) (base := base) TX.toTxt c_is_below F_have_common (He.glo_ok X G (D.fact 3 (f := .glo "have_common") rfl)) hl_have_common h_have_common
  have c_is_number := ok_is_number (P := P) (w := w) (base := base) TX.toTxt c_is_integer F_is_number (He.glo_ok X G (D.fact 9 (f := .glo "is_number") rfl)) hl_is_number h_is_number
  have c_is_quotient := ok_is_quotient (P := P) (w := w) (base := base) TX.toTxt c_is_tuple_of c_is_integer F_is_quotient (He.glo_ok X G (D.fact 10 (f := .glo "is_quotient") rfl)) hl_is_quotient h_is_quotient
  have c_is_inside := ok_is_inside (P := P) (w := w) (base := base) TX.toTxt c_ends_of F_is_inside (He.glo_ok X G (D.fact 14 (f := .glo "is_inside") rfl)) hl_is_inside h_is_inside
  have c_Lsizes := ok_Lsizes (P := P) (w := w) (base := base) TX.toTxt c_Ltake F_Lsizes (He.glo_ok X G (D.fact 33 (f := .glo "_law_sizes") rfl)) hl_Lsizes h_Lsizes
  have c_Lside := ok_Lside (P := P) (w := w) (base := base) TX.toTxt c_Ltake F_Lside (He.glo_ok X G (D.fact 34 (f := .glo "_law_side") rfl)) hl_Lside h_Lside
  have c_Lfilled := ok_Lfilled (P := P) (w := w) (base := base) TX.toTxt c_Ltake F_Lfilled (He.glo_ok X G (D.fact 36 (f := .glo "_law_filled") rfl)) hl_Lfilled h_Lfilled
  have c_Lmoved := ok_Lmoved (P := P) (w := w) (base := base) TX.toTxt c_Ltake F_Lmoved (He.glo_ok X G (D.fact 37 (f := .glo "_law_moved") rfl)) hl_Lmoved h_Lmoved
  have c_Lspread := ok_Lspread (P := P) (w := w) (base := base) TX.toTxt c_Llow F_Lspread (He.glo_ok X G (D.fact 39 (f := .glo "_law_spread") rfl)) hl_Lspread h_Lspread
  have c_Lopen := ok_Lopen (P := P) (w := w) (base := base) TX.toTxt c_Lblock F_Lopen (He.glo_ok X G (D.fact 41 (f := .glo "_law_open") rfl)) hl_Lopen (h_Lopen fun l st t ps a b s h e => big_free)
  have c_Lquotient := ok_Lquotient (P := P) (w := w) (base := base) TX.toTxt c_Llow F_Lquotient (He.glo_ok X G (D.fact 43 (f := .glo "_law_quotient") rfl)) hl_Lquotient h_Lquotient
  have c_Lclear := ok_Lclear (P := P) (w := w) (base := base) TX.toTxt c_Llow F_Lclear (He.glo_ok X G (D.fact 45 (f := .glo "_law_clear") rfl)) hl_Lclear h_Lclear
  have c_do_overlap := ok_do_overlap (P := P) (w := w) (base := base) TX.toTxt c_same_sheet c_have_common c_ends_of F_do_overlap (He.glo_ok X G (D.fact 5 (f := .glo "do_overlap") rfl)) hl_do_overlap h_do_overlap
  have c_is_kind := ok_is_kind (P := P) (w := w) (base := base) TX.toTxt c_is_tuple_of c_is_number F_is_kind (He.glo_ok X G (D.fact 11 (f := .glo "is_kind") rfl)) hl_is_kind h_is_kind
  have c_need_index := ok_need_index (P := P) (w := w) (base := base) TX c_is_number F_need_index (He.glo_ok X G (D.fact 18 (f := .glo "need_index") rfl)) hl_need_index h_need_index
  have c_lowest := ok_lowest (P := P) (w := w) (base := base) TX.toTxt c_have_common c_ends_of c_is_below c_greater_of F_lowest (He.glo_ok X G (D.fact 20 (f := .glo "_lowest") rfl)) hl_lowest h_lowest
  have c_clear := ok_clear (P := P) (w := w) (base := base) TX.toTxt c_by_value c_is_below c_greater_of F_clear (He.glo_ok X G (D.fact 25 (f := .glo "_clear") rfl)) hl_clear h_clear
  have c_Lstock := ok_Lstock (P := P) (w := w) (base := base) TX.toTxt c_Ltake c_Lside F_Lstock (He.glo_ok X G (D.fact 35 (f := .glo "_law_stock") rfl)) hl_Lstock h_Lstock
  have c_Lany := ok_Lany (P := P) (w := w) (base := base) TX.toTxt c_Lopen F_Lany (He.glo_ok X G (D.fact 42 (f := .glo "_law_any") rfl)) hl_Lany h_Lany
  have c_Lfits := ok_Lfits (P := P) (w := w) (base := base) TX.toTxt c_Lquotient F_Lfits (He.glo_ok X G (D.fact 44 (f := .glo "_law_fits") rfl)) hl_Lfits h_Lfits
  have c_is_piece := ok_is_piece (P := P) (w := w) (base := base) TX.toTxt c_is_kind c_is_number c_is_quotient F_is_piece (He.glo_ok X G (D.fact 13 (f := .glo "is_piece") rfl)) hl_is_piece h_is_piece
  have c_first_pair := ok_first_pair (P := P) (w := w) (base := base) TX.toTxt c_do_overlap F_first_pair (He.glo_ok X G (D.fact 15 (f := .glo "first_pair") rfl)) hl_first_pair h_first_pair
  have c_need_sheet := ok_need_sheet (P := P) (w := w) (base := base) TX c_need_index F_need_sheet (He.glo_ok X G (D.fact 19 (f := .glo "need_sheet") rfl)) hl_need_sheet h_need_sheet
  have c_place_in := ok_place_in (P := P) (w := w) (base := base) TX.toTxt c_by_value c_ends_of c_is_below c_lowest F_place_in (He.glo_ok X G (D.fact 21 (f := .glo "_place_in") rfl)) hl_place_in h_place_in
  have c_Lscene := ok_Lscene (P := P) (w := w) (base := base) TX.toTxt c_Lsizes c_Lstock c_Ltake c_Lfilled c_Lmoved F_Lscene (He.glo_ok X G (D.fact 38 (f := .glo "_law_scene") rfl)) hl_Lscene (h_Lscene scene2_ok)
  have c_first_fault := ok_first_fault (P := P) (w := w) (base := base) TX.toTxt c_is_piece c_is_inside c_first_pair F_first_fault (He.glo_ok X G (D.fact 16 (f := .glo "first_fault") rfl)) hl_first_fault h_first_fault
  have c_spot_in_sort := ok_spot_in_sort (P := P) (w := w) (base := base) TX.toTxt c_unused c_in_sheet c_place_in F_spot_in_sort (He.glo_ok X G (D.fact 23 (f := .glo "_spot_in_sort") rfl)) hl_spot_in_sort h_spot_in_sort
  have c_need_spread := ok_need_spread (P := P) (w := w) (base := base) TX c_first_fault F_need_spread (He.glo_ok X G (D.fact 17 (f := .glo "need_spread") rfl)) hl_need_spread h_need_spread
  have c_free_place := ok_free_place (P := P) (w := w) (base := base) TX c_need_spread c_need_index c_spot_in_sort F_free_place (He.glo_ok X G (D.fact 24 (f := .glo "free_place") rfl)) hl_free_place h_free_place
  have c_clear_side := ok_clear_side (P := P) (w := w) (base := base) TX c_need_spread c_need_sheet c_in_sheet c_ends_of c_clear F_clear_side (He.glo_ok X G (D.fact 26 (f := .glo "_clear_side") rfl)) hl_clear_side h_clear_side
  have c_clear_across := ok_clear_across (P := P) (w := w) (base := base) TX c_clear_side F_clear_across (He.glo_ok X G (D.fact 27 (f := .glo "clear_across") rfl)) hl_clear_across h_clear_across
  have c_clear_up := ok_clear_up (P := P) (w := w) (base := base) TX c_clear_side F_clear_up (He.glo_ok X G (D.fact 28 (f := .glo "clear_up") rfl)) hl_clear_up h_clear_up
  have ck_free_place : CalK P w K mg base (L2.CX P w) 7 "free_place" ["lists", "stock", "spread", "a", "b"] (pureSpX (He.ga K "NotUsable") C_free_place) 0 ["b", "a", "spread", "stock", "lists"] := ⟨_, _, fn_pureX F_free_place sc_free_place hl_free_place (by decide) (fun cdv A outer s H E hr B xc hB hx hW => b_free_place TX c_need_spread c_need_index c_spot_in_sort hr B xc hB hx hW) h_free_place, (He.glo_ok X G (D.fact 24 (f := .glo "free_place") rfl)), F_free_place.kp, kbn_of 0 F_free_place fun _ _ _ _ _ _ us ws l1 l2 => kb0 l1 l2⟩
  have ck_clear_across : CalK P w K mg base (L2.CX P w) 8 "clear_across" ["lists", "stock", "spread", "sort", "sheet"] (pureSpX (He.ga K "NotUsable") C_clear_across) 1 ["sheet", "sort", "spread", "stock"] := ⟨_, _, fn_pureX F_clear_across sc_clear_across hl_clear_across (by decide) (fun cdv A outer s H E hr B xc hB hx hW => b_clear_across TX c_clear_side hr B xc hB hx hW) h_clear_across, (He.glo_ok X G (D.fact 27 (f := .glo "clear_across") rfl)), F_clear_across.kp, kbn_of 1 F_clear_across fun _ _ _ _ _ _ us ws l1 l2 => kb1 l1 l2⟩
  have ck_clear_up : CalK P w K mg base (L2.CX P w) 8 "clear_up" ["lists", "stock", "spread", "sort", "sheet"] (pureSpX (He.ga K "NotUsable") C_clear_up) 2 ["sheet", "sort", "spread"] := ⟨_, _, fn_pureX F_clear_up sc_clear_up hl_clear_up (by decide) (fun cdv A outer s H E hr B xc hB hx hW => b_clear_up TX c_clear_side hr B xc hB hx hW) h_clear_up, (He.glo_ok X G (D.fact 28 (f := .glo "clear_up") rfl)), F_clear_up.kp, kbn_of 2 F_clear_up fun _ _ _ _ _ _ us ws l1 l2 => kb2 l1 l2⟩
  have c_Lasked := ok_Lasked TA c_free_place c_clear_across c_clear_up ck_free_place ck_clear_across ck_clear_up F_Lasked (He.glo_ok X G (D.fact 46 (f := .glo "_law_asked") rfl)) fun ds Q h => h_Ltry ds Q h
  have c_Lbent := ok_Lbent (P := P) (w := w) (base := base) TX.toTxt c_Ltake c_Lsame c_Lasked F_Lbent (He.glo_ok X G (D.fact 47 (f := .glo "_law_bent") rfl)) hl_Lbent h_Lbent
  exact ok_law TT c_Lscene c_Lspread c_Ltake c_Lasked c_Lany c_Lfits c_Lsame c_Lclear c_Lbent (ok_Lfeed TT F_Lfeed h_Lfeed) (He.glo_ok X G (D.fact 29 (f := .glo "_law_feed") rfl)) F_Lfeed.kp (F_Lfeed.bindsN fun _ _ _ _ _ _ us hl => match us, hl with | [_], _ => rfl) F_law h_law
end K28
end
set_option maxRecDepth 100000
set_option maxHeartbeats 0
open PySem PySem.W PySem.Calls PyProof.Rows
theorem PySem.Challenge.cw_onesheetmore_k28_whole_free_places_holds : PySem.Challenge.rw_onesheetmore_k28_whole_free_places.Holds := by
  refine K28.head ?_
  refine L2.walk_ofE (l := PySem.Challenge.rw_onesheetmore_k28_whole_free_places) (n := 63) (k := 11) (x := "_law_script") (CX := L2.CX0) rfl (by decide) (by kernel_rfl) ⟨rfl, by decide, by decide⟩ ?F (fun _ _ _ _ z => z)
  intro w mg fa h Y G hmg0
  obtain ⟨K, KX, c⟩ := Y
  have hmg : mg ("law" : PySem.Str) = some (.ref fa) := by
    have e : (HandSHeadRun.topDef (OpenLaw.row PySem.Challenge.rw_onesheetmore_k28_whole_free_places).prog 59).name = ("law" : PySem.Str) := by kernel_rfl
    rw [← e]
    exact hmg0
  obtain ⟨fd, hb, hF⟩ := K28.facts (P := (PySem.Challenge.rw_onesheetmore_k28_whole_free_places).prog) (w := w) KX G hmg c
  exact ⟨K, fd, K28.spLaw K, KX, hb, fun H a ns hl _ hS => ⟨a, ns, rfl, hS, hl, fun _ => rfl⟩, hF⟩
