import PyProof.Rows.All
import Wide.All
import OpenK.AllK
import Wide.FinOn
import Open.SpecLaws
import KE.OsGo
import HandS.ForSpec
import HandS.Comp
import HandS.Iter
import HandS.Zip
import PySem.Challenge.RW_vineyardharvest_s01_answers
set_option Elab.async false
set_option linter.all false
set_option maxRecDepth 100000
set_option maxHeartbeats 4000000
/-! the text by places -/
namespace Vh
open PySem PySem.Spec PyProof.Rows L2
def topS (i : Nat) : Stmt := PySem.Challenge.pw_vineyardharvest_s01_answers.main.body.getD i (.Pass ⟨0, 0, 0, 0⟩)
abbrev s_days_off : Stmt := topS 1
abbrev nm_days_off : List Str := ["plot", "day"]
theorem sc_days_off : FnScope nm_days_off ["plot", "day"] (defScope s_days_off) := ⟨rfl, rfl, rfl, by decide +kernel, rfl, by decide +kernel, by decide +kernel⟩
abbrev s_worth_on : Stmt := topS 2
abbrev nm_worth_on : List Str := ["plot", "day", "less"]
theorem sc_worth_on : FnScope nm_worth_on ["plot", "day"] (defScope s_worth_on) := ⟨rfl, rfl, rfl, by decide +kernel, rfl, by decide +kernel, by decide +kernel⟩
abbrev s_first_wrong_plot : Stmt := topS 3
abbrev nm_first_wrong_plot : List Str := ["vineyard", "plan", "number", "day", "plot"]
theorem sc_first_wrong_plot : FnScope nm_first_wrong_plot ["vineyard", "plan"] (defScope s_first_wrong_plot) := ⟨rfl, rfl, rfl, by decide +kernel, rfl, by decide +kernel, by decide +kernel⟩
abbrev s_loads_on : Stmt := topS 4
abbrev nm_loads_on : List Str := ["vineyard", "plan", "day", "colour", "many", "plot", "when"]
theorem sc_loads_on : FnScope nm_loads_on ["vineyard", "plan", "day", "colour"] (defScope s_loads_on) := ⟨rfl, rfl, rfl, by decide +kernel, rfl, by decide +kernel, by decide +kernel⟩
abbrev s_picked_by : Stmt := topS 5
abbrev nm_picked_by : List Str := ["vineyard", "plan", "day"]
theorem sc_picked_by : FnScope nm_picked_by ["vineyard", "plan"] (defScope s_picked_by) := ⟨rfl, rfl, rfl, by decide +kernel, rfl, by decide +kernel, by decide +kernel⟩
abbrev s_first_full_day : Stmt := topS 6
abbrev nm_first_full_day : List Str := ["vineyard", "picked", "day", "loads"]
theorem sc_first_full_day : FnScope nm_first_full_day ["vineyard", "picked"] (defScope s_first_full_day) := ⟨rfl, rfl, rfl, by decide +kernel, rfl, by decide +kernel, by decide +kernel⟩
abbrev s_loads_picked : Stmt := topS 7
abbrev nm_loads_picked : List Str := ["picked", "loads"]
theorem sc_loads_picked : FnScope nm_loads_picked ["picked"] (defScope s_loads_picked) := ⟨rfl, rfl, rfl, by decide +kernel, rfl, by decide +kernel, by decide +kernel⟩
abbrev s_days_picked : Stmt := topS 8
abbrev nm_days_picked : List Str := ["picked", "loads"]
theorem sc_days_picked : FnScope nm_days_picked ["picked"] (defScope s_days_picked) := ⟨rfl, rfl, rfl, by decide +kernel, rfl, by decide +kernel, by decide +kernel⟩
abbrev s_earned : Stmt := topS 9
abbrev nm_earned : List Str := ["vineyard", "plan", "total", "plot", "day"]
theorem sc_earned : FnScope nm_earned ["vineyard", "plan"] (defScope s_earned) := ⟨rfl, rfl, rfl, by decide +kernel, rfl, by decide +kernel, by decide +kernel⟩
abbrev s_kept_behind : Stmt := topS 14
abbrev nm_kept_behind : List Str := ["vineyard", "kept", "picked", "colour", "left"]
theorem sc_kept_behind : FnScope nm_kept_behind ["vineyard", "kept", "picked", "colour"] (defScope s_kept_behind) := ⟨rfl, rfl, rfl, by decide +kernel, rfl, by decide +kernel, by decide +kernel⟩
abbrev s_first_spoilt : Stmt := topS 15
abbrev nm_first_spoilt : List Str := ["vineyard", "kept", "colour", "each", "pressed"]
theorem sc_first_spoilt : FnScope nm_first_spoilt ["vineyard", "kept", "colour"] (defScope s_first_spoilt) := ⟨rfl, rfl, rfl, by decide +kernel, rfl, by decide +kernel, by decide +kernel⟩
abbrev s_course : Stmt := topS 16
abbrev nm_course : List Str := ["vineyard", "picked", "colours", "kept", "nights", "day", "colour", "spoilt"]
theorem sc_course : FnScope nm_course ["vineyard", "picked", "colours"] (defScope s_course) := ⟨rfl, rfl, rfl, by decide +kernel, rfl, by decide +kernel, by decide +kernel⟩
abbrev s_right_ones : Stmt := topS 17
abbrev nm_right_ones : List Str := ["vineyard", "picked", "some", "colours"]
theorem sc_right_ones : FnScope nm_right_ones ["vineyard", "picked", "some"] (defScope s_right_ones) := ⟨rfl, rfl, rfl, by decide +kernel, rfl, by decide +kernel, by decide +kernel⟩
abbrev s_rows_of : Stmt := topS 20
abbrev nm_rows_of : List Str := ["count", "most", "found", "turn", "longer", "row", "number"]
theorem sc_rows_of : FnScope nm_rows_of ["count", "most"] (defScope s_rows_of) := ⟨rfl, rfl, rfl, by decide +kernel, rfl, by decide +kernel, by decide +kernel⟩
abbrev s_all_plans : Stmt := topS 21
abbrev nm_all_plans : List Str := ["vineyard"]
theorem sc_all_plans : FnScope nm_all_plans ["vineyard"] (defScope s_all_plans) := ⟨rfl, rfl, rfl, by decide +kernel, rfl, by decide +kernel, by decide +kernel⟩
abbrev s_all_colours : Stmt := topS 22
abbrev nm_all_colours : List Str := ["vineyard"]
theorem sc_all_colours : FnScope nm_all_colours ["vineyard"] (defScope s_all_colours) := ⟨rfl, rfl, rfl, by decide +kernel, rfl, by decide +kernel, by decide +kernel⟩
abbrev s_is_better : Stmt := topS 23
abbrev nm_is_better : List Str := ["leaves", "days", "found"]
theorem sc_is_better : FnScope nm_is_better ["leaves", "days", "found"] (defScope s_is_better) := ⟨rfl, rfl, rfl, by decide +kernel, rfl, by decide +kernel, by decide +kernel⟩
abbrev s_is_as_good : Stmt := topS 24
abbrev nm_is_as_good : List Str := ["leaves", "days", "found"]
theorem sc_is_as_good : FnScope nm_is_as_good ["leaves", "days", "found"] (defScope s_is_as_good) := ⟨rfl, rfl, rfl, by decide +kernel, rfl, by decide +kernel, by decide +kernel⟩
abbrev s_with_plan : Stmt := topS 25
abbrev nm_with_plan : List Str := ["vineyard", "found", "plan", "some", "picked", "days", "leaves", "right"]
theorem sc_with_plan : FnScope nm_with_plan ["vineyard", "found", "plan", "some"] (defScope s_with_plan) := ⟨rfl, rfl, rfl, by decide +kernel, rfl, by decide +kernel, by decide +kernel⟩
abbrev s_best_of : Stmt := topS 26
abbrev nm_best_of : List Str := ["vineyard", "plans", "some", "found", "plan"]
theorem sc_best_of : FnScope nm_best_of ["vineyard", "plans", "some"] (defScope s_best_of) := ⟨rfl, rfl, rfl, by decide +kernel, rfl, by decide +kernel, by decide +kernel⟩
abbrev s_goes_on : Stmt := topS 27
abbrev nm_goes_on : List Str := ["plan", "told", "day", "own", "other"]
theorem sc_goes_on : FnScope nm_goes_on ["plan", "told", "day"] (defScope s_goes_on) := ⟨rfl, rfl, rfl, by decide +kernel, rfl, by decide +kernel, by decide +kernel⟩
abbrev s_plans_from : Stmt := topS 28
abbrev nm_plans_from : List Str := ["vineyard", "told", "day", "plan"]
theorem sc_plans_from : FnScope nm_plans_from ["vineyard", "told", "day"] (defScope s_plans_from) := ⟨rfl, rfl, rfl, by decide +kernel, rfl, by decide +kernel, by decide +kernel⟩
abbrev s_colours_from : Stmt := topS 29
abbrev nm_colours_from : List Str := ["vineyard", "told", "day", "colours"]
theorem sc_colours_from : FnScope nm_colours_from ["vineyard", "told", "day"] (defScope s_colours_from) := ⟨rfl, rfl, rfl, by decide +kernel, rfl, by decide +kernel, by decide +kernel⟩
abbrev s_found_told : Stmt := topS 30
abbrev nm_found_told : List Str := ["vineyard", "found", "picked", "head"]
theorem sc_found_told : FnScope nm_found_told ["vineyard", "found"] (defScope s_found_told) := ⟨rfl, rfl, rfl, by decide +kernel, rfl, by decide +kernel, by decide +kernel⟩
abbrev s_may_begin : Stmt := topS 41
abbrev nm_may_begin : List Str := ["days", "loads", "cost", "many"]
theorem sc_may_begin : FnScope nm_may_begin ["days", "loads", "cost"] (defScope s_may_begin) := ⟨rfl, rfl, rfl, by decide +kernel, rfl, by decide +kernel, by decide +kernel⟩
abbrev s_may_be_plot : Stmt := topS 42
abbrev nm_may_be_plot : List Str := ["vineyard", "plot"]
theorem sc_may_be_plot : FnScope nm_may_be_plot ["vineyard", "plot"] (defScope s_may_be_plot) := ⟨rfl, rfl, rfl, by decide +kernel, rfl, by decide +kernel, by decide +kernel⟩
abbrev s_is_plan : Stmt := topS 43
abbrev nm_is_plan : List Str := ["vineyard", "plan", "day"]
theorem sc_is_plan : FnScope nm_is_plan ["vineyard", "plan"] (defScope s_is_plan) := ⟨rfl, rfl, rfl, by decide +kernel, rfl, by decide +kernel, by decide +kernel⟩
abbrev s_are_colours : Stmt := topS 44
abbrev nm_are_colours : List Str := ["vineyard", "colours", "colour"]
theorem sc_are_colours : FnScope nm_are_colours ["vineyard", "colours"] (defScope s_are_colours) := ⟨rfl, rfl, rfl, by decide +kernel, rfl, by decide +kernel, by decide +kernel⟩
abbrev s_against_plan : Stmt := topS 51
abbrev nm_against_plan : List Str := ["vineyard", "plan", "number", "day"]
theorem sc_against_plan : FnScope nm_against_plan ["vineyard", "plan"] (defScope s_against_plan) := ⟨rfl, rfl, rfl, by decide +kernel, rfl, by decide +kernel, by decide +kernel⟩
abbrev s_against : Stmt := topS 52
abbrev nm_against : List Str := ["vineyard", "plan", "colours", "found"]
theorem sc_against : FnScope nm_against ["vineyard", "plan", "colours"] (defScope s_against) := ⟨rfl, rfl, rfl, by decide +kernel, rfl, by decide +kernel, by decide +kernel⟩
abbrev s_best_told : Stmt := topS 53
abbrev nm_best_told : List Str := ["vineyard", "found"]
theorem sc_best_told : FnScope nm_best_told ["vineyard"] (defScope s_best_told) := ⟨rfl, rfl, rfl, by decide +kernel, rfl, by decide +kernel, by decide +kernel⟩
abbrev s_check_told : Stmt := topS 54
abbrev nm_check_told : List Str := ["vineyard", "plan", "colours", "found", "picked", "days"]
theorem sc_check_told : FnScope nm_check_told ["vineyard", "plan", "colours"] (defScope s_check_told) := ⟨rfl, rfl, rfl, by decide +kernel, rfl, by decide +kernel, by decide +kernel⟩
abbrev s_press_told : Stmt := topS 55
abbrev nm_press_told : List Str := ["vineyard", "plan", "found", "right"]
theorem sc_press_told : FnScope nm_press_told ["vineyard", "plan"] (defScope s_press_told) := ⟨rfl, rfl, rfl, by decide +kernel, rfl, by decide +kernel, by decide +kernel⟩
abbrev s_goes_told : Stmt := topS 56
abbrev nm_goes_told : List Str := ["vineyard", "day", "plan", "colours", "found"]
theorem sc_goes_told : FnScope nm_goes_told ["vineyard", "day", "plan", "colours"] (defScope s_goes_told) := ⟨rfl, rfl, rfl, by decide +kernel, rfl, by decide +kernel, by decide +kernel⟩
abbrev s_nights_told : Stmt := topS 57
abbrev nm_nights_told : List Str := ["vineyard", "plan", "colours", "found", "kept"]
theorem sc_nights_told : FnScope nm_nights_told ["vineyard", "plan", "colours"] (defScope s_nights_told) := ⟨rfl, rfl, rfl, by decide +kernel, rfl, by decide +kernel, by decide +kernel⟩
abbrev s_begun : Stmt := topS 72
abbrev nm_begun : List Str := ["line", "days", "loads", "cost"]
theorem sc_begun : FnScope nm_begun ["line", "days", "loads", "cost"] (defScope s_begun) := ⟨rfl, rfl, rfl, by decide +kernel, rfl, by decide +kernel, by decide +kernel⟩
abbrev s_rained : Stmt := topS 73
abbrev nm_rained : List Str := ["vineyard", "day", "wet"]
theorem sc_rained : FnScope nm_rained ["vineyard", "day", "wet"] (defScope s_rained) := ⟨rfl, rfl, rfl, by decide +kernel, rfl, by decide +kernel, by decide +kernel⟩
abbrev s_planted : Stmt := topS 74
abbrev nm_planted : List Str := ["vineyard", "plot"]
theorem sc_planted : FnScope nm_planted ["vineyard", "plot"] (defScope s_planted) := ⟨rfl, rfl, rfl, by decide +kernel, rfl, by decide +kernel, by decide +kernel⟩
abbrev s_changed : Stmt := topS 75
abbrev nm_changed : List Str := ["line", "call", "values", "plot"]
theorem sc_changed : FnScope nm_changed ["line", "call", "values"] (defScope s_changed) := ⟨rfl, rfl, rfl, by decide +kernel, rfl, by decide +kernel, by decide +kernel⟩
abbrev s_asked : Stmt := topS 76
abbrev nm_asked : List Str := ["vineyard", "call", "values", "rows"]
theorem sc_asked : FnScope nm_asked ["vineyard", "call", "values", "rows"] (defScope s_asked) := ⟨rfl, rfl, rfl, by decide +kernel, rfl, by decide +kernel, by decide +kernel⟩
abbrev s_answered : Stmt := topS 77
abbrev nm_answered : List Str := ["line", "call", "values", "rows"]
theorem sc_answered : FnScope nm_answered ["line", "call", "values", "rows"] (defScope s_answered) := ⟨rfl, rfl, rfl, by decide +kernel, rfl, by decide +kernel, by decide +kernel⟩
abbrev s_rows_from : Stmt := topS 78
abbrev nm_rows_from : List Str := ["calls", "place", "many", "found", "turn", "behind"]
theorem sc_rows_from : FnScope nm_rows_from ["calls", "place", "many"] (defScope s_rows_from) := ⟨rfl, rfl, rfl, by decide +kernel, rfl, by decide +kernel, by decide +kernel⟩
abbrev s_answers : Stmt := topS 79
abbrev nm_answers : List Str := ["calls", "line", "found", "place", "call", "at", "rows", "behind", "numbers"]
theorem sc_answers : FnScope nm_answers ["calls"] (defScope s_answers) := ⟨rfl, rfl, rfl, by decide +kernel, rfl, by decide +kernel, by decide +kernel⟩
abbrev s_Found_init : Stmt := inClass (topS 19) 0
abbrev nm_Found_init : List Str := ["self", "leaves", "days", "many", "plan", "colours"]
theorem sc_Found_init : FnScope nm_Found_init ["self", "leaves", "days", "many", "plan", "colours"] (defScope s_Found_init) := ⟨rfl, rfl, rfl, by decide +kernel, rfl, by decide +kernel, by decide +kernel⟩
abbrev s_Vineyard_init : Stmt := inClass (topS 39) 0
abbrev nm_Vineyard_init : List Str := ["self", "days", "most_picked", "most_pressed", "most_kept", "cost", "day"]
theorem sc_Vineyard_init : FnScope nm_Vineyard_init ["self", "days", "most_picked", "most_pressed", "most_kept", "cost"] (defScope s_Vineyard_init) := ⟨rfl, rfl, rfl, by decide +kernel, rfl, by decide +kernel, by decide +kernel⟩
abbrev s_Plot_init : Stmt := inClass (topS 40) 0
abbrev nm_Plot_init : List Str := ["self", "loads", "colour", "best_day", "beside", "worth", "less"]
theorem sc_Plot_init : FnScope nm_Plot_init ["self", "loads", "colour", "best_day", "beside", "worth", "less"] (defScope s_Plot_init) := ⟨rfl, rfl, rfl, by decide +kernel, rfl, by decide +kernel, by decide +kernel⟩
abbrev s_Line_init : Stmt := inClass (topS 71) 0
abbrev nm_Line_init : List Str := ["self"]
theorem sc_Line_init : FnScope nm_Line_init ["self"] (defScope s_Line_init) := ⟨rfl, rfl, rfl, by decide +kernel, rfl, by decide +kernel, by decide +kernel⟩
/-! ### a def, a class, a constant of the text -/
structure DefAt (K : PySem.W.Frag) (mg : Str → Option Value) (x : Str) (st : Stmt) (ps : List Str) : Prop where
  ex : ∃ (f : Addr) (fd : FuncData), Fun K x x st f fd ∧ mg x = some (.ref f) ∧ Binds K fd ps []
structure ClsAt (K : PySem.W.Frag) (mg : Str → Option Value) (x qual : Str) (C : Addr) (st : Stmt) (ps : List Str) : Prop where
  ex : ∃ (f : Addr) (fd : FuncData), Fun K "__init__" qual st f fd ∧ Mk K C f ∧ mg x = some (.ref C) ∧ Binds K fd ps []
def ConI (mg : Str → Option Value) (x : Str) (n : Int) : Prop := ∃ t, mg x = some (.int n t)
def ConT (K : PySem.W.Frag) (mg : Str → Option Value) (x : Str) (ns : List Int) : Prop := ∃ a, mg x = some (.ref a) ∧ ∀ H : Hp, SqT K H a (ns.map V.int)
theorem conT_of {K : PySem.W.Frag} {a : Addr} {its : Array Value} {n : Nat} {dc : Option Addr} {sl : Array (Option Value)} {ns : List Int} (l : K.lookup a = some ⟨.type "tuple", dc, .seq its n, sl⟩) (hz : its.size ≤ sizeLine) (v : Vals (ns.map V.int) its.toList) (H : Hp) : SqT K H a (ns.map V.int) :=
  .inr ⟨_, its, n, l, rfl, rfl, hz, v⟩
theorem defAt_mk {K : PySem.W.Frag} {mg : Str → Option Value} {x : Str} {st : Stmt} {f : Addr} {ps : List Str} {oc : Value} {od an : Option Addr} {osl : Array (Option Value)} {kV doc pm cdv ct : Value} (l : K.lookup f = some ⟨oc, od, .func (PySem.W.fnOf x x (defArgs st) (defBody st) (defScope st) .none kV doc pm an cdv ct), osl⟩)
    (c : PySem.W.codeIn K cdv x = true) (k : PySem.W.keepIn K (.ref f) = true) (g : mg x = some (.ref f))
    (h : ∀ (kV doc pm : Value) (an : Option Addr) (cdv ct : Value) (us : List Value), us.length = ps.length → bindArgs (PySem.W.fnOf x x (defArgs st) (defBody st) (defScope st) .none kV doc pm an cdv ct) ⟨us, []⟩ = pure (ps.zip us)) : DefAt K mg x st ps :=
  have F := fun_mk (st := st) l c k
  ⟨f, _, F, g, F.binds h⟩
theorem clsAt_mk {K : PySem.W.Frag} {mg : Str → Option Value} {x qual : Str} {C : Addr} {st : Stmt} {f : Addr} {ps : List Str} {oc : Value} {od an : Option Addr} {osl : Array (Option Value)} {kV doc pm cdv ct : Value} (l : K.lookup f = some ⟨oc, od, .func (PySem.W.fnOf "__init__" qual (defArgs st) (defBody st) (defScope st) .none kV doc pm an cdv ct), osl⟩)
    (c : PySem.W.codeIn K cdv qual = true) (k : PySem.W.keepIn K (.ref f) = true) (M : Mk K C f) (g : mg x = some (.ref C))
    (h : ∀ (kV doc pm : Value) (an : Option Addr) (cdv ct : Value) (us : List Value), us.length = ps.length → bindArgs (PySem.W.fnOf "__init__" qual (defArgs st) (defBody st) (defScope st) .none kV doc pm an cdv ct) ⟨us, []⟩ = pure (ps.zip us)) : ClsAt K mg x qual C st ps :=
  have F := fun_mk (st := st) l c k
  ⟨f, _, F, M, g, F.binds h⟩
structure Txt (K : PySem.W.Frag) (mg : Str → Option Value) (CV CP CF CL : Addr) : Prop where
  c_Found : Cls K CF
  n_Found_leaves : NoAttr K CF "leaves"
  n_Found_days : NoAttr K CF "days"
  n_Found_many : NoAttr K CF "many"
  n_Found_plan : NoAttr K CF "plan"
  n_Found_colours : NoAttr K CF "colours"
  m_Found : ClsAt K mg "Found" "Found.__init__" CF s_Found_init ["self", "leaves", "days", "many", "plan", "colours"]
  c_Vineyard : Cls K CV
  n_Vineyard_days : NoAttr K CV "days"
  n_Vineyard_most_picked : NoAttr K CV "most_picked"
  n_Vineyard_most_pressed : NoAttr K CV "most_pressed"
  n_Vineyard_most_kept : NoAttr K CV "most_kept"
  n_Vineyard_cost : NoAttr K CV "cost"
  n_Vineyard_rain : NoAttr K CV "rain"
  n_Vineyard_plots : NoAttr K CV "plots"
  m_Vineyard : ClsAt K mg "Vineyard" "Vineyard.__init__" CV s_Vineyard_init ["self", "days", "most_picked", "most_pressed", "most_kept", "cost"]
  c_Plot : Cls K CP
  n_Plot_loads : NoAttr K CP "loads"
  n_Plot_colour : NoAttr K CP "colour"
  n_Plot_best_day : NoAttr K CP "best_day"
  n_Plot_beside : NoAttr K CP "beside"
  n_Plot_worth : NoAttr K CP "worth"
  n_Plot_less : NoAttr K CP "less"
  m_Plot : ClsAt K mg "Plot" "Plot.__init__" CP s_Plot_init ["self", "loads", "colour", "best_day", "beside", "worth", "less"]
  c_Line : Cls K CL
  n_Line_vineyard : NoAttr K CL "vineyard"
  m_Line : ClsAt K mg "Line" "Line.__init__" CL s_Line_init ["self"]
  b_len : mg "len" = none
  b_sum : mg "sum" = none
  b_all : mg "all" = none
  b_abs : mg "abs" = none
  b_range : mg "range" = none
  b_zip : mg "zip" = none
  b_enumerate : mg "enumerate" = none
  g_SPOILS : ConI mg "SPOILS" (-8)
  g_TOO_FULL : ConI mg "TOO_FULL" (-9)
  g_KEPT_AT_END : ConI mg "KEPT_AT_END" (-10)
  g_MOST_DAYS : ConI mg "MOST_DAYS" (4)
  g_MOST_PLOTS : ConI mg "MOST_PLOTS" (4)
  g_MOST_LOADS : ConI mg "MOST_LOADS" (1000)
  g_MOST_COST : ConI mg "MOST_COST" (100000)
  g_MOST_OF_PLOT : ConI mg "MOST_OF_PLOT" (100)
  g_MOST_BESIDE : ConI mg "MOST_BESIDE" (3)
  g_MOST_WORTH : ConI mg "MOST_WORTH" (1000)
  g_NO_PLAN : ConI mg "NO_PLAN" (-1)
  g_NO_DAY_asking : ConI mg "NO_DAY_asking" (-2)
  g_WRONG_PLOT : ConI mg "WRONG_PLOT" (-6)
  g_FULL_DAY : ConI mg "FULL_DAY" (-7)
  g_NONE_THERE : ConI mg "NONE_THERE" (-11)
  g_BEGINS : ConI mg "BEGINS" (0)
  g_RAIN : ConI mg "RAIN" (1)
  g_PLOT : ConI mg "PLOT" (2)
  g_BEST : ConI mg "BEST" (3)
  g_CHECK : ConI mg "CHECK" (4)
  g_PRESS : ConI mg "PRESS" (5)
  g_GOES : ConI mg "GOES" (6)
  g_NOT_AS_TOLD : ConI mg "NOT_AS_TOLD" (-1)
  g_NO_DAY_harvests : ConI mg "NO_DAY_harvests" (-2)
  g_FULL : ConI mg "FULL" (-5)
  g_NUMBERS : ConT K mg "NUMBERS" [5, 2, 6, 0, 0, 0, 1, 0]
  g_ROWS : ConT K mg "ROWS" [0, 0, 0, 0, 2, 1, 2, 2]
  d_days_off : DefAt K mg "days_off" s_days_off ["plot", "day"]
  d_worth_on : DefAt K mg "worth_on" s_worth_on ["plot", "day"]
  d_first_wrong_plot : DefAt K mg "first_wrong_plot" s_first_wrong_plot ["vineyard", "plan"]
  d_loads_on : DefAt K mg "loads_on" s_loads_on ["vineyard", "plan", "day", "colour"]
  d_picked_by : DefAt K mg "picked_by" s_picked_by ["vineyard", "plan"]
  d_first_full_day : DefAt K mg "first_full_day" s_first_full_day ["vineyard", "picked"]
  d_loads_picked : DefAt K mg "loads_picked" s_loads_picked ["picked"]
  d_days_picked : DefAt K mg "days_picked" s_days_picked ["picked"]
  d_earned : DefAt K mg "earned" s_earned ["vineyard", "plan"]
  d_kept_behind : DefAt K mg "kept_behind" s_kept_behind ["vineyard", "kept", "picked", "colour"]
  d_first_spoilt : DefAt K mg "first_spoilt" s_first_spoilt ["vineyard", "kept", "colour"]
  d_course : DefAt K mg "course" s_course ["vineyard", "picked", "colours"]
  d_right_ones : DefAt K mg "right_ones" s_right_ones ["vineyard", "picked", "some"]
  d_rows_of : DefAt K mg "rows_of" s_rows_of ["count", "most"]
  d_all_plans : DefAt K mg "all_plans" s_all_plans ["vineyard"]
  d_all_colours : DefAt K mg "all_colours" s_all_colours ["vineyard"]
  d_is_better : DefAt K mg "is_better" s_is_better ["leaves", "days", "found"]
  d_is_as_good : DefAt K mg "is_as_good" s_is_as_good ["leaves", "days", "found"]
  d_with_plan : DefAt K mg "with_plan" s_with_plan ["vineyard", "found", "plan", "some"]
  d_best_of : DefAt K mg "best_of" s_best_of ["vineyard", "plans", "some"]
  d_goes_on : DefAt K mg "goes_on" s_goes_on ["plan", "told", "day"]
  d_plans_from : DefAt K mg "plans_from" s_plans_from ["vineyard", "told", "day"]
  d_colours_from : DefAt K mg "colours_from" s_colours_from ["vineyard", "told", "day"]
  d_found_told : DefAt K mg "found_told" s_found_told ["vineyard", "found"]
  d_may_begin : DefAt K mg "may_begin" s_may_begin ["days", "loads", "cost"]
  d_may_be_plot : DefAt K mg "may_be_plot" s_may_be_plot ["vineyard", "plot"]
  d_is_plan : DefAt K mg "is_plan" s_is_plan ["vineyard", "plan"]
  d_are_colours : DefAt K mg "are_colours" s_are_colours ["vineyard", "colours"]
  d_against_plan : DefAt K mg "against_plan" s_against_plan ["vineyard", "plan"]
  d_against : DefAt K mg "against" s_against ["vineyard", "plan", "colours"]
  d_best_told : DefAt K mg "best_told" s_best_told ["vineyard"]
  d_check_told : DefAt K mg "check_told" s_check_told ["vineyard", "plan", "colours"]
  d_press_told : DefAt K mg "press_told" s_press_told ["vineyard", "plan"]
  d_goes_told : DefAt K mg "goes_told" s_goes_told ["vineyard", "day", "plan", "colours"]
  d_nights_told : DefAt K mg "nights_told" s_nights_told ["vineyard", "plan", "colours"]
  d_begun : DefAt K mg "begun" s_begun ["line", "days", "loads", "cost"]
  d_rained : DefAt K mg "rained" s_rained ["vineyard", "day", "wet"]
  d_planted : DefAt K mg "planted" s_planted ["vineyard", "plot"]
  d_changed : DefAt K mg "changed" s_changed ["line", "call", "values"]
  d_asked : DefAt K mg "asked" s_asked ["vineyard", "call", "values", "rows"]
  d_answered : DefAt K mg "answered" s_answered ["line", "call", "values", "rows"]
  d_rows_from : DefAt K mg "rows_from" s_rows_from ["calls", "place", "many"]
  d_answers : DefAt K mg "answers" s_answers ["calls"]
/-! ### a promise that a def of the text keeps -/
structure Keeps (P : Program) (w : World) (K : PySem.W.Frag) (mg : Str → Option Value) (base : Heap) (k : Nat) (x : Str) (ps : List Str) (sp : Sp) : Prop where
  ex : ∃ (f : Addr) (fd : FuncData), FnOk P w K mg base CX0 k f fd ps sp ∧ mg x = some (.ref f) ∧ PySem.W.keepIn K (.ref f) = true ∧ Binds K fd ps []
structure Makes (P : Program) (w : World) (K : PySem.W.Frag) (mg : Str → Option Value) (base : Heap) (k : Nat) (x : Str) (C : Addr) (ps : List Str) (sp : Sp) : Prop where
  ex : ∃ (f : Addr) (fd : FuncData), FnOk P w K mg base CX0 k f fd ps sp ∧ Mk K C f ∧ mg x = some (.ref C) ∧ Binds K fd ps []
section
variable {P : Program} {w : World} {K : PySem.W.Frag} {mg : Str → Option Value} {base : Heap}
theorem DefAt.ok {x : Str} {st : Stmt} {N ps : List Str} {k : Nat} {sp : Sp} (D : DefAt K mg x st ps) (S : FnScope N ps (defScope st)) (len : ∀ vs H Q E, sp vs H Q E → vs.length = ps.length)
    (hbody : ∀ (f : Addr) (cdv : Value) (A : Around) (outer : List Env) (s : Shared) (H : Hp) (vs : List V) (Q : VK) (E : XK), Room k (A.deeper (envOfC x (defScope st) s.heap.objs.size f cdv)) → sp vs H Q E →
      ∃ t, PSs (cxOf CX0 P w K mg base N x (defScope st) f cdv A outer s H E).nox (defBody st) t ∧ t { nx := fun _ H' => Q .non H', rt := Q } (start N vs) H) : Keeps P w K mg base (k + 1) x ps sp := by
  obtain ⟨f, fd, F, g, b⟩ := D.ex
  exact ⟨f, fd, F.ok S len (hbody f), g, F.kp, b⟩
theorem ClsAt.ok {x qual : Str} {C : Addr} {st : Stmt} {N ps : List Str} {k : Nat} {sp : Sp} (D : ClsAt K mg x qual C st ps) (S : FnScope N ps (defScope st)) (len : ∀ vs H Q E, sp vs H Q E → vs.length = ps.length)
    (hbody : ∀ (f : Addr) (cdv : Value) (A : Around) (outer : List Env) (s : Shared) (H : Hp) (vs : List V) (Q : VK) (E : XK), Room k (A.deeper (envOfC qual (defScope st) s.heap.objs.size f cdv)) → sp vs H Q E →
      ∃ t, PSs (cxOf CX0 P w K mg base N qual (defScope st) f cdv A outer s H E).nox (defBody st) t ∧ t { nx := fun _ H' => Q .non H', rt := Q } (start N vs) H) : Makes P w K mg base (k + 1) x C ps sp := by
  obtain ⟨f, fd, F, M, g, b⟩ := D.ex
  exact ⟨f, fd, F.ok S len (hbody f), M, g, b⟩
end
section
variable {X : Cx} {k : Nat} {C : Addr} {ps : List Str} {sp : Sp} {x : Str} {p pos : Pos} {e : Expr} {es : List Expr} {t : TA}
theorem pe_callN (G : Keeps X.prog X.w X.K X.mg X.base k x ps sp) (hr : Room k X.A) (hg : Gl X x) (ha : PA X (e :: es) t) (hdb : (x == ("__debug__" : Str)) = false := by decide)
    (he : starEach (e :: es) X.env = (false, eval e X.env) :: starEach es X.env := by rfl) (hpl : (backTo pos (starEach es X.env)).any (·.1) = false := by rfl) : PE X (.Call (.Name x p) (e :: es) [] pos) (tCall sp [] E0 t) := by
  obtain ⟨f, fd, F, g, kp, b⟩ := G.ex
  exact pe_call F hr hg g kp b .nil pass0 ha hdb he hpl
theorem pe_makeN (G : Makes X.prog X.w X.K X.mg X.base k x C ps sp) (hr : Room (k + 1) X.A) (hg : Gl X x) (ha : PA X (e :: es) t) (hdb : (x == ("__debug__" : Str)) = false := by decide)
    (he : starEach (e :: es) X.env = (false, eval e X.env) :: starEach es X.env := by rfl) (hpl : (backTo pos (starEach es X.env)).any (·.1) = false := by rfl) : PE X (.Call (.Name x p) (e :: es) [] pos) (tMake C sp [] E0 t) := by
  obtain ⟨f, fd, F, M, g, b⟩ := G.ex
  exact pe_make M F hr hg g b .nil pass0 ha hdb he hpl
theorem pe_makeN0 (G : Makes X.prog X.w X.K X.mg X.base k x C ps sp) (hr : Room (k + 1) X.A) (hg : Gl X x) (hdb : (x == ("__debug__" : Str)) = false := by decide) : PE X (.Call (.Name x p) [] [] pos) (tMake C sp [] E0 tNil) := by
  obtain ⟨f, fd, F, M, g, b⟩ := G.ex
  exact pe_make0 M F hr hg g b .nil pass0 hdb
theorem pe_const {n : Int} (hg : Gl X x) (hm : ConI X.mg x n) (hd : (x == ("__debug__" : Str)) = false := by decide) : PE X (.Name x pos) (tC (.int n)) := by
  obtain ⟨u, e⟩ := hm
  exact pe_glob hg e ⟨u, rfl⟩ hd
end
/-! within a comprehension K is said by its name -/
section
variable {X : Cx} {K : PySem.W.Frag}
theorem ix_tupK (h : X.K = K) : IxR X (rIxT K) := by
  subst h
  exact ix_tup
theorem ix_listK (h : X.K = K) : IxR X (rIxL K) := by
  subst h
  exact ix_list
theorem sl_listK (h : X.K = K) : SlR X (rSlL K) := by
  subst h
  exact sl_list
theorem op_eqDK (h : X.K = K) (hu : X.A.units + 64 < cLine) : OpR X (compareOp .Eq) (rEqD K) := by
  subst h
  exact op_eqD hu
theorem call_len_seqK (h : X.K = K) : CallR X (.builtin "len") (fun xs H Q => ∃ p ys, xs = [.ref p] ∧ (SqL K H p ys ∨ SqT K H p ys) ∧ Q (.int ys.length) H) := by
  subst h
  exact call_len_seq
theorem pe_fldK {e : Expr} {f : Str} {pos : Pos} {ta : TE} (h : X.K = K) (he : PE X e ta) (hb : attributeBase e f X.env (eval e X.env) = eval e X.env) : PE X (.Attribute e f pos) (tFld K ta f) := by
  subst h
  exact pe_fld he hb
end
theorem boot_abs_ : bootBuiltins "abs" = some (.builtin "abs") := by decide +kernel
theorem boot_sum_ : bootBuiltins "sum" = some (.builtin "sum") := by decide +kernel
theorem boot_all_ : bootBuiltins "all" = some (.builtin "all") := by decide +kernel

/-! ### heaps -/
theorem sm_new {H : Hp} {p : Addr} {o : HO} (h : H p = none) : Same H (upd H p o) := fun b x e => by
  rw [upd_ne (ne_of_none e h)]
  exact e
theorem sm_mut {H H' : Hp} {p : Addr} {o : HO} (e : Same H H') (h : H p = none) : Same H (upd H' p o) := fun b x eb => by
  rw [upd_ne (ne_of_none eb h)]
  exact e b x eb
theorem sm_tup {K : PySem.W.Frag} {H H' : Hp} {a : Addr} {xs : List V} (e : Same H H') (h : SqT K H a xs) : SqT K H' a xs := by
  rcases h with (h | ⟨o, h⟩) | h
  · exact .inl (.inl (e _ _ h))
  · exact .inl (.inr ⟨o, e _ _ h⟩)
  · exact .inr h
theorem SqLof {K : PySem.W.Frag} {H : Hp} {a : Addr} {xs : List V} (h : H a = some (.lst xs)) : SqL K H a xs := .inl (.inl h)
theorem SqTof {K : PySem.W.Frag} {H : Hp} {a : Addr} {xs : List V} (h : H a = some (.tup xs)) : SqT K H a xs := .inl (.inl h)
/-- a natural number as a value; one that may be missing -/
def N (n : Nat) : V := .int (n : Int)
def optN : Option Nat → V
  | none => .non
  | some n => N n
abbrev Ns (l : List Nat) : List V := l.map N
/-! ### fields -/
structure FieldAt (K : PySem.W.Frag) (H : Hp) (a : Addr) (f : Str) (v : V) : Prop where
  ex : ∃ C dx fs, H a = some (.ins C dx fs) ∧ Cls K C ∧ NoAttr K C f ∧ fs.lookup f = some v
theorem fld {K : PySem.W.Frag} {i : Nat} {f : Str} {σ : L2.St} {H : Hp} {Q : VK} {a : Addr} {v : V} (hx : σ[i]? = some (some (.ref a))) (F : FieldAt K H a f v) (q : Q v H) : tFld K (tVar i) f σ H Q := by
  obtain ⟨C, dx, fs, h1, h2, h3, h4⟩ := F.ex
  exact ⟨_, hx, a, C, dx, fs, v, rfl, h1, h2, h3, h4, q⟩
/-- the same, of what stands in the way of an evaluation already done -/
theorem fldV {K : PySem.W.Frag} {f : Str} {H : Hp} {Q : VK} {a : Addr} {v : V} (F : FieldAt K H a f v) (q : Q v H) : ∃ a' C dx fs v', V.ref a = .ref a' ∧ H a' = some (.ins C dx fs) ∧ Cls K C ∧ NoAttr K C f ∧ fs.lookup f = some v' ∧ Q v' H := by
  obtain ⟨C, dx, fs, h1, h2, h3, h4⟩ := F.ex
  exact ⟨a, C, dx, fs, v, rfl, h1, h2, h3, h4, q⟩
theorem FieldAt.mono {K : PySem.W.Frag} {H H' : Hp} {a : Addr} {f : Str} {v : V} (e : Same H H') (F : FieldAt K H a f v) : FieldAt K H' a f v := by
  obtain ⟨C, dx, fs, h1, h2, h3, h4⟩ := F.ex
  exact ⟨C, dx, fs, e _ _ h1, h2, h3, h4⟩
theorem lk_here {k : Str} {v : V} {r : List (Str × V)} : List.lookup k ((k, v) :: r) = some v := by
  have e : (k == k) = true := beq_self_eq_true k
  simp only [List.lookup, e]
theorem lk_past {k g : Str} {v u : V} {r : List (Str × V)} (h : (k == g) = false) (q : List.lookup k r = some u) : List.lookup k ((g, v) :: r) = some u := by
  simp only [List.lookup, h]
  exact q
/-- one field more, none of that name before -/
theorem putF_snoc {f : Str} {v : V} : ∀ {fs : List (Str × V)} {ks : List Str}, fs.map (·.1) = ks → ks.all (fun k => !(k == f)) = true → putF f v fs = fs ++ [(f, v)]
  | [], _, _, _ => rfl
  | (g, x) :: r, ks, e, h => by
    subst e
    rw [List.map_cons, List.all_cons, Bool.and_eq_true] at h
    have hn : ¬ g = f := fun q => by
      have h1 := h.1
      rw [show ((g, x) : Str × V).1 = f from q, beq_self_eq_true] at h1
      cases h1
    show (if g = f then (g, v) :: r else (g, x) :: putF f v r) = (g, x) :: (r ++ [(f, v)])
    rw [if_neg hn, putF_snoc rfl h.2]
/-- the vineyard, a plot, the best harvests so far, a line -/
def vineF (v : Uw50.Vine) (r ps : Addr) : List (Str × V) := [("days", N v.days), ("most_picked", N v.hands), ("most_pressed", N v.press), ("most_kept", N v.store), ("cost", N v.crew), ("rain", .ref r), ("plots", .ref ps)]
def plotF (p : Uw50.Plot) : List (Str × V) := [("loads", N p.loads), ("colour", N p.colour), ("best_day", N p.day), ("beside", N p.spread), ("worth", N p.worth), ("less", N p.less)]
def foundF (b : Uw50.Best) (pa ca : Addr) : List (Str × V) := [("leaves", .int b.good.gain), ("days", N b.good.picking), ("many", N b.many), ("plan", .ref pa), ("colours", .ref ca)]
def lineF (a : Addr) : List (Str × V) := [("vineyard", .ref a)]
structure POk (p : Uw50.Plot) : Prop where
  loads : p.loads ≤ 100
  colour : p.colour ≤ 1
  worth : p.worth ≤ 1000
  less : p.less ≤ 1000
structure VOk (v : Uw50.Vine) : Prop where
  d1 : 1 ≤ v.days
  d4 : v.days ≤ 4
  p4 : v.plots.length ≤ 4
  pl : ∀ p ∈ v.plots, POk p
  hands : v.hands ≤ 1000
  press : v.press ≤ 1000
  store : v.store ≤ 1000
  crew : v.crew ≤ 100000
  nd : v.rain.Nodup
  rd : ∀ d ∈ v.rain, d < v.days
def rainL (v : Uw50.Vine) : List Nat := (List.range v.days).map fun d => if v.rain.contains d then 1 else 0
def PlotAt (CP : Addr) (H : Hp) (q : Addr) (p : Uw50.Plot) : Prop := ∃ dx, H q = some (.ins CP dx (plotF p))
/-- qs: the plots' addresses beside them -/
structure VineAt (CV CP : Addr) (H : Hp) (a : Addr) (v : Uw50.Vine) : Prop where
  ok : VOk v
  ex : ∃ (dx r ps : Addr) (qs : List (Addr × Uw50.Plot)), H a = some (.ins CV dx (vineF v r ps)) ∧ H r = some (.lst (Ns (rainL v))) ∧ qs.map (·.2) = v.plots ∧ H ps = some (.lst (qs.map fun x => .ref x.1)) ∧ ∀ x ∈ qs, PlotAt CP H x.1 x.2
theorem PlotAt.mono {CP : Addr} {H H' : Hp} {q : Addr} {p : Uw50.Plot} (e : Same H H') (h : PlotAt CP H q p) : PlotAt CP H' q p := by
  obtain ⟨dx, h⟩ := h
  exact ⟨dx, e _ _ h⟩
theorem VineAt.mono {CV CP : Addr} {H H' : Hp} {a : Addr} {v : Uw50.Vine} (e : Same H H') (h : VineAt CV CP H a v) : VineAt CV CP H' a v := by
  obtain ⟨ok, dx, r, ps, qs, h1, h2, h3, h4, h5⟩ := h
  exact ⟨ok, dx, r, ps, qs, e _ _ h1, e _ _ h2, h3, e _ _ h4, fun x hx => (h5 x hx).mono e⟩
section
variable {K : PySem.W.Frag} {mg : Str → Option Value} {CV CP CF CL : Addr} {H : Hp} {a q : Addr} {v : Uw50.Vine} {p : Uw50.Plot}
theorem PlotAt.loads (T : Txt K mg CV CP CF CL) (h : PlotAt CP H q p) : FieldAt K H q "loads" (N p.loads) := by
  obtain ⟨dx, h⟩ := h
  exact ⟨CP, dx, _, h, T.c_Plot, T.n_Plot_loads, lk_here⟩
theorem PlotAt.colour (T : Txt K mg CV CP CF CL) (h : PlotAt CP H q p) : FieldAt K H q "colour" (N p.colour) := by
  obtain ⟨dx, h⟩ := h
  exact ⟨CP, dx, _, h, T.c_Plot, T.n_Plot_colour, lk_past (by decide +kernel) lk_here⟩
theorem PlotAt.best_day (T : Txt K mg CV CP CF CL) (h : PlotAt CP H q p) : FieldAt K H q "best_day" (N p.day) := by
  obtain ⟨dx, h⟩ := h
  exact ⟨CP, dx, _, h, T.c_Plot, T.n_Plot_best_day, lk_past (by decide +kernel) (lk_past (by decide +kernel) lk_here)⟩
theorem PlotAt.beside (T : Txt K mg CV CP CF CL) (h : PlotAt CP H q p) : FieldAt K H q "beside" (N p.spread) := by
  obtain ⟨dx, h⟩ := h
  exact ⟨CP, dx, _, h, T.c_Plot, T.n_Plot_beside, lk_past (by decide +kernel) (lk_past (by decide +kernel) (lk_past (by decide +kernel) lk_here))⟩
theorem PlotAt.worth (T : Txt K mg CV CP CF CL) (h : PlotAt CP H q p) : FieldAt K H q "worth" (N p.worth) := by
  obtain ⟨dx, h⟩ := h
  exact ⟨CP, dx, _, h, T.c_Plot, T.n_Plot_worth, lk_past (by decide +kernel) (lk_past (by decide +kernel) (lk_past (by decide +kernel) (lk_past (by decide +kernel) lk_here)))⟩
theorem PlotAt.less (T : Txt K mg CV CP CF CL) (h : PlotAt CP H q p) : FieldAt K H q "less" (N p.less) := by
  obtain ⟨dx, h⟩ := h
  exact ⟨CP, dx, _, h, T.c_Plot, T.n_Plot_less, lk_past (by decide +kernel) (lk_past (by decide +kernel) (lk_past (by decide +kernel) (lk_past (by decide +kernel) (lk_past (by decide +kernel) lk_here))))⟩
theorem VineAt.days (T : Txt K mg CV CP CF CL) (h : VineAt CV CP H a v) : FieldAt K H a "days" (N v.days) := by
  obtain ⟨ok, dx, r, ps, qs, h, _⟩ := h
  exact ⟨CV, dx, _, h, T.c_Vineyard, T.n_Vineyard_days, lk_here⟩
theorem VineAt.hands (T : Txt K mg CV CP CF CL) (h : VineAt CV CP H a v) : FieldAt K H a "most_picked" (N v.hands) := by
  obtain ⟨ok, dx, r, ps, qs, h, _⟩ := h
  exact ⟨CV, dx, _, h, T.c_Vineyard, T.n_Vineyard_most_picked, lk_past (by decide +kernel) lk_here⟩
theorem VineAt.press (T : Txt K mg CV CP CF CL) (h : VineAt CV CP H a v) : FieldAt K H a "most_pressed" (N v.press) := by
  obtain ⟨ok, dx, r, ps, qs, h, _⟩ := h
  exact ⟨CV, dx, _, h, T.c_Vineyard, T.n_Vineyard_most_pressed, lk_past (by decide +kernel) (lk_past (by decide +kernel) lk_here)⟩
theorem VineAt.store (T : Txt K mg CV CP CF CL) (h : VineAt CV CP H a v) : FieldAt K H a "most_kept" (N v.store) := by
  obtain ⟨ok, dx, r, ps, qs, h, _⟩ := h
  exact ⟨CV, dx, _, h, T.c_Vineyard, T.n_Vineyard_most_kept, lk_past (by decide +kernel) (lk_past (by decide +kernel) (lk_past (by decide +kernel) lk_here))⟩
theorem VineAt.cost (T : Txt K mg CV CP CF CL) (h : VineAt CV CP H a v) : FieldAt K H a "cost" (N v.crew) := by
  obtain ⟨ok, dx, r, ps, qs, h, _⟩ := h
  exact ⟨CV, dx, _, h, T.c_Vineyard, T.n_Vineyard_cost, lk_past (by decide +kernel) (lk_past (by decide +kernel) (lk_past (by decide +kernel) (lk_past (by decide +kernel) lk_here)))⟩
theorem VineAt.rain (T : Txt K mg CV CP CF CL) (h : VineAt CV CP H a v) : ∃ r, FieldAt K H a "rain" (.ref r) ∧ H r = some (.lst (Ns (rainL v))) := by
  obtain ⟨ok, dx, r, ps, qs, h, h2, _⟩ := h
  exact ⟨r, ⟨CV, dx, _, h, T.c_Vineyard, T.n_Vineyard_rain, lk_past (by decide +kernel) (lk_past (by decide +kernel) (lk_past (by decide +kernel) (lk_past (by decide +kernel) (lk_past (by decide +kernel) lk_here))))⟩, h2⟩
theorem VineAt.plots (T : Txt K mg CV CP CF CL) (h : VineAt CV CP H a v) : ∃ (ps : Addr) (qs : List (Addr × Uw50.Plot)), FieldAt K H a "plots" (.ref ps) ∧ qs.map (·.2) = v.plots ∧ H ps = some (.lst (qs.map fun x => .ref x.1)) ∧ ∀ x ∈ qs, PlotAt CP H x.1 x.2 := by
  obtain ⟨ok, dx, r, ps, qs, h, h2, h3, h4, h5⟩ := h
  exact ⟨ps, qs, ⟨CV, dx, _, h, T.c_Vineyard, T.n_Vineyard_plots, lk_past (by decide +kernel) (lk_past (by decide +kernel) (lk_past (by decide +kernel) (lk_past (by decide +kernel) (lk_past (by decide +kernel) (lk_past (by decide +kernel) lk_here)))))⟩, h3, h4, h5⟩
end
/-! ### loops whose target is a pair of names -/
theorem g_two {K : PySem.W.Frag} {i j : Nat} {T : Addr} {x y : V} {σ : L2.St} {H : Hp} {Q : L2.St → Hp → Prop} (h : H T = some (.tup [x, y])) (q : Q ((σ.set i (some x)).set j (some y)) H) : gTup K 2 (gCons (gName i) (gCons (gName j) gNil)) (.ref T) σ H Q :=
  ⟨T, [x, y], rfl, .inl (.inl h), rfl, x, [y], rfl, y, [], rfl, rfl, q⟩
section
variable {K : PySem.W.Frag} {a b : Addr} {xs ys : List V} {i j : Nat} {tb : TS} {D : Ends} {σ : L2.St} {H : Hp}
theorem for_enum2 (Pv : Nat → L2.St → Hp → Prop) (h0 : Pv 0 σ H) (hq : ∀ n σ H, Pv n σ H → SqL K H a xs)
    (hs : ∀ (n : Nat) (x : V) (σ : L2.St) (H H1 : Hp), xs[n]? = some x → Pv n σ H → Same H H1 → tb { D with nx := Pv (n + 1), ct := Pv (n + 1), bk := D.nx } ((σ.set i (some (N n))).set j (some x)) H1) (hd : ∀ σ H, Pv xs.length σ H → D.nx σ H) :
    ∃ W : Nat → Nat → L2.St → Hp → Prop, (∃ m, W 0 m σ H) ∧ ∀ n m σ H, W n m σ H →
      ((Ite K a).stop n H ∧ D.nx σ H) ∨ ((Ite K a).go n H ∧ ∃ Nn : L2.St → Hp → Prop, (∀ σ' H', Nn σ' H' → ∃ m', m' < m ∧ W (n + 1) m' σ' H') ∧ ∀ v H', (Ite K a).yld n H v H' → gTup K 2 (gCons (gName i) (gCons (gName j) gNil)) v σ H' fun σ2 H2 => tb { D with nx := Nn, ct := Nn, bk := D.nx } σ2 H2) := by
  refine ⟨fun n m σ H => m = xs.length - n ∧ n ≤ xs.length ∧ Pv n σ H, ⟨xs.length, rfl, Nat.zero_le _, h0⟩, ?_⟩
  rintro n m σ H ⟨rfl, hi, p⟩
  have qx := hq n σ H p
  by_cases hlt : n < xs.length
  · have hx : xs[n]? = some xs[n] := List.getElem?_eq_getElem hlt
    refine .inr ⟨⟨xs, _, qx, hx⟩, Pv (n + 1), fun σ' H' p' => ⟨xs.length - (n + 1), by omega, rfl, hlt, p'⟩, fun v H' y => ?_⟩
    obtain ⟨T, x', rfl, hT, rfl, f1⟩ := y
    exact g_two upd_same (hs n x' σ H _ (f1 xs qx) p (sm_new hT))
  · have e : n = xs.length := by omega
    subst e
    exact .inl ⟨⟨xs, qx, Nat.le_refl _⟩, hd σ H p⟩
theorem for_zip2 (hl : xs.length = ys.length) (Pv : Nat → L2.St → Hp → Prop) (h0 : Pv 0 σ H) (hq : ∀ n σ H, Pv n σ H → SqL K H a xs ∧ SqL K H b ys)
    (hs : ∀ (n : Nat) (x y : V) (σ : L2.St) (H H1 : Hp), xs[n]? = some x → ys[n]? = some y → Pv n σ H → Same H H1 → tb { D with nx := Pv (n + 1), ct := Pv (n + 1), bk := D.nx } ((σ.set i (some x)).set j (some y)) H1) (hd : ∀ σ H, Pv xs.length σ H → D.nx σ H) :
    ∃ W : Nat → Nat → L2.St → Hp → Prop, (∃ m, W 0 m σ H) ∧ ∀ n m σ H, W n m σ H →
      ((Itz K a b).stop n H ∧ D.nx σ H) ∨ ((Itz K a b).go n H ∧ ∃ Nn : L2.St → Hp → Prop, (∀ σ' H', Nn σ' H' → ∃ m', m' < m ∧ W (n + 1) m' σ' H') ∧ ∀ v H', (Itz K a b).yld n H v H' → gTup K 2 (gCons (gName i) (gCons (gName j) gNil)) v σ H' fun σ2 H2 => tb { D with nx := Nn, ct := Nn, bk := D.nx } σ2 H2) :=
  RZ.for_zipL hl Pv h0 hq (fun n x y T σ H hx hy p hT => g_two upd_same (hs n x y σ H _ hx hy p (sm_new hT))) hd
end
/-! ### comprehensions that make values which are known beforehand: over a list, over a range -/
section
variable {K : PySem.W.Frag} {a : Addr} {j : Nat} {tt : TT} {te : TE} {vs : List Nat} {σ : L2.St} {H : Hp} {Qd : Addr → Hp → Prop}
theorem lc_det {α : Type} (l : List α) (g : α → V) (f : α → Option V) (hx : SqL K H a (l.map g)) (hz : l.length ≤ 1000000) (hw : ∀ x, wipe ((wipe σ vs).set j (some x)) vs = wipe σ vs)
    (hs : ∀ (y : α) (H1 : Hp), y ∈ l → Same H H1 → ∀ Qn : Option V → Hp → Prop, (∀ H2, Same H1 H2 → Qn (f y) H2) → tt ((wipe σ vs).set j (some (g y))) H1 fun b H3 => if b = true then te ((wipe σ vs).set j (some (g y))) H3 fun z H4 => Qn (some z) H4 else Qn none H3)
    (q : ∀ D H1, H D = none → Same H H1 → H1 D = some (.lst (l.filterMap f)) → Qd D H1) :
    ∀ D, H D = none → ∃ W : Nat → Nat → Hp → Prop, (∃ m, W 0 m (upd H D (.lst []))) ∧ ∀ i m H, W i m H →
      ((Itl K a).stop i H ∧ Qd D H) ∨ ((Itl K a).go i H ∧ ∃ Nx : Hp → Prop, (∀ H', Nx H' → ∃ m', m' < m ∧ W (i + 1) m' H') ∧ ∀ x H', (Itl K a).yld i H x H' → gName j x (wipe σ vs) H' fun σ2 H2 => wipe σ2 vs = wipe σ vs ∧ tt σ2 H2 fun b H3 =>
        if b = true then te σ2 H3 fun y H4 => ∃ acc, H4 D = some (.lst acc) ∧ acc.length < sizeLine ∧ Nx (upd H4 D (.lst (acc ++ [y]))) else Nx H3) := by
  intro D hD
  refine lc_list (xs := l.map g) (Qd := fun H1 => Qd D H1) (fun i H1 => Same H H1 ∧ H1 D = some (.lst ((l.take i).filterMap f))) ⟨sm_new hD, upd_same⟩ (fun i H1 _ p => p.1.seq hx) ?_ ?_
  · rintro i x H1 hi ⟨p1, p2⟩
    rw [List.getElem?_map] at hi
    cases hy : l[i]? with
    | none =>
      rw [hy] at hi
      cases hi
    | some y =>
      rw [hy] at hi
      obtain rfl : g y = x := Option.some.inj hi
      refine ⟨hw _, ?_⟩
      have hi2 : i < l.length := (List.getElem?_eq_some_iff.mp hy).1
      refine hs y H1 (List.mem_of_getElem? hy) p1 (fun o H4 => match o with
        | some z => ∃ acc, H4 D = some (.lst acc) ∧ acc.length < sizeLine ∧ (Same H (upd H4 D (.lst (acc ++ [z]))) ∧ (upd H4 D (.lst (acc ++ [z]))) D = some (.lst ((l.take (i + 1)).filterMap f)))
        | none => Same H H4 ∧ H4 D = some (.lst ((l.take (i + 1)).filterMap f))) fun H2 e2 => ?_
      have et : l.take (i + 1) = l.take i ++ [y] := by rw [List.take_add_one, hy]; rfl
      cases hf : f y with
      | none =>
        refine ⟨p1.trans e2, ?_⟩
        rw [et, List.filterMap_append, show [y].filterMap f = [] by simp [hf], List.append_nil]
        exact e2 _ _ p2
      | some z =>
        refine ⟨_, e2 _ _ p2, ?_, sm_mut (p1.trans e2) hD, ?_⟩
        · have h1 := List.length_filterMap_le f (l.take i)
          have h2 : (l.take i).length ≤ l.length := by rw [List.length_take]; omega
          exact Nat.lt_of_le_of_lt (Nat.le_trans h1 (Nat.le_trans h2 hz)) (by decide)
        · rw [et, List.filterMap_append, show [y].filterMap f = [z] by simp [hf]]
          exact upd_same
  · rintro H1 ⟨p1, p2⟩
    refine q D H1 hD p1 ?_
    rw [List.length_map, List.take_length] at p2
    exact p2
theorem lc_detR (n : Nat) (f : Nat → Option V) (hz : n ≤ 1000000) (hw : ∀ x, wipe ((wipe σ vs).set j (some x)) vs = wipe σ vs)
    (hs : ∀ (y : Nat) (H1 : Hp), y < n → Same H H1 → ∀ Qn : Option V → Hp → Prop, (∀ H2, Same H1 H2 → Qn (f y) H2) → tt ((wipe σ vs).set j (some (N y))) H1 fun b H3 => if b = true then te ((wipe σ vs).set j (some (N y))) H3 fun z H4 => Qn (some z) H4 else Qn none H3)
    (q : ∀ D H1, H D = none → Same H H1 → H1 D = some (.lst ((List.range n).filterMap f)) → Qd D H1) :
    ∀ D, H D = none → ∃ W : Nat → Nat → Hp → Prop, (∃ m, W 0 m (upd H D (.lst []))) ∧ ∀ i m H, W i m H →
      ((Itr 0 n).stop i H ∧ Qd D H) ∨ ((Itr 0 n).go i H ∧ ∃ Nx : Hp → Prop, (∀ H', Nx H' → ∃ m', m' < m ∧ W (i + 1) m' H') ∧ ∀ x H', (Itr 0 n).yld i H x H' → gName j x (wipe σ vs) H' fun σ2 H2 => wipe σ2 vs = wipe σ vs ∧ tt σ2 H2 fun b H3 =>
        if b = true then te σ2 H3 fun y H4 => ∃ acc, H4 D = some (.lst acc) ∧ acc.length < sizeLine ∧ Nx (upd H4 D (.lst (acc ++ [y]))) else Nx H3) := by
  intro D hD
  refine lc_range (lo := 0) (n := n) (Qd := fun H1 => Qd D H1) (fun i H1 => Same H H1 ∧ H1 D = some (.lst ((List.range i).filterMap f))) ⟨sm_new hD, upd_same⟩ ?_ ?_
  · rintro i H1 hi ⟨p1, p2⟩
    refine ⟨hw _, ?_⟩
    have e0 : (V.int ((0 : Int) + (i : Int))) = N i := by
      show V.int _ = V.int _
      rw [Int.zero_add]
    show tt ((wipe σ vs).set j (some (V.int ((0 : Int) + (i : Int))))) H1 fun b H3 => if b = true then te ((wipe σ vs).set j (some (V.int ((0 : Int) + (i : Int))))) H3 fun z H4 => _ else _
    rw [e0]
    refine hs i H1 hi p1 (fun o H4 => match o with
        | some z => ∃ acc, H4 D = some (.lst acc) ∧ acc.length < sizeLine ∧ (Same H (upd H4 D (.lst (acc ++ [z]))) ∧ (upd H4 D (.lst (acc ++ [z]))) D = some (.lst ((List.range (i + 1)).filterMap f)))
        | none => Same H H4 ∧ H4 D = some (.lst ((List.range (i + 1)).filterMap f))) fun H2 e2 => ?_
    cases hf : f i with
    | none =>
      refine ⟨p1.trans e2, ?_⟩
      rw [List.range_succ, List.filterMap_append, show [i].filterMap f = [] by simp [hf], List.append_nil]
      exact e2 _ _ p2
    | some z =>
      refine ⟨_, e2 _ _ p2, ?_, sm_mut (p1.trans e2) hD, ?_⟩
      · have h1 := List.length_filterMap_le f (List.range i)
        rw [List.length_range] at h1
        exact Nat.lt_of_le_of_lt (Nat.le_trans h1 (Nat.le_trans (Nat.le_of_lt hi) hz)) (by decide)
      · rw [List.range_succ, List.filterMap_append, show [i].filterMap f = [z] by simp [hf]]
        exact upd_same
  · rintro H1 ⟨p1, p2⟩
    exact q D H1 hD p1 p2
end
/-! ### lists of rows, lists of pairs -/
def RowsAt (H : Hp) (p : Addr) (rs : List (List Nat)) : Prop := ∃ ps : List (Addr × List Nat), ps.map (·.2) = rs ∧ H p = some (.lst (ps.map fun x => .ref x.1)) ∧ ∀ x ∈ ps, H x.1 = some (.lst (Ns x.2))
def PairsAt (H : Hp) (p : Addr) (ds : List (Nat × Nat)) : Prop := ∃ ts : List (Addr × (Nat × Nat)), ts.map (·.2) = ds ∧ H p = some (.lst (ts.map fun x => .ref x.1)) ∧ ∀ x ∈ ts, H x.1 = some (.tup [N x.2.1, N x.2.2])
theorem RowsAt.mono {H H' : Hp} {p : Addr} {rs : List (List Nat)} (e : Same H H') (h : RowsAt H p rs) : RowsAt H' p rs := by
  obtain ⟨ps, h1, h2, h3⟩ := h
  exact ⟨ps, h1, e _ _ h2, fun x hx => e _ _ (h3 x hx)⟩
theorem PairsAt.mono {H H' : Hp} {p : Addr} {ds : List (Nat × Nat)} (e : Same H H') (h : PairsAt H p ds) : PairsAt H' p ds := by
  obtain ⟨ps, h1, h2, h3⟩ := h
  exact ⟨ps, h1, e _ _ h2, fun x hx => e _ _ (h3 x hx)⟩
end Vh

set_option Elab.async false
set_option linter.all false
/-! plain Lean about the specification, no program in sight -/
namespace VhM
open Uw50
theorem total_snoc (l : List Nat) (x : Nat) : total (l ++ [x]) = total l + x := by
  unfold total
  rw [List.foldl_append]
  rfl
theorem foldl_add (l : List Nat) : ∀ a : Nat, l.foldl (fun a b => a + b) a = a + l.foldl (fun a b => a + b) 0 := by
  induction l with
  | nil => intro a; rfl
  | cons x r ih =>
    intro a
    rw [List.foldl_cons, List.foldl_cons, ih (a + x), ih (0 + x)]
    omega
theorem total_cons (x : Nat) (l : List Nat) : total (x :: l) = x + total l := by
  unfold total
  rw [List.foldl_cons, foldl_add l (0 + x)]
  omega
theorem total_range (f : Nat → Nat) (i : Nat) : total ((List.range (i + 1)).map f) = total ((List.range i).map f) + f i := by
  rw [List.range_succ, List.map_append, List.map_singleton, total_snoc]
theorem total_sum (l : List Nat) : ((l.map fun n : Nat => (n : Int)).sum) = (total l : Nat) := by
  induction l with
  | nil => rfl
  | cons x r ih =>
    rw [List.map_cons, List.sum_cons, ih, total_cons]
    omega
theorem find_none {p : Nat → Bool} {n : Nat} (h : ∀ j, j < n → p j = false) : (List.range n).find? p = none := by
  rw [List.find?_eq_none]
  intro x hx
  rw [h x (List.mem_range.mp hx)]
  exact Bool.false_ne_true
theorem find_some {p : Nat → Bool} {n i : Nat} (hi : i < n) (hp : p i = true) (h : ∀ j, j < i → p j = false) : (List.range n).find? p = some i := by
  rw [List.find?_range_eq_some]
  exact ⟨hp, List.mem_range.mpr hi, fun j hj => by rw [h j hj]; rfl⟩
theorem all_true {p : Nat → Bool} {n : Nat} (h : ∀ j, j < n → p j = true) : (List.range n).all p = true := by
  rw [List.all_eq_true]
  intro x hx
  exact h x (List.mem_range.mp hx)
theorem all_false {p : Nat → Bool} {n i : Nat} (hi : i < n) (h : p i = false) : (List.range n).all p = false := by
  rw [List.all_eq_false]
  exact ⟨i, List.mem_range.mpr hi, by rw [h]; exact Bool.false_ne_true⟩
theorem plot_at {v : Vine} {i : Nat} {p : Plot} (h : v.plots[i]? = some p) : v.plot i = p := by
  unfold Vine.plot
  rw [List.getD_eq_getElem?_getD, h]
  rfl
theorem on_at {v : Vine} {l : List Nat} {i d : Nat} (h : l[i]? = some d) : v.on l i = d := by
  unfold Vine.on
  rw [List.getD_eq_getElem?_getD, h]
  rfl
theorem apart_abs (a b : Nat) : (if (a : Int) - (b : Int) < 0 then -((a : Int) - (b : Int)) else (a : Int) - (b : Int)) = ((apart a b : Nat) : Int) := by
  unfold apart
  split <;> omega
theorem take_more {α : Type} {l : List α} {i : Nat} {x : α} (h : l[i]? = some x) : l.take (i + 1) = l.take i ++ [x] := by
  rw [List.take_add_one, h]
  rfl
/-- what is picked day by day: white, red -/
def picks (v : Vine) (l : List Nat) : List (Nat × Nat) := (List.range v.days).map fun d => (v.of l d 0, v.of l d 1)
def ofPart (v : Vine) (l : List Nat) (d k n : Nat) : Nat := total ((List.range n).map fun i => if v.on l i = d ∧ (v.plot i).colour = k then (v.plot i).loads else 0)
theorem ofPart_zero (v : Vine) (l : List Nat) (d k : Nat) : ofPart v l d k 0 = 0 := rfl
theorem ofPart_succ (v : Vine) (l : List Nat) (d k n : Nat) : ofPart v l d k (n + 1) = ofPart v l d k n + (if v.on l n = d ∧ (v.plot n).colour = k then (v.plot n).loads else 0) := total_range _ n
def earnPart (v : Vine) (l : List Nat) (n : Nat) : Nat := total ((List.range n).map fun i => if v.on l i < v.days then v.brings i (v.on l i) else 0)
theorem earnPart_succ (v : Vine) (l : List Nat) (n : Nat) : earnPart v l (n + 1) = earnPart v l n + (if v.on l n < v.days then v.brings n (v.on l n) else 0) := total_range _ n
theorem fm_some {α β : Type} (f : α → β) (l : List α) : l.filterMap (fun y => some (f y)) = l.map f := congrFun List.filterMap_eq_map' l
theorem fm_if {α β : Type} (p : α → Bool) (f : α → β) : ∀ l : List α, l.filterMap (fun y => if p y = true then some (f y) else none) = (l.filter p).map f
  | [] => rfl
  | x :: r => by
    by_cases h : p x = true
    · rw [List.filterMap_cons_some (b := f x) (by simp [h]), List.filter_cons_of_pos h, List.map_cons, fm_if p f r]
    · rw [List.filterMap_cons_none (by simp [h]), List.filter_cons_of_neg h, fm_if p f r]
theorem loads_picks (v : Vine) (l : List Nat) : total ((picks v l).map fun x => x.1 + x.2) = v.loads l := by
  unfold picks Vine.loads
  rw [List.map_map]
  rfl
theorem picking_picks (v : Vine) (l : List Nat) : ((picks v l).filter fun x => decide (0 < x.1 + x.2)).length = v.picking l := by
  unfold picks Vine.picking
  rw [List.filter_map, List.length_map]
  rfl
/-! ### the press -/
def spoilt (v : Vine) (w r k : Nat) : Option Nat := if (if k = 0 then v.press else 0) < w then some 0 else if (if k = 1 then v.press else 0) < r then some 1 else none
def behind (v : Vine) (w r a b k : Nat) : Nat × Nat := if k = 0 then (w + a - v.press, b) else (a, r + b - v.press)
theorem left_old (v : Vine) (o n : Nat) : v.left false o n = if 0 < o then none else some n := by
  unfold Vine.left
  rw [if_neg Bool.false_ne_true]
  by_cases h : o = 0
  · rw [if_pos h, if_neg (by omega)]
  · rw [if_neg h, if_pos (by omega)]
theorem left_new (v : Vine) (o n : Nat) : v.left true o n = if v.press < o then none else some (o + n - v.press) := by
  unfold Vine.left
  rw [if_pos rfl]
theorem nights_stop (v : Vine) (l c : List Nat) (d w r : Nat) : v.nightsFrom l c 0 d w r = if w = 0 ∧ r = 0 then .ok [] else .error .late := rfl
theorem nights_step (v : Vine) (l c : List Nat) (f d w r k : Nat) (hk : c[d]? = some k) (h1 : k ≤ 1) : v.nightsFrom l c (f + 1) d w r =
    match spoilt v w r k with
    | some x => .error (.spoils d x)
    | none => if v.store < (behind v w r (v.of l d 0) (v.of l d 1) k).1 + (behind v w r (v.of l d 0) (v.of l d 1) k).2 then .error (.full d) else
      (v.nightsFrom l c f (d + 1) (behind v w r (v.of l d 0) (v.of l d 1) k).1 (behind v w r (v.of l d 0) (v.of l d 1) k).2).map fun n => behind v w r (v.of l d 0) (v.of l d 1) k :: n := by
  have hg : c.getD d 2 = k := by
    rw [List.getD_eq_getElem?_getD, hk]
    rfl
  rw [Vine.nightsFrom, hg]
  rcases (by omega : k = 0 ∨ k = 1) with rfl | rfl
  · rw [show ((0 : Nat) == 0) = true from rfl, show ((0 : Nat) == 1) = false from rfl, left_old, left_new]
    unfold spoilt behind
    by_cases a : v.press < w
    · simp [a]
    · by_cases b : 0 < r
      · simp [a, b]
      · simp [a, b]
  · rw [show ((1 : Nat) == 0) = false from rfl, show ((1 : Nat) == 1) = true from rfl, left_old, left_new]
    unfold spoilt behind
    by_cases a : 0 < w
    · simp [a]
    · by_cases b : v.press < r
      · simp [a, b]
      · simp [a, b]
/-! ### rows -/
/-- the rows, built at their ends -/
def rb (m : Nat) : Nat → List (List Nat)
  | 0 => [[]]
  | n + 1 => (rb m n).flatMap fun r => (List.range (m + 1)).map fun x => r ++ [x]
theorem rows_end (m : Nat) : ∀ n, rows m (n + 1) = (rows m n).flatMap fun r => (List.range (m + 1)).map fun x => r ++ [x]
  | 0 => by
    show (List.range (m + 1)).flatMap (fun a => [[a]]) = ([[]] : List (List Nat)).flatMap fun r => (List.range (m + 1)).map fun x => r ++ [x]
    rw [List.flatMap_singleton]
    generalize List.range (m + 1) = k
    induction k with
    | nil => rfl
    | cons x r ih =>
      rw [List.flatMap_cons, ih]
      rfl
  | n + 1 => by
    show (List.range (m + 1)).flatMap (fun a => (rows m (n + 1)).map fun l => a :: l) = ((List.range (m + 1)).flatMap fun a => (rows m n).map fun l => a :: l).flatMap fun r => (List.range (m + 1)).map fun x => r ++ [x]
    rw [List.flatMap_assoc]
    refine congrArg (fun f => (List.range (m + 1)).flatMap f) (funext fun a => ?_)
    rw [rows_end m n, List.map_flatMap, List.flatMap_map]
    refine congrArg (fun f => (rows m n).flatMap f) (funext fun r => ?_)
    rw [List.map_map]
    rfl
theorem rows_rb (m : Nat) : ∀ n, rows m n = rb m n
  | 0 => rfl
  | n + 1 => by
    rw [rows_end, rows_rb m n]
    rfl
theorem flatMap_len {α β : Type} (f : α → List β) (k : Nat) : ∀ l : List α, (∀ x ∈ l, (f x).length = k) → (l.flatMap f).length = l.length * k
  | [], _ => by simp
  | x :: r, h => by
    rw [List.flatMap_cons, List.length_append, h x List.mem_cons_self, flatMap_len f k r (fun y hy => h y (List.mem_cons_of_mem _ hy)), List.length_cons, Nat.succ_mul]
    omega
theorem rb_len (m : Nat) : ∀ n, (rb m n).length = (m + 1) ^ n
  | 0 => rfl
  | n + 1 => by
    show ((rb m n).flatMap fun r => (List.range (m + 1)).map fun x => r ++ [x]).length = _
    rw [flatMap_len _ (m + 1) _ (fun x _ => by rw [List.length_map, List.length_range]), rb_len m n, Nat.pow_succ]
theorem rb_row (m : Nat) : ∀ n, ∀ r ∈ rb m n, r.length = n ∧ ∀ x ∈ r, x ≤ m
  | 0, r, h => by
    obtain rfl := List.mem_singleton.mp h
    exact ⟨rfl, fun x hx => by cases hx⟩
  | n + 1, r, h => by
    obtain ⟨q, hq, h2⟩ := List.mem_flatMap.mp h
    obtain ⟨x, hx, rfl⟩ := List.mem_map.mp h2
    obtain ⟨i1, i2⟩ := rb_row m n q hq
    refine ⟨by rw [List.length_append, i1]; rfl, fun y hy => ?_⟩
    rcases List.mem_append.mp hy with hy | hy
    · exact i2 y hy
    · obtain rfl := List.mem_singleton.mp hy
      have := List.mem_range.mp hx
      omega
theorem rows_len (m n : Nat) : (rows m n).length = (m + 1) ^ n := by
  rw [rows_rb, rb_len]
theorem rows_row {m n : Nat} {r : List Nat} (h : r ∈ rows m n) : r.length = n ∧ ∀ x ∈ r, x ≤ m := by
  rw [rows_rb] at h
  exact rb_row m n r h
theorem pow_le {m n : Nat} (hm : m ≤ 4) (hn : n ≤ 4) : (m + 1) ^ n ≤ 625 := Nat.le_trans (Nat.pow_le_pow_left (by omega : m + 1 ≤ 5) n) (Nat.le_trans (Nat.pow_le_pow_right (by decide) hn) (by decide))
theorem flatMap_take {α β : Type} (f : α → List β) {l : List α} {i : Nat} {x : α} (h : l[i]? = some x) : (l.take (i + 1)).flatMap f = (l.take i).flatMap f ++ f x := by
  rw [take_more h, List.flatMap_append, List.flatMap_singleton]
theorem rows_coloured {v : Vine} {c : List Nat} (h : c ∈ rows 1 v.days) : v.coloured c = true := by
  obtain ⟨h1, h2⟩ := rows_row h
  unfold Vine.coloured
  rw [Bool.and_eq_true, List.all_eq_true]
  exact ⟨beq_iff_eq.mpr h1, fun k hk => decide_eq_true (h2 k hk)⟩
theorem rows_told {v : Vine} {l : List Nat} (h : l ∈ rows v.days v.count) : v.told l = true := by
  obtain ⟨h1, h2⟩ := rows_row h
  unfold Vine.told
  rw [Bool.and_eq_true, List.all_eq_true]
  exact ⟨beq_iff_eq.mpr h1, fun k hk => decide_eq_true (h2 k hk)⟩
/-! ### the best -/
def fromRows (g : Good) (l : List Nat) (fb : Option Best) : List (List Nat) → Option Best
  | [] => fb
  | c :: r => some ⟨g, (c :: r).length, l, c⟩
def withPlan (v : Vine) (rs : List (List Nat)) (fb : Option Best) (l : List Nat) : Option Best :=
  if (v.badDay l).isSome = true then fb else
  match fb with
  | none => fromRows (v.goodOf l) l none (rs.filter (v.flows l))
  | some b => if better (v.goodOf l) b.good = true then fromRows (v.goodOf l) l (some b) (rs.filter (v.flows l)) else
    if v.goodOf l = b.good then some { b with many := b.many + (rs.filter (v.flows l)).length } else some b
def bestFold (v : Vine) (rs : List (List Nat)) (ls : List (List Nat)) : Option Best := ls.foldl (fun fb l => if (v.badPlot l).isNone = true then withPlan v rs fb l else fb) none
def bstep (v : Vine) (b : Option Best) (x : List Nat × List Nat) : Option Best :=
  match b with
  | none => some ⟨v.goodOf x.1, 1, x.1, x.2⟩
  | some y => if better (v.goodOf x.1) y.good = true then some ⟨v.goodOf x.1, 1, x.1, x.2⟩ else if v.goodOf x.1 = y.good then some { y with many := y.many + 1 } else some y
theorem bestOf_bstep (v : Vine) (h : List (List Nat × List Nat)) : v.bestOf h = (h.filter fun x => v.right x.1 x.2).foldl (bstep v) none := rfl
theorem better_irrefl (g : Good) : better g g = false := by
  unfold better
  simp
theorem bstep_same (v : Vine) (l : List Nat) (b : Best) (hg : b.good = v.goodOf l) : ∀ (R : List (List Nat)) (n : Nat), (R.map fun c => (l, c)).foldl (bstep v) (some { b with many := n }) = some { b with many := n + R.length }
  | [], n => rfl
  | c :: r, n => by
    rw [List.map_cons, List.foldl_cons]
    have e : bstep v (some { b with many := n }) (l, c) = some { b with many := n + 1 } := by
      show (if better (v.goodOf l) b.good = true then _ else if v.goodOf l = b.good then some { b with many := n + 1 } else _) = _
      rw [hg, better_irrefl, if_neg Bool.false_ne_true, if_pos rfl]
    rw [e, bstep_same v l b hg r (n + 1), List.length_cons]
    congr 2
    omega
theorem bstep_worse (v : Vine) (l : List Nat) (b : Best) (h1 : better (v.goodOf l) b.good = false) (h2 : ¬ v.goodOf l = b.good) : ∀ R : List (List Nat), (R.map fun c => (l, c)).foldl (bstep v) (some b) = some b
  | [] => rfl
  | c :: r => by
    rw [List.map_cons, List.foldl_cons]
    have e : bstep v (some b) (l, c) = some b := by
      show (if better (v.goodOf l) b.good = true then _ else if v.goodOf l = b.good then _ else some b) = _
      rw [h1, if_neg Bool.false_ne_true, if_neg h2]
    rw [e, bstep_worse v l b h1 h2 r]
theorem bstep_rows (v : Vine) (l : List Nat) (fb : Option Best) (R : List (List Nat)) : (R.map fun c => (l, c)).foldl (bstep v) fb =
    match fb with
    | none => fromRows (v.goodOf l) l none R
    | some b => if better (v.goodOf l) b.good = true then fromRows (v.goodOf l) l (some b) R else
      if v.goodOf l = b.good then some { b with many := b.many + R.length } else some b := by
  have first : ∀ (c : List Nat) (r : List (List Nat)), (r.map fun c => (l, c)).foldl (bstep v) (some ⟨v.goodOf l, 1, l, c⟩) = some ⟨v.goodOf l, (c :: r).length, l, c⟩ := fun c r => by
    refine (bstep_same v l ⟨v.goodOf l, 1, l, c⟩ rfl r 1).trans ?_
    rw [List.length_cons, Nat.add_comm]
  cases fb with
  | none =>
    cases R with
    | nil => rfl
    | cons c r =>
      rw [List.map_cons, List.foldl_cons]
      exact first c r
  | some b =>
    show _ = if better (v.goodOf l) b.good = true then fromRows (v.goodOf l) l (some b) R else if v.goodOf l = b.good then some { b with many := b.many + R.length } else some b
    by_cases h : better (v.goodOf l) b.good = true
    · rw [if_pos h]
      cases R with
      | nil => rfl
      | cons c r =>
        rw [List.map_cons, List.foldl_cons]
        have e : bstep v (some b) (l, c) = some ⟨v.goodOf l, 1, l, c⟩ := if_pos h
        rw [e]
        exact first c r
    · rw [if_neg h]
      by_cases h2 : v.goodOf l = b.good
      · rw [if_pos h2]
        exact bstep_same v l b h2.symm R b.many
      · rw [if_neg h2]
        exact bstep_worse v l b (Bool.eq_false_iff.mpr h) h2 R
theorem foldl_flatMap {α β γ : Type} (f : γ → β → γ) (g : α → List β) : ∀ (l : List α) (b : γ), (l.flatMap g).foldl f b = l.foldl (fun b x => (g x).foldl f b) b
  | [], _ => rfl
  | x :: r, b => by
    rw [List.flatMap_cons, List.foldl_append, List.foldl_cons, foldl_flatMap f g r]
theorem filter_flatMap {α β : Type} (p : β → Bool) (g : α → List β) : ∀ l : List α, (l.flatMap g).filter p = l.flatMap fun x => (g x).filter p
  | [] => rfl
  | x :: r => by
    rw [List.flatMap_cons, List.filter_append, List.flatMap_cons, filter_flatMap p g r]
theorem foldl_congr_mem {α β : Type} {f g : β → α → β} : ∀ (l : List α) (b : β), (∀ x ∈ l, ∀ b, f b x = g b x) → l.foldl f b = l.foldl g b
  | [], _, _ => rfl
  | x :: r, b, h => by
    rw [List.foldl_cons, List.foldl_cons, h x List.mem_cons_self, foldl_congr_mem r _ fun y hy => h y (List.mem_cons_of_mem _ hy)]
theorem bestOf_fold (v : Vine) (ls rs : List (List Nat)) (hl : ∀ l ∈ ls, v.told l = true) (hr : ∀ c ∈ rs, v.coloured c = true) : v.bestOf (ls.flatMap fun l => rs.map fun c => (l, c)) = bestFold v rs ls := by
  rw [bestOf_bstep, filter_flatMap, foldl_flatMap]
  refine foldl_congr_mem ls none fun l hlm fb => ?_
  have e : (rs.map fun c => (l, c)).filter (fun x => v.right x.1 x.2) = if (v.badPlot l).isNone = true ∧ (v.badDay l).isNone = true then (rs.filter (v.flows l)).map fun c => (l, c) else [] := by
    rw [List.filter_map]
    have e2 : rs.filter ((fun x : List Nat × List Nat => v.right x.1 x.2) ∘ fun c => (l, c)) = rs.filter fun c => (v.badPlot l).isNone && ((v.badDay l).isNone && v.flows l c) := by
      refine List.filter_congr fun c hc => ?_
      show v.right l c = _
      unfold Vine.right
      rw [hl l hlm, hr c hc]
      rfl
    rw [e2]
    by_cases h : (v.badPlot l).isNone = true ∧ (v.badDay l).isNone = true
    · rw [if_pos h, h.1, h.2]
      rfl
    · rw [if_neg h]
      have e3 : rs.filter (fun c => (v.badPlot l).isNone && ((v.badDay l).isNone && v.flows l c)) = [] := by
        rw [List.filter_eq_nil_iff]
        intro c _ q
        rw [Bool.and_eq_true, Bool.and_eq_true] at q
        exact h ⟨q.1, q.2.1⟩
      rw [e3]
      rfl
  rw [e]
  by_cases h1 : (v.badPlot l).isNone = true
  · rw [if_pos h1]
    unfold withPlan
    cases hb : v.badDay l with
    | some d =>
      rw [if_neg (by intro q; cases q.2)]
      exact (if_pos rfl).symm
    | none =>
      rw [if_pos ⟨h1, rfl⟩, if_neg (by intro q; cases q)]
      exact bstep_rows v l fb _
  · rw [if_neg h1, if_neg (fun q => h1 q.1)]
    rfl
/-- what the best is made of -/
structure BOk (v : Vine) (ls rs : List (List Nat)) (b : Best) : Prop where
  good : b.good = v.goodOf b.plan
  plan : b.plan ∈ ls
  row : b.row ∈ rs
theorem withPlan_ok {v : Vine} {ls rs : List (List Nat)} {fb : Option Best} {l : List Nat} (hl : l ∈ ls) (h : ∀ b, fb = some b → BOk v ls rs b) : ∀ b, withPlan v rs fb l = some b → BOk v ls rs b := by
  have new : ∀ fb', (∀ b, fb' = some b → BOk v ls rs b) → ∀ b, fromRows (v.goodOf l) l fb' (rs.filter (v.flows l)) = some b → BOk v ls rs b := fun fb' h' b hb => by
    cases hf : rs.filter (v.flows l) with
    | nil =>
      rw [hf] at hb
      exact h' b hb
    | cons c r =>
      rw [hf] at hb
      obtain rfl : _ = b := Option.some.inj hb
      have hc : c ∈ rs.filter (v.flows l) := by rw [hf]; exact List.mem_cons_self
      exact ⟨rfl, hl, (List.mem_filter.mp hc).1⟩
  intro b hb
  unfold withPlan at hb
  by_cases hd : (v.badDay l).isSome = true
  · rw [if_pos hd] at hb
    exact h b hb
  · rw [if_neg hd] at hb
    cases fb with
    | none => exact new none (fun b q => by cases q) b hb
    | some y =>
      have hy := h y rfl
      dsimp only at hb
      by_cases c1 : better (v.goodOf l) y.good = true
      · rw [if_pos c1] at hb
        exact new (some y) h b hb
      · rw [if_neg c1] at hb
        by_cases c2 : v.goodOf l = y.good
        · rw [if_pos c2] at hb
          obtain rfl := Option.some.inj hb
          exact ⟨hy.good, hy.plan, hy.row⟩
        · rw [if_neg c2] at hb
          exact h b hb
def goesB (v : Vine) (t : Nat) (l m : List Nat) : Bool := (List.range v.count).all fun i => if v.on l i < t then v.on m i == v.on l i else decide (t ≤ v.on m i)
theorem goes_fold (v : Vine) (t : Nat) (l c : List Nat) : v.goes t l c = bestFold v ((rows 1 v.days).filter fun d => d.take t == c.take t) ((rows v.days v.count).filter (goesB v t l)) := by
  unfold Vine.goes Vine.all
  rw [← bestOf_fold v _ _ (fun m hm => rows_told (List.mem_filter.mp hm).1) (fun d hd => rows_coloured (List.mem_filter.mp hd).1)]
  refine congrArg v.bestOf ?_
  rw [filter_flatMap]
  have key : ∀ ls : List (List Nat), (ls.flatMap fun m => ((rows 1 v.days).map fun d => (m, d)).filter fun x => v.same t l c x.1 x.2) = (ls.filter (goesB v t l)).flatMap fun m => ((rows 1 v.days).filter fun d => d.take t == c.take t).map fun d => (m, d) := by
    intro ls
    induction ls with
    | nil => rfl
    | cons m r ih =>
      rw [List.flatMap_cons, ih, List.filter_map]
      have e2 : (rows 1 v.days).filter ((fun x : List Nat × List Nat => v.same t l c x.1 x.2) ∘ fun d => (m, d)) = (rows 1 v.days).filter fun d => goesB v t l m && (d.take t == c.take t) := by
        refine List.filter_congr fun d _ => ?_
        show v.same t l c m d = _
        unfold Vine.same
        rw [show (c.take t == d.take t) = (d.take t == c.take t) from Bool.beq_comm]
        rfl
      rw [e2]
      by_cases h : goesB v t l m = true
      · rw [List.filter_cons_of_pos h, List.flatMap_cons, h]
        rfl
      · rw [List.filter_cons_of_neg h]
        have h' : goesB v t l m = false := Bool.eq_false_iff.mpr h
        rw [h']
        have e3 : (rows 1 v.days).filter (fun d => false && (d.take t == c.take t)) = [] := by
          rw [List.filter_eq_nil_iff]
          intro d _ q
          cases q
        rw [e3]
        rfl
  exact key _
theorem best_fold (v : Vine) : v.best = bestFold v (rows 1 v.days) (rows v.days v.count) := by
  unfold Vine.best Vine.all
  exact bestOf_fold v _ _ (fun m hm => rows_told hm) (fun d hd => rows_coloured hd)
theorem nightsFrom_len (v : Vine) (l c : List Nat) : ∀ (f d w r : Nat) (n : List (Nat × Nat)), v.nightsFrom l c f d w r = .ok n → n.length = f
  | 0, d, w, r, n, h => by
    rw [nights_stop] at h
    by_cases q : w = 0 ∧ r = 0
    · rw [if_pos q] at h
      obtain rfl := Except.ok.inj h
      rfl
    · rw [if_neg q] at h
      cases h
  | f + 1, d, w, r, n, h => by
    rw [Vine.nightsFrom] at h
    cases e1 : v.left (c.getD d 2 == 0) w (v.of l d 0) with
    | none =>
      rw [e1] at h
      cases h
    | some x =>
      rw [e1] at h
      cases e2 : v.left (c.getD d 2 == 1) r (v.of l d 1) with
      | none =>
        rw [e2] at h
        cases h
      | some y =>
        rw [e2] at h
        dsimp only at h
        by_cases q : v.store < x + y
        · rw [if_pos q] at h
          cases h
        · rw [if_neg q] at h
          cases e : v.nightsFrom l c f (d + 1) x y with
          | error z =>
            rw [e] at h
            cases h
          | ok z =>
            rw [e] at h
            obtain rfl := Except.ok.inj h
            rw [List.length_cons, nightsFrom_len v l c f (d + 1) x y z e]
theorem nights_len {v : Vine} {l c : List Nat} {n : List (Nat × Nat)} (h : v.nights l c = .ok n) : n.length = v.days := nightsFrom_len v l c v.days 0 0 0 n h
/-! ### to leave all is right -/
def leave (v : Vine) : List Nat := List.replicate v.count v.days
def white (v : Vine) : List Nat := List.replicate v.days 0
theorem on_leave (v : Vine) (i : Nat) : v.on (leave v) i = v.days := by
  unfold Vine.on leave
  rw [List.getD_eq_getElem?_getD, List.getElem?_replicate]
  split <;> rfl
theorem total_zero (f : Nat → Nat) (n : Nat) (h : ∀ i, f i = 0) : total ((List.range n).map f) = 0 := by
  induction n with
  | zero => rfl
  | succ n ih => rw [total_range, ih, h]
theorem of_leave (v : Vine) (d k : Nat) (h : d < v.days) : v.of (leave v) d k = 0 := by
  unfold Vine.of
  refine total_zero _ _ fun i => ?_
  rw [on_leave, if_neg]
  intro q
  omega
theorem nights_leave (v : Vine) : ∀ (f d : Nat), d + f = v.days → v.nightsFrom (leave v) (white v) f d 0 0 = .ok (List.replicate f (0, 0))
  | 0, d, _ => rfl
  | f + 1, d, h => by
    have hd : d < v.days := by omega
    have hk : (white v)[d]? = some 0 := by
      unfold white
      rw [List.getElem?_replicate, if_pos hd]
    rw [nights_step v (leave v) (white v) f d 0 0 0 hk (by decide), of_leave v d 0 hd, of_leave v d 1 hd]
    have e1 : spoilt v 0 0 0 = none := by
      unfold spoilt
      rw [if_neg (Nat.not_lt_zero _), if_neg (Nat.not_lt_zero _)]
    have e2 : behind v 0 0 0 0 0 = (0, 0) := by
      unfold behind
      rw [if_pos rfl, show 0 + 0 - v.press = 0 by omega]
    rw [e1, e2]
    show (if v.store < 0 + 0 then _ else _) = _
    rw [if_neg (by omega), nights_leave v f (d + 1) (by omega)]
    rfl
theorem right_leave (v : Vine) : v.right (leave v) (white v) = true := by
  have h1 : v.told (leave v) = true := by
    unfold Vine.told leave
    rw [Bool.and_eq_true, List.all_eq_true]
    refine ⟨beq_iff_eq.mpr (List.length_replicate ..), fun d hd => ?_⟩
    rw [(List.mem_replicate.mp hd).2]
    exact decide_eq_true (Nat.le_refl _)
  have h2 : v.coloured (white v) = true := by
    unfold Vine.coloured white
    rw [Bool.and_eq_true, List.all_eq_true]
    refine ⟨beq_iff_eq.mpr (List.length_replicate ..), fun d hd => ?_⟩
    rw [(List.mem_replicate.mp hd).2]
    rfl
  have h3 : v.badPlot (leave v) = none := by
    unfold Vine.badPlot
    refine find_none fun i _ => ?_
    rw [on_leave, decide_eq_false (Nat.lt_irrefl _)]
    rfl
  have h4 : v.badDay (leave v) = none := by
    unfold Vine.badDay
    refine find_none fun d hd => ?_
    unfold Vine.loadsOn
    rw [of_leave v d 0 hd, of_leave v d 1 hd]
    exact decide_eq_false (Nat.not_lt_zero _)
  have h5 : v.flows (leave v) (white v) = true := by
    unfold Vine.flows Vine.nights
    rw [nights_leave v v.days 0 (Nat.zero_add _)]
  unfold Vine.right
  rw [h1, h2, h3, h4, h5]
  rfl
theorem mem_rows (m : Nat) : ∀ (l : List Nat), (∀ x ∈ l, x ≤ m) → l ∈ rows m l.length
  | [], _ => List.mem_singleton.mpr rfl
  | a :: r, h => by
    show a :: r ∈ (List.range (m + 1)).flatMap fun a => (rows m r.length).map fun l => a :: l
    rw [List.mem_flatMap]
    exact ⟨a, List.mem_range.mpr (Nat.lt_succ_of_le (h a List.mem_cons_self)), List.mem_map.mpr ⟨r, mem_rows m r fun x hx => h x (List.mem_cons_of_mem _ hx), rfl⟩⟩
theorem all_leave (v : Vine) : (leave v, white v) ∈ v.all := by
  unfold Vine.all
  rw [List.mem_flatMap]
  have h1 := mem_rows v.days (leave v) fun x hx => by
    unfold leave at hx
    rw [(List.mem_replicate.mp hx).2]
    exact Nat.le_refl _
  have h2 := mem_rows 1 (white v) fun x hx => by
    unfold white at hx
    rw [(List.mem_replicate.mp hx).2]
    exact Nat.zero_le _
  rw [show (leave v).length = v.count from List.length_replicate ..] at h1
  rw [show (white v).length = v.days from List.length_replicate ..] at h2
  exact ⟨_, h1, List.mem_map.mpr ⟨_, h2, rfl⟩⟩
theorem bstep_some (v : Vine) : ∀ (l : List (List Nat × List Nat)) (b : Best), ∃ b', l.foldl (bstep v) (some b) = some b'
  | [], b => ⟨b, rfl⟩
  | x :: r, b => by
    rw [List.foldl_cons]
    have h : ∃ b1, bstep v (some b) x = some b1 := by
      unfold bstep
      dsimp only
      split
      · exact ⟨_, rfl⟩
      · split
        · exact ⟨_, rfl⟩
        · exact ⟨_, rfl⟩
    obtain ⟨b1, h1⟩ := h
    rw [h1]
    exact bstep_some v r b1
theorem best_some (v : Vine) : ∃ b, v.best = some b := by
  unfold Vine.best
  rw [bestOf_bstep]
  have hm : (leave v, white v) ∈ v.all.filter fun x => v.right x.1 x.2 := List.mem_filter.mpr ⟨all_leave v, right_leave v⟩
  cases h : v.all.filter fun x => v.right x.1 x.2 with
  | nil =>
    rw [h] at hm
    cases hm
  | cons x r =>
    rw [List.foldl_cons]
    exact bstep_some v r _
theorem bestFold_ok (v : Vine) (rs ls : List (List Nat)) : ∀ b, bestFold v rs ls = some b → BOk v ls rs b := by
  have key : ∀ (ks : List (List Nat)) (fb : Option Best), (∀ l ∈ ks, l ∈ ls) → (∀ b, fb = some b → BOk v ls rs b) → ∀ b, ks.foldl (fun fb l => if (v.badPlot l).isNone = true then withPlan v rs fb l else fb) fb = some b → BOk v ls rs b := by
    intro ks
    induction ks with
    | nil => intro fb _ h b hb; exact h b hb
    | cons l r ih =>
      intro fb hl h b hb
      rw [List.foldl_cons] at hb
      refine ih _ (fun x hx => hl x (List.mem_cons_of_mem _ hx)) ?_ b hb
      intro b2 hb2
      by_cases c : (v.badPlot l).isNone = true
      · rw [if_pos c] at hb2
        exact withPlan_ok (hl l List.mem_cons_self) h b2 hb2
      · rw [if_neg c] at hb2
        exact h b2 hb2
  exact key ls none (fun _ h => h) (fun b h => by cases h)
/-! ### rain -/
theorem total_add (f g : Nat → Nat) : ∀ n, total ((List.range n).map fun i => f i + g i) = total ((List.range n).map f) + total ((List.range n).map g)
  | 0 => rfl
  | n + 1 => by
    rw [total_range, total_range, total_range, total_add f g n]
    omega
theorem total_one (a : Nat) : ∀ n, total ((List.range n).map fun d => if d = a then 1 else 0) = if a < n then 1 else 0
  | 0 => rfl
  | n + 1 => by
    rw [total_range, total_one a n]
    by_cases h1 : a < n
    · rw [if_pos h1, if_neg (by omega), if_pos (by omega)]
    · rw [if_neg h1]
      by_cases h2 : n = a
      · rw [if_pos h2, if_pos (by omega)]
      · rw [if_neg h2, if_neg (by omega)]
theorem rain_count (n : Nat) : ∀ r : List Nat, r.Nodup → (∀ d ∈ r, d < n) → total ((List.range n).map fun d => if r.contains d = true then 1 else 0) = r.length
  | [], _, _ => total_zero _ _ fun _ => rfl
  | a :: r, hn, hd => by
    obtain ⟨h1, h2⟩ := List.nodup_cons.mp hn
    have e : (fun d => if (a :: r).contains d = true then 1 else 0) = fun d => (if d = a then 1 else 0) + (if r.contains d = true then 1 else 0) := by
      funext d
      rw [List.contains_cons]
      by_cases c : d = a
      · subst c
        have h3 : r.contains d = false := by
          rw [← Bool.not_eq_true]
          exact fun z => h1 (List.contains_iff_mem.mp z)
        rw [h3, beq_self_eq_true, if_pos rfl]
        rfl
      · rw [beq_eq_false_iff_ne.mpr c, if_neg c, Bool.false_or, Nat.zero_add]
    rw [e, total_add, total_one, if_pos (hd a List.mem_cons_self), rain_count n r h2 fun d h => hd d (List.mem_cons_of_mem _ h), List.length_cons, Nat.add_comm]
def rainTo (r : List Nat) (d y : Nat) : List Nat := (r.filter fun x => x != d) ++ if y = 1 then [d] else []
theorem rainTo_mem {r : List Nat} {d y x : Nat} : x ∈ rainTo r d y ↔ (x ∈ r ∧ x ≠ d) ∨ (y = 1 ∧ x = d) := by
  unfold rainTo
  rw [List.mem_append, List.mem_filter]
  by_cases h : y = 1
  · rw [if_pos h, List.mem_singleton]
    simp [h]
  · rw [if_neg h]
    simp [h]
theorem rainTo_nodup {r : List Nat} {d y : Nat} (h : r.Nodup) : (rainTo r d y).Nodup := by
  unfold rainTo
  by_cases c : y = 1
  · rw [if_pos c, List.nodup_append]
    refine ⟨h.filter _, by simp, fun a ha b hb => ?_⟩
    obtain rfl := List.mem_singleton.mp hb
    exact bne_iff_ne.mp (List.mem_filter.mp ha).2
  · rw [if_neg c, List.append_nil]
    exact h.filter _
theorem rainTo_contains {r : List Nat} {d y x : Nat} (hy : y ≤ 1) : (if (rainTo r d y).contains x = true then 1 else 0) = if x = d then y else if r.contains x = true then 1 else 0 := by
  have e : (rainTo r d y).contains x = true ↔ (x ∈ r ∧ x ≠ d) ∨ (y = 1 ∧ x = d) := List.contains_iff_mem.trans rainTo_mem
  by_cases c : x = d
  · rw [if_pos c]
    by_cases c2 : y = 1
    · rw [if_pos (e.mpr (.inr ⟨c2, c⟩)), c2]
    · rw [if_neg (fun z => by rcases e.mp z with z | z; exact z.2 c; exact c2 z.1)]
      omega
  · rw [if_neg c]
    by_cases c2 : r.contains x = true
    · rw [if_pos c2, if_pos (e.mpr (.inl ⟨List.contains_iff_mem.mp c2, c⟩))]
    · rw [if_neg c2, if_neg (fun z => by rcases e.mp z with z | z; exact c2 (List.contains_iff_mem.mpr z.1); exact c z.2)]
end VhM

set_option Elab.async false
set_option linter.all false
set_option maxRecDepth 100000
set_option maxHeartbeats 4000000
namespace Vh
open PySem PySem.Spec PyProof.Rows L2 VhM
/-! ### small words -/
theorem qv {Q : VK} {v v' : V} {H : Hp} (k : Q v H) (e : v' = v) : Q v' H := by
  rw [e]
  exact k
theorem dN {a b : Nat} (h : decide ((a : Int) < (b : Int)) = true) : a < b := Int.ofNat_lt.mp (of_decide_eq_true h)
theorem dNf {a b : Nat} (h : ¬ decide ((a : Int) < (b : Int)) = true) : ¬ a < b := fun q => h (decide_eq_true (Int.ofNat_lt.mpr q))
theorem N_inj {a b : Nat} (h : N a = N b) : a = b := by
  unfold N at h
  injection h with h
  exact Int.ofNat.inj h
theorem eqN {a b : Nat} (h : decide (N a = N b) = true) : a = b := N_inj (of_decide_eq_true h)
theorem eqNf {a b : Nat} (h : ¬ decide (N a = N b) = true) : ¬ a = b := fun q => h (decide_eq_true (congrArg N q))
theorem Ns_get {l : List Nat} {n : Nat} {x : V} (h : (Ns l)[n]? = some x) : ∃ d, l[n]? = some d ∧ x = N d := by
  rw [List.getElem?_map] at h
  cases e : l[n]? with
  | none =>
    rw [e] at h
    cases h
  | some d =>
    rw [e] at h
    exact ⟨d, rfl, (Option.some.inj h).symm⟩
theorem Ns_at {l : List Nat} {n d : Nat} (h : l[n]? = some d) : atI (Ns l) (n : Int) = some (N d) := atI_nat (by rw [List.getElem?_map, h]; rfl)
theorem ps_get {α β : Type} {qs : List (α × β)} {bs : List β} (h : qs.map (·.2) = bs) {n : Nat} {b : β} (hb : bs[n]? = some b) : ∃ q, qs[n]? = some (q, b) := by
  subst h
  rw [List.getElem?_map] at hb
  cases e : qs[n]? with
  | none =>
    rw [e] at hb
    cases hb
  | some x =>
    rw [e] at hb
    obtain ⟨q, b'⟩ := x
    obtain rfl : b' = b := Option.some.inj hb
    exact ⟨q, rfl⟩
theorem ps_at {β : Type} {qs : List (Addr × β)} {n : Nat} {q : Addr} {b : β} (h : qs[n]? = some (q, b)) : atI (qs.map fun x => V.ref x.1) (n : Int) = some (.ref q) := atI_nat (by rw [List.getElem?_map, h]; rfl)
theorem rainL_get {v : Uw50.Vine} {d : Nat} (h : d < v.days) : (rainL v)[d]? = some (if v.rain.contains d then 1 else 0) := by
  unfold rainL
  rw [List.getElem?_map, List.getElem?_range h]
  rfl
section
variable {P : Program} {w : World} {K : PySem.W.Frag} {mg : Str → Option Value} {base : Heap} {CV CP CF CL : Addr}
/-! ### picking -/
def sp_days_off (CP : Addr) : Sp := fun vs H Q _ => ∃ (q : Addr) (p : Uw50.Plot) (d : Nat), vs = [.ref q, N d] ∧ PlotAt CP H q p ∧ Q (N (Uw50.apart d p.day)) H
theorem ok_days_off (T : Txt K mg CV CP CF CL) : Keeps P w K mg base 1 "days_off" ["plot", "day"] (sp_days_off CP) := by
  refine T.d_days_off.ok sc_days_off (fun vs H Q E h => ?_) (fun f cdv A outer s H vs Q E hr h => ?_)
  · obtain ⟨q, p, d, rfl, _⟩ := h
    rfl
  · obtain ⟨q, p, d, rfl, hp, k⟩ := h
    refine ⟨_, (pss_one (ps_ret (pe_callB call_abs (by rfl) T.b_abs boot_abs_ (pa_cons (pe_op op_sub (pv 1) (pe_fld (pv 0) rfl)) pa_nil)))), ?_⟩
    refine ⟨_, rfl, fld rfl (hp.best_day T) ⟨_, _, rfl, rfl, _, rfl, ?_⟩⟩
    exact qv k (congrArg V.int (apart_abs _ _))
def sp_worth_on (CP : Addr) : Sp := fun vs H Q _ => ∃ (q : Addr) (p : Uw50.Plot) (d : Nat), vs = [.ref q, N d] ∧ PlotAt CP H q p ∧ POk p ∧ Q (N (p.worth - p.less * Uw50.apart d p.day)) H
theorem ok_worth_on (T : Txt K mg CV CP CF CL) : Keeps P w K mg base 2 "worth_on" ["plot", "day"] (sp_worth_on CP) := by
  refine T.d_worth_on.ok sc_worth_on (fun vs H Q E h => ?_) (fun f cdv A outer s H vs Q E hr h => ?_)
  · obtain ⟨q, p, d, rfl, _⟩ := h
    rfl
  · obtain ⟨q, p, d, rfl, hp, ok, k⟩ := h
    refine ⟨_, (pss_cons (ps_set (i := 2) sc_worth_on.nd rfl (Or.inl rfl) (pe_op op_mul (pe_fld (pv 0) rfl) (pe_callN (ok_days_off T) (hr.mono (by decide)) rfl (pa_cons (pv 0) (pa_cons (pv 1) pa_nil)))))
(pss_cons (ps_if (pt_cmpR op_gt (pv 2) (pe_fld (pv 0) rfl) (nomark _))
(pss_one (ps_ret pe_int))
pss_nil)
(pss_one (ps_ret (pe_op op_sub (pe_fld (pv 0) rfl) (pv 2)))))), ?_⟩
    have hl := ok.less
    refine ⟨_, rfl, ?_⟩
    apply fldV (hp.less T)
    refine ⟨_, rfl, _, rfl, q, p, d, rfl, hp, _, _, rfl, rfl, .inl ⟨by omega, by omega⟩, ?_⟩
    refine ⟨_, rfl, fld rfl (hp.worth T) ⟨_, _, rfl, rfl, _, rfl, ite2 (fun c => ?_) (fun c => ?_)⟩⟩
    · refine qv k (congrArg V.int ?_)
      have c1 := of_decide_eq_true c
      rw [← Int.natCast_mul] at c1
      omega
    · refine ⟨_, rfl, ?_⟩
      apply fldV (hp.worth T)
      refine ⟨_, rfl, _, _, rfl, rfl, ?_⟩
      refine qv k (congrArg V.int ?_)
      have c1 : ¬ _ := fun q => c (decide_eq_true q)
      rw [← Int.natCast_mul] at c1 ⊢
      omega
def badP (v : Uw50.Vine) (l : List Nat) (i : Nat) : Bool := decide (v.on l i < v.days) && !v.may i (v.on l i)
def sp_first_wrong_plot (CV CP : Addr) : Sp := fun vs H Q _ => ∃ (a b : Addr) (v : Uw50.Vine) (l : List Nat), vs = [.ref a, .ref b] ∧ VineAt CV CP H a v ∧ H b = some (.lst (Ns l)) ∧ l.length = v.count ∧
  ∀ H', Same H H' → Q (optN (v.badPlot l)) H'
theorem ok_first_wrong_plot (T : Txt K mg CV CP CF CL) : Keeps P w K mg base 2 "first_wrong_plot" ["vineyard", "plan"] (sp_first_wrong_plot CV CP) := by
  refine T.d_first_wrong_plot.ok sc_first_wrong_plot (fun vs H Q E h => ?_) (fun f cdv A outer s H vs Q E hr h => ?_)
  · obtain ⟨a, b, v, l, rfl, _⟩ := h
    rfl
  · obtain ⟨a, b, v, l, rfl, hv, hl, hn, k⟩ := h
    refine ⟨_, (pss_cons (ps_for PassesOwn.never rfl (pi_enum (by rfl) T.b_enumerate (pa_cons (pv 1) pa_nil)) (pg_tup rfl (pgs_cons (pg_name (i := 2) sc_first_wrong_plot.nd rfl (Or.inl rfl)) (pgs_cons (pg_name (i := 3) sc_first_wrong_plot.nd rfl (Or.inl rfl)) pgs_nil)))
(pss_one (ps_if (pt_cmpR op_lt (pv 3) (pe_fld (pv 0) rfl) (nomark _))
(pss_cons (ps_set (i := 4) sc_first_wrong_plot.nd rfl (Or.inl rfl) (pe_ix ix_list (pe_fld (pv 0) rfl) (pv 2) (fun _ _ => rfl)))
(pss_one (ps_if (PW.pt (pw_or (pt_cmpR op_eq (pe_ix ix_list (pe_fld (pv 0) rfl) (pv 3) (fun _ _ => rfl)) pe_int (nomark _)) (pw_or1 (pt_cmpR op_gt (pe_callN (ok_days_off T) (hr.mono (by decide)) rfl (pa_cons (pv 4) (pa_cons (pv 3) pa_nil))) (pe_fld (pv 4) rfl) (nomark _)))))
(pss_one (ps_ret (pv 2)))
pss_nil)))
pss_nil)))
(pss_one (ps_ret pe_non))), ?_⟩
    refine ⟨_, rfl, b, _, rfl, SqLof hl, for_enum2 (xs := Ns l) (fun n σ H1 => ∃ x y z, σ = [some (.ref a), some (.ref b), x, y, z] ∧ Same H H1 ∧ ∀ j, j < n → badP v l j = false) ⟨_, _, _, rfl, Same.refl _, fun j hj => absurd hj (Nat.not_lt_zero _)⟩ ?_ ?_ ?_⟩
    · rintro n σ H1 ⟨_, _, _, _, e, _⟩
      exact e.seq (SqLof hl)
    · rintro n x σ H1 H2 hx ⟨x1, y1, z1, rfl, e1, hj⟩ e2
      obtain ⟨d, hd, rfl⟩ := Ns_get hx
      have e : Same H H2 := e1.trans e2
      have hv2 := hv.mono e
      have hon : v.on l n = d := on_at hd
      have more : badP v l n = false → ∀ j, j < n + 1 → badP v l j = false := fun h j hj2 => by
        by_cases q : j = n
        · rw [q]; exact h
        · exact hj j (by omega)
      refine ⟨_, rfl, fld rfl (hv2.days T) ⟨_, _, rfl, rfl, _, rfl, ite2 (fun c => ?_) (fun c => ?_)⟩⟩
      · have hlt : d < v.days := dN c
        obtain ⟨pa, qs, F, hq, hp, hq2⟩ := hv2.plots T
        have hnc : n < v.plots.length := by
          have h1 := (List.getElem?_eq_some_iff.mp hd).1
          rw [hn] at h1
          exact h1
        have hpl : v.plots[n]? = some (v.plot n) := by
          rw [List.getElem?_eq_getElem hnc, plot_at (List.getElem?_eq_getElem hnc)]
        obtain ⟨q, hqn⟩ := ps_get hq hpl
        have hP : PlotAt CP H2 q (v.plot n) := hq2 _ (List.mem_of_getElem? hqn)
        refine ⟨_, rfl, ?_⟩
        apply fldV (F)
        refine ⟨_, rfl, pa, _, _, _, rfl, rfl, SqLof hp, ps_at hqn, ?_⟩
        obtain ⟨r, F2, hr2⟩ := hv2.rain T
        refine ⟨_, rfl, ?_⟩
        apply fldV (F2)
        refine ⟨_, rfl, r, _, _, _, rfl, rfl, SqLof hr2, Ns_at (rainL_get hlt), rfl, _, rfl, ite2 (fun c1 => iteT ?_) (fun c1 => ?_)⟩
        · refine ⟨_, rfl, qv (k _ e) ?_⟩
          have hr1 : v.rain.contains d = true := by
            have h1 := eqN (b := 1) c1
            by_cases q : v.rain.contains d = true
            · exact q
            · rw [if_neg q] at h1
              cases h1
          have hb : badP v l n = true := by
            unfold badP Uw50.Vine.may
            rw [hon, hr1]
            simp [hlt]
          show N n = optN ((List.range v.count).find? (badP v l))
          rw [find_some (by rw [← hn]; exact (List.getElem?_eq_some_iff.mp hd).1) hb hj]
          rfl
        · have hr0 : v.rain.contains d = false := by
            have h1 := eqNf (b := 1) c1
            by_cases q : v.rain.contains d = true
            · rw [if_pos q] at h1
              exact absurd rfl h1
            · exact Bool.eq_false_iff.mpr q
          refine ⟨_, rfl, _, rfl, q, _, d, rfl, hP, fld rfl (hP.beside T) ⟨_, _, rfl, rfl, _, rfl, ite2 (fun c2 => ?_) (fun c2 => ?_)⟩⟩
          · refine ⟨_, rfl, qv (k _ e) ?_⟩
            have h2 := dN c2
            have hb : badP v l n = true := by
              unfold badP Uw50.Vine.may
              rw [hon, hr0]
              simp [hlt, h2]
            show N n = optN ((List.range v.count).find? (badP v l))
            rw [find_some (by rw [← hn]; exact (List.getElem?_eq_some_iff.mp hd).1) hb hj]
            rfl
          · have h2 := dNf c2
            refine ⟨_, _, _, rfl, e, more ?_⟩
            unfold badP Uw50.Vine.may
            rw [hon, hr0]
            simp [hlt]
            omega
      · have hlt : ¬ d < v.days := dNf c
        refine ⟨_, _, _, rfl, e, more ?_⟩
        unfold badP
        rw [hon]
        simp [hlt]
    · rintro σ H1 ⟨x1, y1, z1, rfl, e1, hj⟩
      refine qv (k _ e1) ?_
      rw [List.length_map, hn] at hj
      show V.non = optN ((List.range v.count).find? (badP v l))
      rw [find_none hj]
      rfl
end
end Vh

set_option Elab.async false
set_option linter.all false
set_option maxRecDepth 100000
set_option maxHeartbeats 4000000
namespace Vh
open PySem PySem.Spec PyProof.Rows L2 VhM
theorem Ns_len (l : List Nat) : (Ns l).length = l.length := List.length_map ..
theorem refs_get {β : Type} {qs : List (Addr × β)} {n : Nat} {x : V} (h : (qs.map fun y => V.ref y.1)[n]? = some x) : ∃ q b, qs[n]? = some (q, b) ∧ x = .ref q := by
  rw [List.getElem?_map] at h
  cases e : qs[n]? with
  | none =>
    rw [e] at h
    cases h
  | some y =>
    rw [e] at h
    exact ⟨y.1, y.2, rfl, (Option.some.inj h).symm⟩
theorem plots_get {v : Uw50.Vine} {qs : List (Addr × Uw50.Plot)} (h : qs.map (·.2) = v.plots) {n : Nat} {q : Addr} {p : Uw50.Plot} (e : qs[n]? = some (q, p)) : v.plot n = p := by
  refine plot_at ?_
  rw [← h, List.getElem?_map, e]
  rfl
theorem plots_len {v : Uw50.Vine} {qs : List (Addr × Uw50.Plot)} (h : qs.map (·.2) = v.plots) : qs.length = v.count := by
  unfold Uw50.Vine.count
  rw [← h, List.length_map]
theorem two0 {x y : V} : atI [x, y] 0 = some x := atI_nat (j := 0) rfl
theorem two1 {x y : V} : atI [x, y] 1 = some y := atI_nat (j := 1) rfl
section
variable {P : Program} {w : World} {K : PySem.W.Frag} {mg : Str → Option Value} {base : Heap} {CV CP CF CL : Addr}
def sp_loads_on (CV CP : Addr) : Sp := fun vs H Q _ => ∃ (a b : Addr) (v : Uw50.Vine) (l : List Nat) (d k : Nat), vs = [.ref a, .ref b, N d, N k] ∧ VineAt CV CP H a v ∧ H b = some (.lst (Ns l)) ∧ l.length = v.count ∧
  ∀ H', Same H H' → Q (N (v.of l d k)) H'
theorem ok_loads_on (T : Txt K mg CV CP CF CL) : Keeps P w K mg base 1 "loads_on" ["vineyard", "plan", "day", "colour"] (sp_loads_on CV CP) := by
  refine T.d_loads_on.ok sc_loads_on (fun vs H Q E h => ?_) (fun f cdv A outer s H vs Q E hr h => ?_)
  · obtain ⟨a, b, v, l, d, k, rfl, _⟩ := h
    rfl
  · obtain ⟨a, b, v, l, d, k, rfl, hv, hl, hn, q⟩ := h
    refine ⟨_, (pss_cons (ps_set (i := 4) sc_loads_on.nd rfl (Or.inl rfl) pe_int)
(pss_cons (ps_for PassesOwn.never rfl (pi_zip (by rfl) T.b_zip (pa_cons (pe_fld (pv 0) rfl) (pa_cons (pv 1) pa_nil))) (pg_tup rfl (pgs_cons (pg_name (i := 5) sc_loads_on.nd rfl (Or.inl rfl)) (pgs_cons (pg_name (i := 6) sc_loads_on.nd rfl (Or.inl rfl)) pgs_nil)))
(pss_one (ps_if (PW.pt (pw_and (pt_cmpR op_eq (pv 6) (pv 2) (nomark _)) (pw_and1 (pt_cmpR op_eq (pe_fld (pv 5) rfl) (pv 3) (nomark _)))))
(pss_one (ps_aug (i := 4) sc_loads_on.nd rfl (Or.inl rfl) (pe_fld (pv 5) rfl) ip_add))
pss_nil)))
(pss_one (ps_ret (pv 4))))), ?_⟩
    obtain ⟨pa, qs, F, hq, hp, hq2⟩ := hv.plots T
    refine ⟨_, rfl, ?_⟩
    apply fldV (F)
    have hlen : (qs.map fun x => V.ref x.1).length = (Ns l).length := by rw [List.length_map, Ns_len, plots_len hq, hn]
    refine ⟨_, rfl, pa, b, _, _, rfl, SqLof hp, SqLof hl, for_zip2 (xs := qs.map fun x => V.ref x.1) (ys := Ns l) hlen (fun n σ H1 => ∃ x y, σ = [some (.ref a), some (.ref b), some (N d), some (N k), some (N (ofPart v l d k n)), x, y] ∧ Same H H1) ⟨_, _, rfl, Same.refl _⟩ ?_ ?_ ?_⟩
    · rintro n σ H1 ⟨_, _, _, e⟩
      exact ⟨e.seq (SqLof hp), e.seq (SqLof hl)⟩
    · rintro n x y σ H1 H2 hx hy ⟨x1, y1, rfl, e1⟩ e2
      obtain ⟨qa, p, hqn, rfl⟩ := refs_get hx
      obtain ⟨e, he, rfl⟩ := Ns_get hy
      have em : Same H H2 := e1.trans e2
      have hP : PlotAt CP H2 qa p := (hq2 _ (List.mem_of_getElem? hqn)).mono em
      have hon : v.on l n = e := on_at he
      have hpn : v.plot n = p := plots_get hq hqn
      have same : ¬ (e = d ∧ p.colour = k) → N (ofPart v l d k (n + 1)) = N (ofPart v l d k n) := fun h => by
        rw [ofPart_succ, hon, hpn, if_neg h]
        rfl
      refine ⟨_, rfl, _, rfl, rfl, _, rfl, ite2 (fun c => ?_) (fun c => iteF ?_)⟩
      · have c1 := eqN c
        refine ⟨_, rfl, ?_⟩
        apply fldV (hP.colour T)
        refine ⟨_, rfl, rfl, _, rfl, ite2 (fun c2 => ?_) (fun c2 => ?_)⟩
        · have c3 := eqN c2
          refine ⟨_, rfl, ?_⟩
          refine ⟨_, rfl, ?_⟩
          apply fldV (hP.loads T)
          refine ⟨_, _, rfl, rfl, ⟨some (.ref qa), some (N e), ?_, em⟩⟩
          have hs : N (ofPart v l d k (n + 1)) = V.int ((ofPart v l d k n : Nat) + (p.loads : Nat) : Int) := by
            rw [ofPart_succ, hon, hpn, if_pos ⟨c1, c3⟩]
            rfl
          rw [hs]
          rfl
        · refine ⟨some (.ref qa), some (N e), ?_, em⟩
          rw [same fun h => eqNf c2 h.2]
          rfl
      · refine ⟨some (.ref qa), some (N e), ?_, em⟩
        rw [same fun h => eqNf c h.1]
        rfl
    · rintro σ H1 ⟨x1, y1, rfl, e1⟩
      refine ⟨_, rfl, qv (q _ e1) ?_⟩
      rw [List.length_map, plots_len hq]
      rfl
def sp_picked_by (CV CP : Addr) : Sp := fun vs H Q _ => ∃ (a b : Addr) (v : Uw50.Vine) (l : List Nat), vs = [.ref a, .ref b] ∧ VineAt CV CP H a v ∧ H b = some (.lst (Ns l)) ∧ l.length = v.count ∧
  ∀ H' p, Same H H' → PairsAt H' p (picks v l) → Q (.ref p) H'
theorem ok_picked_by (T : Txt K mg CV CP CF CL) : Keeps P w K mg base 2 "picked_by" ["vineyard", "plan"] (sp_picked_by CV CP) := by
  refine T.d_picked_by.ok sc_picked_by (fun vs H Q E h => ?_) (fun f cdv A outer s H vs Q E hr h => ?_)
  · obtain ⟨a, b, v, l, rfl, _⟩ := h
    rfl
  · obtain ⟨a, b, v, l, rfl, hv, hl, hn, q⟩ := h
    refine ⟨_, (pss_one (ps_ret (pe_lc (own := [("day", 2)]) (g := gName 2) (tt := tYes) rfl sc_picked_by.nd (pi_range1 (by rfl) T.b_range (pa_cons (pe_fld (pv 0) rfl) pa_nil)) (blkOk_by (own := [("day", 2)]) (N := nm_picked_by) (sc := defScope s_picked_by) (by decide +kernel)) (fun _ _ _ _ _ => pg_name (i := 2) sc_picked_by.nd rfl (Or.inl rfl)) (fun _ _ _ _ _ => pts_nil) (fun _ _ _ _ _ => (pe_tup (pa_cons (pe_callN (ok_loads_on T) (hr.mono (by decide)) rfl (pa_cons (pv 0) (pa_cons (pv 1) (pa_cons (pv 2) (pa_cons pe_int pa_nil))))) (pa_cons (pe_callN (ok_loads_on T) (hr.mono (by decide)) rfl (pa_cons (pv 0) (pa_cons (pv 1) (pa_cons (pv 2) (pa_cons pe_int pa_nil))))) pa_nil))))))), ?_⟩
    have hd4 := hv.ok.d4
    refine ⟨_, rfl, ?_⟩
    apply fldV (hv.days T)
    refine ⟨_, rfl, by omega, by omega, fun D hD => lc_range (lo := 0) (n := v.days) (fun i H1 => Same H H1 ∧ ∃ ts : List (Addr × (Nat × Nat)), ts.map (·.2) = (List.range i).map (fun d => (v.of l d 0, v.of l d 1)) ∧ H1 D = some (.lst (ts.map fun x => .ref x.1)) ∧ (∀ x ∈ ts, H1 x.1 = some (.tup [N x.2.1, N x.2.2]) ∧ x.1 ≠ D)) ⟨sm_new hD, [], rfl, upd_same, fun x hx => by cases hx⟩ ?_ ?_⟩
    · rintro i H1 hi ⟨e1, ts, t1, t2, t3⟩
      have tl : ts.length = i := by
        have h1 := congrArg List.length t1
        rw [List.length_map, List.length_map, List.length_range] at h1
        exact h1
      have ez : V.int ((0 : Int) + (i : Int)) = N i := by
        show V.int _ = V.int _
        rw [Int.zero_add]
      refine ⟨rfl, _, rfl, _, rfl, _, rfl, a, b, v, l, i, 0, ?_, hv.mono e1, e1 _ _ hl, hn, fun H2 e2 => ?_⟩
      · rw [ez]
        rfl
      refine ⟨_, rfl, _, rfl, _, rfl, a, b, v, l, i, 1, ?_, hv.mono (e1.trans e2), (e1.trans e2) _ _ hl, hn, fun H3 e3 => ?_⟩
      · rw [ez]
        rfl
      refine ⟨by show 2 ≤ sizeLine; decide, fun p hp => ?_⟩
      have e13 : Same H1 H3 := e2.trans e3
      have hDp : D ≠ p := ne_of_none (e13 _ _ t2) hp
      refine ⟨_, (upd_ne hDp).trans (e13 _ _ t2), ?_, sm_mut ((e1.trans e13).trans (sm_new hp)) hD, ts ++ [(p, (v.of l i 0, v.of l i 1))], ?_, ?_, ?_⟩
      · rw [List.length_map, tl]
        exact Nat.lt_of_lt_of_le (Nat.lt_of_lt_of_le hi hd4) (by decide)
      · rw [List.map_append, t1, List.range_succ, List.map_append]
        rfl
      · rw [upd_same, List.map_append]
        rfl
      · intro x hx
        rcases List.mem_append.mp hx with hx | hx
        · obtain ⟨h1, h2⟩ := t3 x hx
          refine ⟨?_, h2⟩
          rw [upd_ne h2, upd_ne (ne_of_none (e13 _ _ h1) hp)]
          exact e13 _ _ h1
        · obtain rfl := List.mem_singleton.mp hx
          refine ⟨?_, hDp.symm⟩
          rw [upd_ne hDp.symm]
          exact upd_same
    · rintro H1 ⟨e1, ts, t1, t2, t3⟩
      exact q H1 D e1 ⟨ts, t1, t2, fun x hx => (t3 x hx).1⟩
def sp_first_full_day (CV CP : Addr) : Sp := fun vs H Q _ => ∃ (a b : Addr) (v : Uw50.Vine) (l : List Nat), vs = [.ref a, .ref b] ∧ VineAt CV CP H a v ∧ PairsAt H b (picks v l) ∧
  ∀ H', Same H H' → Q (optN (v.badDay l)) H'
theorem pairs_get {v : Uw50.Vine} {l : List Nat} {ts : List (Addr × (Nat × Nat))} (h : ts.map (·.2) = picks v l) {n : Nat} {t : Addr} {ab : Nat × Nat} (e : ts[n]? = some (t, ab)) : n < v.days ∧ ab = (v.of l n 0, v.of l n 1) := by
  have h1 : (picks v l)[n]? = some ab := by
    rw [← h, List.getElem?_map, e]
    rfl
  unfold picks at h1
  rw [List.getElem?_map] at h1
  have hn : n < v.days := by
    have h2 := (List.getElem?_eq_some_iff.mp e).1
    have h3 := congrArg List.length h
    unfold picks at h3
    rw [List.length_map, List.length_map, List.length_range] at h3
    omega
  rw [List.getElem?_range hn] at h1
  exact ⟨hn, (Option.some.inj h1).symm⟩
theorem picks_len (v : Uw50.Vine) (l : List Nat) : (picks v l).length = v.days := by
  unfold picks
  rw [List.length_map, List.length_range]
theorem ok_first_full_day (T : Txt K mg CV CP CF CL) : Keeps P w K mg base 1 "first_full_day" ["vineyard", "picked"] (sp_first_full_day CV CP) := by
  refine T.d_first_full_day.ok sc_first_full_day (fun vs H Q E h => ?_) (fun f cdv A outer s H vs Q E hr h => ?_)
  · obtain ⟨a, b, v, l, rfl, _⟩ := h
    rfl
  · obtain ⟨a, b, v, l, rfl, hv, ⟨ts, t1, t2, t3⟩, k⟩ := h
    refine ⟨_, (pss_cons (ps_for PassesOwn.never rfl (pi_enum (by rfl) T.b_enumerate (pa_cons (pv 1) pa_nil)) (pg_tup rfl (pgs_cons (pg_name (i := 2) sc_first_full_day.nd rfl (Or.inl rfl)) (pgs_cons (pg_name (i := 3) sc_first_full_day.nd rfl (Or.inl rfl)) pgs_nil)))
(pss_one (ps_if (pt_cmpR op_gt (pe_op op_add (pe_ix ix_tup (pv 3) pe_int (fun _ _ => rfl)) (pe_ix ix_tup (pv 3) pe_int (fun _ _ => rfl))) (pe_fld (pv 0) rfl) (nomark _))
(pss_one (ps_ret (pv 2)))
pss_nil)))
(pss_one (ps_ret pe_non))), ?_⟩
    have hlen : ts.length = v.days := by
      have h3 := congrArg List.length t1
      rw [List.length_map, picks_len] at h3
      exact h3
    refine ⟨_, rfl, b, _, rfl, SqLof t2, for_enum2 (xs := ts.map fun x => .ref x.1) (fun n σ H1 => ∃ x y, σ = [some (.ref a), some (.ref b), x, y] ∧ Same H H1 ∧ ∀ j, j < n → decide (v.hands < v.loadsOn l j) = false) ⟨_, _, rfl, Same.refl _, fun j hj => absurd hj (Nat.not_lt_zero _)⟩ ?_ ?_ ?_⟩
    · rintro n σ H1 ⟨_, _, _, e, _⟩
      exact e.seq (SqLof t2)
    · rintro n x σ H1 H2 hx ⟨x1, y1, rfl, e1, hj⟩ e2
      obtain ⟨t, ab, ht, rfl⟩ := refs_get hx
      obtain ⟨hn, rfl⟩ := pairs_get t1 ht
      have e : Same H H2 := e1.trans e2
      have hT : H2 t = some (.tup [N (v.of l n 0), N (v.of l n 1)]) := e _ _ (t3 _ (List.mem_of_getElem? ht))
      refine ⟨_, rfl, t, _, _, _, rfl, rfl, SqTof hT, two0, _, rfl, t, _, _, _, rfl, rfl, SqTof hT, two1, _, _, rfl, rfl, ?_⟩
      refine ⟨_, rfl, ?_⟩
      apply fldV ((hv.mono e).hands T)
      refine ⟨_, _, rfl, rfl, _, rfl, ite2 (fun c => ?_) (fun c => ?_)⟩
      · refine ⟨_, rfl, qv (k _ e) ?_⟩
        have c1 : v.hands < v.loadsOn l n := Int.ofNat_lt.mp (of_decide_eq_true c)
        show N n = optN ((List.range v.days).find? fun d => decide (v.hands < v.loadsOn l d))
        rw [find_some hn (decide_eq_true c1) hj]
        rfl
      · have c1 : ¬ v.hands < v.loadsOn l n := fun h => c (decide_eq_true (Int.ofNat_lt.mpr h))
        refine ⟨_, _, rfl, e, fun j hj2 => ?_⟩
        by_cases q : j = n
        · rw [q]
          exact decide_eq_false c1
        · exact hj j (by omega)
    · rintro σ H1 ⟨x1, y1, rfl, e1, hj⟩
      refine qv (k _ e1) ?_
      rw [List.length_map, hlen] at hj
      show V.non = optN ((List.range v.days).find? fun d => decide (v.hands < v.loadsOn l d))
      rw [find_none hj]
      rfl
def sp_loads_picked : Sp := fun vs H Q _ => ∃ (b : Addr) (ds : List (Nat × Nat)), vs = [.ref b] ∧ PairsAt H b ds ∧ ds.length ≤ 4 ∧ ∀ H', Same H H' → Q (N (Uw50.total (ds.map fun x => x.1 + x.2))) H'
theorem ok_loads_picked (T : Txt K mg CV CP CF CL) : Keeps P w K mg base 1 "loads_picked" ["picked"] sp_loads_picked := by
  refine T.d_loads_picked.ok sc_loads_picked (fun vs H Q E h => ?_) (fun f cdv A outer s H vs Q E hr h => ?_)
  · obtain ⟨b, ds, rfl, _⟩ := h
    rfl
  · obtain ⟨b, ds, rfl, ⟨ts, t1, t2, t3⟩, hz, k⟩ := h
    refine ⟨_, (pss_one (ps_ret (pe_callB (cr_sum rfl) (by rfl) T.b_sum boot_sum_ (pa_cons (pe_lc (own := [("loads", 1)]) (g := gName 1) (tt := tYes) rfl sc_loads_picked.nd (pi_list (pv 0)) (blkOk_by (own := [("loads", 1)]) (N := nm_loads_picked) (sc := defScope s_loads_picked) (by decide +kernel)) (fun _ _ _ _ _ => pg_name (i := 1) sc_loads_picked.nd rfl (Or.inl rfl)) (fun _ _ _ _ _ => pts_nil) (fun _ _ _ _ _ => (pe_op op_add (pe_ix (ix_tupK (K := K) rfl) (pv 1) pe_int (fun _ _ => rfl)) (pe_ix (ix_tupK (K := K) rfl) (pv 1) pe_int (fun _ _ => rfl))))) pa_nil)))), ?_⟩
    have hlen : ts.length = ds.length := by
      have h3 := congrArg List.length t1
      rw [List.length_map] at h3
      exact h3
    refine ⟨_, rfl, b, rfl, ⟨_, SqLof t2⟩, lc_det (l := ts) (g := fun x => .ref x.1) (f := fun x => some (N (x.2.1 + x.2.2))) (SqLof t2) (by omega) (fun _ => rfl) ?_ ?_⟩
    · rintro ⟨t, ab⟩ H1 hy e1 Qn qn
      have hT := e1 _ _ (t3 _ hy)
      exact ⟨_, rfl, t, _, _, _, rfl, rfl, SqTof hT, two0, _, rfl, t, _, _, _, rfl, rfl, SqTof hT, two1, _, _, rfl, rfl, qn _ (Same.refl _)⟩
    · intro D H1 hD e1 h1
      rw [fm_some] at h1
      refine ⟨D, (ds.map fun x => x.1 + x.2).map fun n : Nat => (n : Int), rfl, SqLof (h1.trans ?_), ?_⟩
      · rw [← t1, List.map_map, List.map_map, List.map_map]
        rfl
      · refine qv (k _ e1) ?_
        rw [total_sum]
        rfl
def sp_days_picked : Sp := fun vs H Q _ => ∃ (b : Addr) (ds : List (Nat × Nat)), vs = [.ref b] ∧ PairsAt H b ds ∧ ds.length ≤ 4 ∧ ∀ H', Same H H' → Q (N (ds.filter fun x => decide (0 < x.1 + x.2)).length) H'
theorem ok_days_picked (T : Txt K mg CV CP CF CL) : Keeps P w K mg base 1 "days_picked" ["picked"] sp_days_picked := by
  refine T.d_days_picked.ok sc_days_picked (fun vs H Q E h => ?_) (fun f cdv A outer s H vs Q E hr h => ?_)
  · obtain ⟨b, ds, rfl, _⟩ := h
    rfl
  · obtain ⟨b, ds, rfl, ⟨ts, t1, t2, t3⟩, hz, k⟩ := h
    refine ⟨_, (pss_one (ps_ret (pe_callB call_len_seq (by rfl) T.b_len boot_len (pa_cons (pe_lc (own := [("loads", 1)]) (g := gName 1) rfl sc_days_picked.nd (pi_list (pv 0)) (blkOk_by (own := [("loads", 1)]) (N := nm_days_picked) (sc := defScope s_days_picked) (by decide +kernel)) (fun _ _ _ _ _ => pg_name (i := 1) sc_days_picked.nd rfl (Or.inl rfl)) (fun _ _ _ _ _ => (pts_one (pt_cmpR op_gt (pe_op op_add (pe_ix (ix_tupK (K := K) rfl) (pv 1) pe_int (fun _ _ => rfl)) (pe_ix (ix_tupK (K := K) rfl) (pv 1) pe_int (fun _ _ => rfl))) pe_int (nomark _)))) (fun _ _ _ _ _ => (pv 1))) pa_nil)))), ?_⟩
    have hlen : ts.length = ds.length := by
      have h3 := congrArg List.length t1
      rw [List.length_map] at h3
      exact h3
    refine ⟨_, rfl, b, rfl, ⟨_, SqLof t2⟩, lc_det (l := ts) (g := fun x => .ref x.1) (f := fun x => if decide (0 < x.2.1 + x.2.2) = true then some (.ref x.1) else none) (SqLof t2) (by omega) (fun _ => rfl) ?_ ?_⟩
    · rintro ⟨t, a, b⟩ H1 hy e1 Qn qn
      have hT := e1 _ _ (t3 _ hy)
      refine ⟨_, rfl, t, _, _, _, rfl, rfl, SqTof hT, two0, _, rfl, t, _, _, _, rfl, rfl, SqTof hT, two1, _, _, rfl, rfl, _, _, rfl, rfl, _, rfl, ite2 (fun c => ?_) (fun c => ?_)⟩
      · have c1 : 0 < a + b := by
          have h1 : ((0 : Int)) < (a : Int) + (b : Int) := of_decide_eq_true c
          omega
        have q1 := qn _ (Same.refl _)
        rw [if_pos (decide_eq_true c1)] at q1
        exact ⟨_, rfl, q1⟩
      · have c1 : ¬ 0 < a + b := fun h => c (decide_eq_true (by show (0 : Int) < (a : Int) + (b : Int); omega))
        have q1 := qn _ (Same.refl _)
        rw [if_neg (fun h => c1 (of_decide_eq_true h))] at q1
        exact q1
    · intro D H1 hD e1 h1
      rw [fm_if (fun x : Addr × (Nat × Nat) => decide (0 < x.2.1 + x.2.2)) (fun x => V.ref x.1)] at h1
      refine ⟨D, _, rfl, .inl (SqLof h1), qv (k _ e1) ?_⟩
      rw [List.length_map, ← t1, List.filter_map, List.length_map]
      rfl
def sp_earned (CV CP : Addr) : Sp := fun vs H Q _ => ∃ (a b : Addr) (v : Uw50.Vine) (l : List Nat), vs = [.ref a, .ref b] ∧ VineAt CV CP H a v ∧ H b = some (.lst (Ns l)) ∧ l.length = v.count ∧
  ∀ H', Same H H' → Q (N (v.earns l)) H'
theorem ok_earned (T : Txt K mg CV CP CF CL) : Keeps P w K mg base 3 "earned" ["vineyard", "plan"] (sp_earned CV CP) := by
  refine T.d_earned.ok sc_earned (fun vs H Q E h => ?_) (fun f cdv A outer s H vs Q E hr h => ?_)
  · obtain ⟨a, b, v, l, rfl, _⟩ := h
    rfl
  · obtain ⟨a, b, v, l, rfl, hv, hl, hn, q⟩ := h
    refine ⟨_, (pss_cons (ps_set (i := 2) sc_earned.nd rfl (Or.inl rfl) pe_int)
(pss_cons (ps_for PassesOwn.never rfl (pi_zip (by rfl) T.b_zip (pa_cons (pe_fld (pv 0) rfl) (pa_cons (pv 1) pa_nil))) (pg_tup rfl (pgs_cons (pg_name (i := 3) sc_earned.nd rfl (Or.inl rfl)) (pgs_cons (pg_name (i := 4) sc_earned.nd rfl (Or.inl rfl)) pgs_nil)))
(pss_one (ps_if (pt_cmpR op_lt (pv 4) (pe_fld (pv 0) rfl) (nomark _))
(pss_one (ps_aug (i := 2) sc_earned.nd rfl (Or.inl rfl) (pe_op op_mul (pe_fld (pv 3) rfl) (pe_callN (ok_worth_on T) (hr.mono (by decide)) rfl (pa_cons (pv 3) (pa_cons (pv 4) pa_nil)))) ip_add))
pss_nil)))
(pss_one (ps_ret (pv 2))))), ?_⟩
    obtain ⟨pa, qs, F, hq, hp, hq2⟩ := hv.plots T
    refine ⟨_, rfl, ?_⟩
    apply fldV (F)
    have hlen : (qs.map fun x => V.ref x.1).length = (Ns l).length := by rw [List.length_map, Ns_len, plots_len hq, hn]
    refine ⟨_, rfl, pa, b, _, _, rfl, SqLof hp, SqLof hl, for_zip2 (xs := qs.map fun x => V.ref x.1) (ys := Ns l) hlen (fun n σ H1 => ∃ x y, σ = [some (.ref a), some (.ref b), some (N (earnPart v l n)), x, y] ∧ Same H H1) ⟨_, _, rfl, Same.refl _⟩ ?_ ?_ ?_⟩
    · rintro n σ H1 ⟨_, _, _, e⟩
      exact ⟨e.seq (SqLof hp), e.seq (SqLof hl)⟩
    · rintro n x y σ H1 H2 hx hy ⟨x1, y1, rfl, e1⟩ e2
      obtain ⟨qa, p, hqn, rfl⟩ := refs_get hx
      obtain ⟨e, he, rfl⟩ := Ns_get hy
      have em : Same H H2 := e1.trans e2
      have hP : PlotAt CP H2 qa p := (hq2 _ (List.mem_of_getElem? hqn)).mono em
      have hon : v.on l n = e := on_at he
      have hpn : v.plot n = p := plots_get hq hqn
      have hpo : POk p := hv.ok.pl _ (by rw [← hq]; exact List.mem_map.mpr ⟨_, List.mem_of_getElem? hqn, rfl⟩)
      have hpl := hpo.loads
      refine ⟨_, rfl, ?_⟩
      refine ⟨_, rfl, ?_⟩
      apply fldV ((hv.mono em).days T)
      refine ⟨_, _, rfl, rfl, _, rfl, ite2 (fun c => ?_) (fun c => ?_)⟩
      · have c1 := dN c
        refine ⟨_, rfl, ?_⟩
        refine ⟨_, rfl, ?_⟩
        apply fldV (hP.loads T)
        refine ⟨_, rfl, _, rfl, qa, p, e, rfl, hP, hpo, _, _, rfl, rfl, .inl ⟨by omega, by omega⟩, _, _, rfl, rfl, some (.ref qa), some (N e), ?_, em⟩
        have hs : N (earnPart v l (n + 1)) = V.int ((earnPart v l n : Nat) + (p.loads : Nat) * (p.worth - p.less * Uw50.apart e p.day : Nat) : Int) := by
          rw [earnPart_succ, hon, if_pos c1]
          unfold Uw50.Vine.brings
          rw [hpn]
          exact congrArg V.int (by omega)
        rw [hs]
        rfl
      · have c1 := dNf c
        refine ⟨some (.ref qa), some (N e), ?_, em⟩
        have hs : N (earnPart v l (n + 1)) = N (earnPart v l n) := by
          rw [earnPart_succ, hon, if_neg c1]
          rfl
        rw [hs]
        rfl
    · rintro σ H1 ⟨x1, y1, rfl, e1⟩
      refine ⟨_, rfl, qv (q _ e1) ?_⟩
      rw [List.length_map, plots_len hq]
      rfl
end
end Vh

set_option Elab.async false
set_option linter.all false
set_option maxRecDepth 100000
set_option maxHeartbeats 4000000
namespace Vh
open PySem PySem.Spec PyProof.Rows L2 VhM
section
variable {P : Program} {w : World} {K : PySem.W.Frag} {mg : Str → Option Value} {base : Heap} {CV CP CF CL : Addr}
/-! ### pressing -/
def sp_kept_behind (CV CP : Addr) : Sp := fun vs H Q _ => ∃ (a t u : Addr) (v : Uw50.Vine) (w r x y k : Nat), vs = [.ref a, .ref t, .ref u, N k] ∧ VineAt CV CP H a v ∧ H t = some (.tup [N w, N r]) ∧ H u = some (.tup [N x, N y]) ∧ k ≤ 1 ∧
  ∀ H' p, Same H H' → H' p = some (.tup [N (behind v w r x y k).1, N (behind v w r x y k).2]) → Q (.ref p) H'
theorem ok_kept_behind (T : Txt K mg CV CP CF CL) : Keeps P w K mg base 1 "kept_behind" ["vineyard", "kept", "picked", "colour"] (sp_kept_behind CV CP) := by
  refine T.d_kept_behind.ok sc_kept_behind (fun vs H Q E h => ?_) (fun f cdv A outer s H vs Q E hr h => ?_)
  · obtain ⟨a, t, u, v, w, r, x, y, k, rfl, _⟩ := h
    rfl
  · obtain ⟨a, t, u, v, w, r, x, y, k, rfl, hv, ht, hu, hk, q⟩ := h
    refine ⟨_, (pss_cons (ps_set (i := 4) sc_kept_behind.nd rfl (Or.inl rfl) (pe_op op_sub (pe_op op_add (pe_ix ix_tup (pv 1) (pv 3) (fun _ _ => rfl)) (pe_ix ix_tup (pv 2) (pv 3) (fun _ _ => rfl))) (pe_fld (pv 0) rfl)))
(pss_cons (ps_if (pt_cmpR op_lt (pv 4) pe_int (nomark _))
(pss_one (ps_set (i := 4) sc_kept_behind.nd rfl (Or.inl rfl) pe_int))
pss_nil)
(pss_cons (ps_if (pt_cmpR op_eq (pv 3) pe_int (nomark _))
(pss_one (ps_ret (pe_tup (pa_cons (pv 4) (pa_cons (pe_ix ix_tup (pv 2) pe_int (fun _ _ => rfl)) pa_nil)))))
pss_nil)
(pss_one (ps_ret (pe_tup (pa_cons (pe_ix ix_tup (pv 2) pe_int (fun _ _ => rfl)) (pa_cons (pv 4) pa_nil)))))))), ?_⟩
    rcases (by omega : k = 0 ∨ k = 1) with rfl | rfl
    · refine ⟨_, rfl, _, rfl, t, _, _, _, rfl, rfl, SqTof ht, two0, _, rfl, _, rfl, u, _, _, _, rfl, rfl, SqTof hu, two0, _, _, rfl, rfl, ?_⟩
      refine ⟨_, rfl, ?_⟩
      apply fldV (hv.press T)
      refine ⟨_, _, rfl, rfl, _, rfl, _, _, rfl, rfl, _, rfl, ite2 (fun c => ?_) (fun c => ?_)⟩
      · have c1 : (w : Int) + (x : Int) - (v.press : Int) < 0 := of_decide_eq_true c
        refine ⟨_, rfl, rfl, _, rfl, _, rfl, _, rfl, u, _, _, _, rfl, rfl, SqTof hu, two1, (by show 2 ≤ sizeLine; decide), fun p hp => q _ p (sm_new hp) (upd_same.trans ?_)⟩
        have e1 : (behind v w r x y 0).1 = 0 := by
          show w + x - v.press = 0
          omega
        rw [e1]
        rfl
      · have c1 : ¬ (w : Int) + (x : Int) - (v.press : Int) < 0 := fun h => c (decide_eq_true h)
        refine ⟨_, rfl, rfl, _, rfl, _, rfl, _, rfl, u, _, _, _, rfl, rfl, SqTof hu, two1, (by show 2 ≤ sizeLine; decide), fun p hp => q _ p (sm_new hp) (upd_same.trans ?_)⟩
        have e1 : N (behind v w r x y 0).1 = V.int ((w : Int) + (x : Int) - (v.press : Int)) := by
          show V.int ((w + x - v.press : Nat) : Int) = _
          exact congrArg V.int (by omega)
        rw [e1]
        rfl
    · refine ⟨_, rfl, _, rfl, t, _, _, _, rfl, rfl, SqTof ht, two1, _, rfl, _, rfl, u, _, _, _, rfl, rfl, SqTof hu, two1, _, _, rfl, rfl, ?_⟩
      refine ⟨_, rfl, ?_⟩
      apply fldV (hv.press T)
      refine ⟨_, _, rfl, rfl, _, rfl, _, _, rfl, rfl, _, rfl, ite2 (fun c => ?_) (fun c => ?_)⟩
      · have c1 : (r : Int) + (y : Int) - (v.press : Int) < 0 := of_decide_eq_true c
        refine ⟨_, rfl, rfl, _, rfl, _, rfl, u, _, _, _, rfl, rfl, SqTof hu, two0, _, rfl, (by show 2 ≤ sizeLine; decide), fun p hp => q _ p (sm_new hp) (upd_same.trans ?_)⟩
        have e1 : (behind v w r x y 1).2 = 0 := by
          show r + y - v.press = 0
          omega
        rw [e1]
        rfl
      · have c1 : ¬ (r : Int) + (y : Int) - (v.press : Int) < 0 := fun h => c (decide_eq_true h)
        refine ⟨_, rfl, rfl, _, rfl, _, rfl, u, _, _, _, rfl, rfl, SqTof hu, two0, _, rfl, (by show 2 ≤ sizeLine; decide), fun p hp => q _ p (sm_new hp) (upd_same.trans ?_)⟩
        have e1 : N (behind v w r x y 1).2 = V.int ((r : Int) + (y : Int) - (v.press : Int)) := by
          show V.int ((r + y - v.press : Nat) : Int) = _
          exact congrArg V.int (by omega)
        rw [e1]
        rfl
def sp_first_spoilt (CV CP : Addr) : Sp := fun vs H Q _ => ∃ (a t : Addr) (v : Uw50.Vine) (w r k : Nat), vs = [.ref a, .ref t, N k] ∧ VineAt CV CP H a v ∧ H t = some (.tup [N w, N r]) ∧ Q (optN (spoilt v w r k)) H
theorem ok_first_spoilt (T : Txt K mg CV CP CF CL) : Keeps P w K mg base 1 "first_spoilt" ["vineyard", "kept", "colour"] (sp_first_spoilt CV CP) := by
  refine T.d_first_spoilt.ok sc_first_spoilt (fun vs H Q E h => ?_) (fun f cdv A outer s H vs Q E hr h => ?_)
  · obtain ⟨a, t, v, w, r, k, rfl, _⟩ := h
    rfl
  · obtain ⟨a, t, v, w, r, k, rfl, hv, ht, q⟩ := h
    refine ⟨_, (pss_cons (ps_for PassesOwn.never rfl (pi_range1 (by rfl) T.b_range (pa_cons pe_int pa_nil)) (pg_name (i := 3) sc_first_spoilt.nd rfl (Or.inl rfl))
(pss_cons (ps_set (i := 4) sc_first_spoilt.nd rfl (Or.inl rfl) pe_int)
(pss_cons (ps_if (pt_cmpR op_eq (pv 3) (pv 2) (nomark _))
(pss_one (ps_set (i := 4) sc_first_spoilt.nd rfl (Or.inl rfl) (pe_fld (pv 0) rfl)))
pss_nil)
(pss_one (ps_if (pt_cmpR op_gt (pe_ix ix_tup (pv 1) (pv 3) (fun _ _ => rfl)) (pv 4) (nomark _))
(pss_one (ps_ret (pv 3)))
pss_nil)))))
(pss_one (ps_ret pe_non))), ?_⟩
    refine ⟨2, rfl, by decide, by decide, for_range (lo := 0) (n := 2) (fun i σ H1 => ∃ x y, σ = [some (.ref a), some (.ref t), some (N k), x, y] ∧ H1 = H ∧ (1 ≤ i → ¬ (if k = 0 then v.press else 0) < w) ∧ (2 ≤ i → ¬ (if k = 1 then v.press else 0) < r)) ⟨_, _, rfl, rfl, fun h => absurd h (by decide), fun h => absurd h (by decide)⟩ ?_ ?_⟩
    · rintro i σ H1 hi ⟨x1, y1, rfl, rfl, h1, h2⟩
      rcases (by omega : i = 0 ∨ i = 1) with rfl | rfl
      · refine ⟨_, rfl, _, rfl, rfl, _, rfl, ite2 (fun c => ?_) (fun c => ?_)⟩
        · have ck : 0 = k := eqN (a := 0) c
          subst ck
          refine ⟨_, rfl, ?_⟩
          apply fldV (hv.press T)
          refine ⟨_, rfl, _, rfl, t, _, _, _, rfl, rfl, SqTof ht, two0, _, rfl, _, _, rfl, rfl, _, rfl, ite2 (fun c => ?_) (fun c => ?_)⟩
          · have c1 := dN c
            refine ⟨_, rfl, qv q ?_⟩
            unfold spoilt
            rw [if_pos rfl, if_pos c1]
            rfl
          · have c1 := dNf c
            refine ⟨_, _, rfl, rfl, fun _ => ?_, fun h => absurd h (by decide)⟩
            rw [if_pos rfl]
            exact c1
        · have ck : ¬ 0 = k := eqNf (a := 0) c
          refine ⟨_, rfl, _, rfl, t, _, _, _, rfl, rfl, SqTof ht, two0, _, rfl, _, _, rfl, rfl, _, rfl, ite2 (fun c => ?_) (fun c => ?_)⟩
          · have c1 : 0 < w := dN (a := 0) c
            refine ⟨_, rfl, qv q ?_⟩
            unfold spoilt
            rw [show (if k = 0 then v.press else 0) = 0 from if_neg (fun h => ck h.symm), if_pos c1]
            rfl
          · have c1 : ¬ 0 < w := dNf (a := 0) c
            refine ⟨_, _, rfl, rfl, fun _ => ?_, fun h => absurd h (by decide)⟩
            rw [if_neg (fun h => ck h.symm)]
            exact c1
      · refine ⟨_, rfl, _, rfl, rfl, _, rfl, ite2 (fun c => ?_) (fun c => ?_)⟩
        · have ck : 1 = k := eqN (a := 1) c
          subst ck
          refine ⟨_, rfl, ?_⟩
          apply fldV (hv.press T)
          refine ⟨_, rfl, _, rfl, t, _, _, _, rfl, rfl, SqTof ht, two1, _, rfl, _, _, rfl, rfl, _, rfl, ite2 (fun c => ?_) (fun c => ?_)⟩
          · have c1 := dN c
            refine ⟨_, rfl, qv q ?_⟩
            unfold spoilt
            rw [if_neg (h1 (Nat.le_refl _)), if_pos rfl, if_pos c1]
            rfl
          · have c1 := dNf c
            refine ⟨_, _, rfl, rfl, fun _ => h1 (Nat.le_refl _), fun _ => ?_⟩
            rw [if_pos rfl]
            exact c1
        · have ck : ¬ 1 = k := eqNf (a := 1) c
          refine ⟨_, rfl, _, rfl, t, _, _, _, rfl, rfl, SqTof ht, two1, _, rfl, _, _, rfl, rfl, _, rfl, ite2 (fun c => ?_) (fun c => ?_)⟩
          · have c1 : 0 < r := dN (a := 0) c
            refine ⟨_, rfl, qv q ?_⟩
            unfold spoilt
            rw [if_neg (h1 (Nat.le_refl _)), show (if k = 1 then v.press else 0) = 0 from if_neg (fun h => ck h.symm), if_pos c1]
            rfl
          · have c1 : ¬ 0 < r := dNf (a := 0) c
            refine ⟨_, _, rfl, rfl, fun _ => h1 (Nat.le_refl _), fun _ => ?_⟩
            rw [if_neg (fun h => ck h.symm)]
            exact c1
    · rintro σ H1 ⟨x1, y1, rfl, rfl, h1, h2⟩
      refine qv q ?_
      unfold spoilt
      rw [if_neg (h1 (by decide)), if_neg (h2 (by decide))]
      rfl
/-- a refusal as a row of values -/
def outV (a : Uw50.Ans) : List V := .int a.v :: Ns a.l
def wrongL {α : Type} : Except Uw50.Wrong α → List V
  | .ok _ => []
  | .error e => outV (Uw50.wrongTold e)
def sp_course (CV CP : Addr) : Sp := fun vs H Q _ => ∃ (a b c : Addr) (v : Uw50.Vine) (l cs : List Nat), vs = [.ref a, .ref b, .ref c] ∧ VineAt CV CP H a v ∧ PairsAt H b (picks v l) ∧ H c = some (.lst (Ns cs)) ∧ v.coloured cs = true ∧
  ∀ H' p x y, H x = none → Same H H' → H' p = some (.tup [.ref x, .ref y]) → H' x = some (.lst (wrongL (v.nights l cs))) → (∀ n, v.nights l cs = .ok n → PairsAt H' y n) → Q (.ref p) H'
theorem map_map_ok {α β γ : Type} {e : Except γ α} {f : α → β} {r : γ} (h : e = .error r) : e.map f = .error r := by
  rw [h]
  rfl
theorem coloured_get {v : Uw50.Vine} {cs : List Nat} (h : v.coloured cs = true) : cs.length = v.days ∧ ∀ k ∈ cs, k ≤ 1 := by
  unfold Uw50.Vine.coloured at h
  rw [Bool.and_eq_true, List.all_eq_true] at h
  exact ⟨beq_iff_eq.mp h.1, fun k hk => of_decide_eq_true (h.2 k hk)⟩
theorem ok_course (T : Txt K mg CV CP CF CL) : Keeps P w K mg base 2 "course" ["vineyard", "picked", "colours"] (sp_course CV CP) := by
  refine T.d_course.ok sc_course (fun vs H Q E h => ?_) (fun f cdv A outer s H vs Q E hr h => ?_)
  · obtain ⟨a, b, c, v, l, cs, rfl, _⟩ := h
    rfl
  · obtain ⟨a, b, c, v, l, cs, rfl, hv, hb, hc, hcol, q⟩ := h
    refine ⟨_, (pss_cons (ps_set (i := 3) sc_course.nd rfl (Or.inl rfl) (pe_tup (pa_cons pe_int (pa_cons pe_int pa_nil))))
(pss_cons (ps_set (i := 4) sc_course.nd rfl (Or.inl rfl) (pe_lst pa_nil))
(pss_cons (ps_for PassesOwn.never rfl (pi_enum (by rfl) T.b_enumerate (pa_cons (pv 2) pa_nil)) (pg_tup rfl (pgs_cons (pg_name (i := 5) sc_course.nd rfl (Or.inl rfl)) (pgs_cons (pg_name (i := 6) sc_course.nd rfl (Or.inl rfl)) pgs_nil)))
(pss_cons (ps_set (i := 7) sc_course.nd rfl (Or.inl rfl) (pe_callN (ok_first_spoilt T) (hr.mono (by decide)) rfl (pa_cons (pv 0) (pa_cons (pv 3) (pa_cons (pv 6) pa_nil)))))
(pss_cons (ps_if (pt_cmpR op_notN (pv 7) pe_non (nomark _))
(pss_one (ps_ret (pe_tup (pa_cons (pe_lst (pa_cons (pe_const rfl T.g_SPOILS) (pa_cons (pv 5) (pa_cons (pv 7) pa_nil)))) (pa_cons (pv 4) pa_nil)))))
pss_nil)
(pss_cons (ps_set (i := 3) sc_course.nd rfl (Or.inl rfl) (pe_callN (ok_kept_behind T) (hr.mono (by decide)) rfl (pa_cons (pv 0) (pa_cons (pv 3) (pa_cons (pe_ix ix_list (pv 1) (pv 5) (fun _ _ => rfl)) (pa_cons (pv 6) pa_nil))))))
(pss_cons (ps_if (pt_cmpR op_gt (pe_op op_add (pe_ix ix_tup (pv 3) pe_int (fun _ _ => rfl)) (pe_ix ix_tup (pv 3) pe_int (fun _ _ => rfl))) (pe_fld (pv 0) rfl) (nomark _))
(pss_one (ps_ret (pe_tup (pa_cons (pe_lst (pa_cons (pe_const rfl T.g_TOO_FULL) (pa_cons (pv 5) pa_nil))) (pa_cons (pv 4) pa_nil)))))
pss_nil)
(pss_one (ps_expr (pe_bm PySem.F.plainAttrs_list PySem.F.slot_list_append PySem.F.type_list_append mt_append (pv 4) (pa_cons (pv 3) pa_nil)))))))))
(pss_cons (ps_if (pt_cmpR op_gt (pe_op op_add (pe_ix ix_tup (pv 3) pe_int (fun _ _ => rfl)) (pe_ix ix_tup (pv 3) pe_int (fun _ _ => rfl))) pe_int (nomark _))
(pss_one (ps_ret (pe_tup (pa_cons (pe_lst (pa_cons (pe_const rfl T.g_KEPT_AT_END) pa_nil)) (pa_cons (pv 4) pa_nil)))))
pss_nil)
(pss_one (ps_ret (pe_tup (pa_cons (pe_lst pa_nil) (pa_cons (pv 4) pa_nil))))))))), ?_⟩
    obtain ⟨hcl, hc1⟩ := coloured_get hcol
    have hd4 := hv.ok.d4
    refine ⟨by show 2 ≤ sizeLine; decide, fun t0 ht0 => ⟨Nat.zero_le _, fun ni hni => ?_⟩⟩
    have e0 : Same H (upd H t0 (.tup [N 0, N 0])) := sm_new ht0
    have hni0 : H ni = none := e0.free hni
    have e1 : Same H (upd (upd H t0 (.tup [N 0, N 0])) ni (.lst [])) := sm_mut e0 hni0
    have n0 : t0 ≠ ni := ne_of_none (H := upd H t0 (.tup [N 0, N 0])) upd_same hni
    refine ⟨_, rfl, c, _, rfl, SqLof (e1 _ _ hc), for_enum2 (xs := Ns cs) (fun n σ H1 => ∃ (t : Addr) (w r : Nat) (x y z : Option V) (ns : List (Nat × Nat)), σ = [some (.ref a), some (.ref b), some (.ref c), some (.ref t), some (.ref ni), x, y, z] ∧ Same H H1 ∧ H1 t = some (.tup [N w, N r]) ∧ PairsAt H1 ni ns ∧ ns.length = n ∧
      v.nights l cs = (v.nightsFrom l cs (v.days - n) n w r).map fun z => ns ++ z) ?_ ?_ ?_ ?_⟩
    · refine ⟨t0, 0, 0, _, _, _, [], rfl, e1, ?_, ⟨[], rfl, upd_same, fun x hx => by cases hx⟩, rfl, ?_⟩
      · rw [upd_ne n0]
        exact upd_same
      · show v.nights l cs = _
        unfold Uw50.Vine.nights
        rw [Nat.sub_zero]
        cases v.nightsFrom l cs v.days 0 0 0 <;> rfl
    · rintro n σ H1 ⟨t, w, r, _, _, _, _, _, e, _⟩
      exact e.seq (SqLof hc)
    · rintro n xx σ H1 H2 hx ⟨t, w, r, x1, y1, z1, ns, rfl, e2, ht, hns, hnl, heq⟩ e3
      obtain ⟨k, hk, rfl⟩ := Ns_get hx
      have hk1 : k ≤ 1 := hc1 k (List.mem_of_getElem? hk)
      have hn : n < v.days := by
        have h1 := (List.getElem?_eq_some_iff.mp hk).1
        omega
      have em : Same H H2 := e2.trans e3
      have hv2 := hv.mono em
      have hstep := nights_step v l cs (v.days - (n + 1)) n w r k hk hk1
      rw [show v.days - (n + 1) + 1 = v.days - n by omega] at hstep
      rw [hstep] at heq
      -- spoilt = first_spoilt(vineyard, kept, colour)
      refine ⟨_, rfl, _, rfl, _, rfl, a, t, v, w, r, k, rfl, hv2, e3 _ _ ht, ?_⟩
      refine ⟨_, rfl, rfl, _, rfl, ?_⟩
      cases hsp : spoilt v w r k with
      | some x =>
        rw [hsp] at heq
        have heq2 : v.nights l cs = .error (.spoils n x) := heq
        refine ⟨_, rfl, _, rfl, (by show 3 ≤ sizeLine; decide), fun x2 hx2 => ⟨_, rfl, (by show 2 ≤ sizeLine; decide), fun p hp => ?_⟩⟩
        refine q _ p x2 ni (em.free hx2) ((em.trans (sm_new hx2)).trans (sm_new hp)) upd_same ?_ (fun m hm => ?_)
        · rw [upd_ne (ne_of_none (H := upd H2 x2 _) upd_same hp), heq2]
          exact upd_same
        · rw [heq2] at hm
          cases hm
      | none =>
        rw [hsp] at heq
        -- kept = kept_behind(vineyard, kept, picked[day], colour)
        obtain ⟨ts, t1, t2, t3⟩ := hb.mono em
        have hpk : (picks v l)[n]? = some (v.of l n 0, v.of l n 1) := by
          unfold picks
          rw [List.getElem?_map, List.getElem?_range hn]
          rfl
        obtain ⟨u, hu⟩ := ps_get t1 hpk
        refine ⟨_, rfl, _, rfl, _, rfl, _, rfl, b, _, _, _, rfl, rfl, SqLof t2, ps_at hu, _, rfl, a, t, u, v, w, r, v.of l n 0, v.of l n 1, k, rfl, hv2, e3 _ _ ht, t3 _ (List.mem_of_getElem? hu), hk1, fun H3 t' e4 ht' => ?_⟩
        have em3 : Same H H3 := em.trans e4
        refine ⟨_, rfl, t', _, _, _, rfl, rfl, SqTof ht', two0, _, rfl, t', _, _, _, rfl, rfl, SqTof ht', two1, _, _, rfl, rfl, ?_⟩
        refine ⟨_, rfl, ?_⟩
        apply fldV ((hv.mono em3).store T)
        refine ⟨_, _, rfl, rfl, _, rfl, ite2 (fun c => ?_) (fun c => ?_)⟩
        · have c1 : v.store < (behind v w r (v.of l n 0) (v.of l n 1) k).1 + (behind v w r (v.of l n 0) (v.of l n 1) k).2 := Int.ofNat_lt.mp (of_decide_eq_true c)
          have heq2 : v.nights l cs = .error (.full n) := by
            rw [heq, if_pos c1]
            rfl
          refine ⟨_, rfl, (by show 2 ≤ sizeLine; decide), fun x2 hx2 => ⟨_, rfl, (by show 2 ≤ sizeLine; decide), fun p hp => ?_⟩⟩
          refine q _ p x2 ni (em3.free hx2) ((em3.trans (sm_new hx2)).trans (sm_new hp)) upd_same ?_ (fun m hm => ?_)
          · rw [upd_ne (ne_of_none (H := upd H3 x2 _) upd_same hp), heq2]
            exact upd_same
          · rw [heq2] at hm
            cases hm
        · have c1 : ¬ v.store < (behind v w r (v.of l n 0) (v.of l n 1) k).1 + (behind v w r (v.of l n 0) (v.of l n 1) k).2 := fun h => c (decide_eq_true (Int.ofNat_lt.mpr h))
          obtain ⟨tn, n1, n2, n3⟩ := (hns.mono e3).mono e4
          have htl : tn.length = n := by
            have h1 := congrArg List.length n1
            rw [List.length_map] at h1
            omega
          refine ⟨_, rfl, .inl ⟨rfl, _, SqLof n2⟩, _, rfl, ni, _, _, rfl, rfl, n2, ?_, ?_⟩
          · rw [List.length_map, htl]
            exact Nat.lt_of_lt_of_le (Nat.lt_of_lt_of_le hn hd4) (by decide)
          · have keep : ∀ b' xs, H3 b' = some (.tup xs) → (upd H3 ni (.lst ((tn.map fun x => V.ref x.1) ++ [.ref t']))) b' = some (.tup xs) := fun b' xs hb' => by
              rw [upd_ne (ne_of hb' n2 (by intro z; cases z))]
              exact hb'
            refine ⟨t', _, _, _, _, _, ns ++ [behind v w r (v.of l n 0) (v.of l n 1) k], rfl, sm_mut em3 hni0, keep _ _ ht', ⟨tn ++ [(t', behind v w r (v.of l n 0) (v.of l n 1) k)], ?_, ?_, ?_⟩, ?_, ?_⟩
            · rw [List.map_append, n1]
              rfl
            · rw [upd_same, List.map_append]
              rfl
            · intro x hx
              rcases List.mem_append.mp hx with hx | hx
              · exact keep _ _ (n3 x hx)
              · obtain rfl := List.mem_singleton.mp hx
                exact keep _ _ ht'
            · rw [List.length_append, hnl]
              rfl
            · rw [heq, if_neg c1]
              cases v.nightsFrom l cs (v.days - (n + 1)) (n + 1) (behind v w r (v.of l n 0) (v.of l n 1) k).1 (behind v w r (v.of l n 0) (v.of l n 1) k).2 with
              | error e => rfl
              | ok z =>
                show Except.ok (ns ++ (behind v w r (v.of l n 0) (v.of l n 1) k :: z)) = Except.ok (ns ++ [behind v w r (v.of l n 0) (v.of l n 1) k] ++ z)
                rw [List.append_assoc]
                rfl
    · rintro σ H1 ⟨t, w, r, x1, y1, z1, ns, rfl, e2, ht, hns, hnl, heq⟩
      rw [Ns_len, hcl] at hnl heq
      rw [Nat.sub_self, nights_stop] at heq
      refine ⟨_, rfl, t, _, _, _, rfl, rfl, SqTof ht, two0, _, rfl, t, _, _, _, rfl, rfl, SqTof ht, two1, _, _, rfl, rfl, _, _, rfl, rfl, _, rfl, ite2 (fun c => ?_) (fun c => ?_)⟩
      · have c1 : (0 : Int) < (w : Int) + (r : Int) := of_decide_eq_true c
        have heq2 : v.nights l cs = .error .late := by
          rw [heq, if_neg (by omega)]
          rfl
        refine ⟨by show 1 ≤ sizeLine; decide, fun x2 hx2 => ⟨_, rfl, (by show 2 ≤ sizeLine; decide), fun p hp => ?_⟩⟩
        refine q _ p x2 ni (e2.free hx2) ((e2.trans (sm_new hx2)).trans (sm_new hp)) upd_same ?_ (fun m hm => ?_)
        · rw [upd_ne (ne_of_none (H := upd H1 x2 _) upd_same hp), heq2]
          exact upd_same
        · rw [heq2] at hm
          cases hm
      · have c1 : ¬ (0 : Int) < (w : Int) + (r : Int) := fun h => c (decide_eq_true h)
        have heq2 : v.nights l cs = .ok ns := by
          rw [heq, if_pos (by omega)]
          show Except.ok (ns ++ []) = _
          rw [List.append_nil]
        refine ⟨Nat.zero_le _, fun x2 hx2 => ⟨_, rfl, (by show 2 ≤ sizeLine; decide), fun p hp => ?_⟩⟩
        refine q _ p x2 ni (e2.free hx2) ((e2.trans (sm_new hx2)).trans (sm_new hp)) upd_same ?_ (fun m hm => ?_)
        · rw [upd_ne (ne_of_none (H := upd H1 x2 _) upd_same hp), heq2]
          exact upd_same
        · rw [heq2] at hm
          obtain rfl : ns = m := Except.ok.inj hm
          exact (hns.mono (sm_new hx2)).mono (sm_new hp)
def sp_right_ones (CV CP : Addr) : Sp := fun vs H Q _ => ∃ (a b c : Addr) (v : Uw50.Vine) (l : List Nat) (rs : List (List Nat)), vs = [.ref a, .ref b, .ref c] ∧ VineAt CV CP H a v ∧ PairsAt H b (picks v l) ∧ RowsAt H c rs ∧ (∀ r ∈ rs, v.coloured r = true) ∧ rs.length ≤ 1000 ∧
  ∀ H' p, Same H H' → RowsAt H' p (rs.filter (v.flows l)) → Q (.ref p) H'
theorem ok_right_ones (T : Txt K mg CV CP CF CL) : Keeps P w K mg base 3 "right_ones" ["vineyard", "picked", "some"] (sp_right_ones CV CP) := by
  refine T.d_right_ones.ok sc_right_ones (fun vs H Q E h => ?_) (fun f cdv A outer s H vs Q E hr h => ?_)
  · obtain ⟨a, b, c, v, l, rs, rfl, _⟩ := h
    rfl
  · obtain ⟨a, b, c, v, l, rs, rfl, hv, hb, ⟨ps, p1, p2, p3⟩, hcol, hz, q⟩ := h
    refine ⟨_, (pss_one (ps_ret (pe_lc (own := [("colours", 3)]) (g := gName 3) rfl sc_right_ones.nd (pi_list (pv 2)) (blkOk_by (own := [("colours", 3)]) (N := nm_right_ones) (sc := defScope s_right_ones) (by decide +kernel)) (fun _ _ _ _ _ => pg_name (i := 3) sc_right_ones.nd rfl (Or.inl rfl)) (fun _ _ _ _ _ => (pts_one (pt_cmpR op_eq (pe_callB (call_len_seqK (K := K) rfl) (by rfl) T.b_len boot_len (pa_cons (pe_ix (ix_tupK (K := K) rfl) (pe_callN (ok_course T) (hr.mono (by decide)) rfl (pa_cons (pv 0) (pa_cons (pv 1) (pa_cons (pv 3) pa_nil)))) pe_int (fun _ _ => rfl)) pa_nil)) pe_int (nomark _)))) (fun _ _ _ _ _ => (pv 3))))), ?_⟩
    have hlen : ps.length = rs.length := by
      rw [← p1, List.length_map]
    refine ⟨_, rfl, c, rfl, ⟨_, SqLof p2⟩, lc_det (l := ps) (g := fun x => .ref x.1) (f := fun x => if v.flows l x.2 = true then some (.ref x.1) else none) (SqLof p2) (by omega) (fun _ => rfl) ?_ ?_⟩
    · rintro ⟨r, cs⟩ H1 hy e1 Qn qn
      refine ⟨_, rfl, _, rfl, _, rfl, a, b, r, v, l, cs, rfl, hv.mono e1, hb.mono e1, e1 _ _ (p3 _ hy), hcol cs (by rw [← p1]; exact List.mem_map.mpr ⟨_, hy, rfl⟩), fun H2 p x y _ e2 hp hx hn => ⟨p, _, _, _, rfl, rfl, SqTof hp, two0, x, _, rfl, .inl (SqLof hx), rfl, _, rfl, ?_⟩⟩
      have q1 := qn H2 e2
      cases hns : v.nights l cs with
      | ok n =>
        have hf : v.flows l cs = true := by
          unfold Uw50.Vine.flows
          rw [hns]
        dsimp only at q1
        rw [if_pos hf] at q1
        exact ⟨_, rfl, q1⟩
      | error e =>
        have hf : v.flows l cs = false := by
          unfold Uw50.Vine.flows
          rw [hns]
        dsimp only at q1
        rw [hf, if_neg Bool.false_ne_true] at q1
        have hw : decide (V.int ((wrongL (α := List (Nat × Nat)) (.error e)).length : Nat) = V.int 0) = false := decide_eq_false (by
          unfold wrongL outV
          rw [List.length_cons]
          intro h
          injection h with h
          omega)
        show if decide (V.int ((wrongL (α := List (Nat × Nat)) (.error e)).length : Nat) = V.int 0) = true then _ else _
        rw [hw]
        exact iteF q1
    · intro D H1 hD e1 h1
      rw [fm_if (fun x : Addr × List Nat => v.flows l x.2) (fun x => V.ref x.1)] at h1
      refine q H1 D e1 ⟨_, ?_, h1, fun x hx => e1 _ _ (p3 x (List.mem_filter.mp hx).1)⟩
      rw [← p1, List.filter_map]
      rfl
end
end Vh

set_option Elab.async false
set_option linter.all false
set_option maxRecDepth 100000
set_option maxHeartbeats 4000000
namespace Vh
open PySem PySem.Spec PyProof.Rows L2 VhM
theorem lenF {f : Str} {v : V} : ∀ {fs : List (Str × V)} {n : Nat}, fs.length ≤ n → (putF f v fs).length ≤ n + 1
  | [], n, _ => Nat.succ_le_succ (Nat.zero_le n)
  | (g, x) :: r, n, h => by
    show (if g = f then (g, v) :: r else (g, x) :: putF f v r).length ≤ n + 1
    by_cases e : g = f
    · rw [if_pos e]
      exact Nat.le_succ_of_le h
    · rw [if_neg e]
      cases n with
      | zero => exact absurd h (Nat.not_succ_le_zero _)
      | succ n => exact Nat.succ_le_succ (lenF (Nat.le_of_succ_le_succ h))
theorem put_Found (x0 x1 x2 x3 x4 : V) : putF "colours" x4 (putF "plan" x3 (putF "many" x2 (putF "days" x1 (putF "leaves" x0 ([]))))) = ([("leaves", x0), ("days", x1), ("many", x2), ("plan", x3), ("colours", x4)] : List (Str × V)) := by
  rw [show putF "leaves" x0 [] = ([("leaves", x0)] : List (Str × V)) from rfl]
  rw [show putF "days" x1 [("leaves", x0)] = ([("leaves", x0), ("days", x1)] : List (Str × V)) from putF_snoc (ks := ["leaves"]) rfl (by decide +kernel)]
  rw [show putF "many" x2 [("leaves", x0), ("days", x1)] = ([("leaves", x0), ("days", x1), ("many", x2)] : List (Str × V)) from putF_snoc (ks := ["leaves", "days"]) rfl (by decide +kernel)]
  rw [show putF "plan" x3 [("leaves", x0), ("days", x1), ("many", x2)] = ([("leaves", x0), ("days", x1), ("many", x2), ("plan", x3)] : List (Str × V)) from putF_snoc (ks := ["leaves", "days", "many"]) rfl (by decide +kernel)]
  rw [show putF "colours" x4 [("leaves", x0), ("days", x1), ("many", x2), ("plan", x3)] = ([("leaves", x0), ("days", x1), ("many", x2), ("plan", x3), ("colours", x4)] : List (Str × V)) from putF_snoc (ks := ["leaves", "days", "many", "plan"]) rfl (by decide +kernel)]

theorem made {H : Hp} {x dx : Addr} {o : HO} (hx : H x = none) (hd : H dx = none) : Same H (upd (upd H dx (.own x)) x o) := sm_mut (sm_new hd) hx
theorem iteNN {c A B : Prop} [Decidable c] (hc : ¬ c) (h : A) : if (!decide c) = true then A else B := by
  rw [decide_eq_false hc]
  exact iteT h
theorem iteD {c A B : Prop} [Decidable c] (hc : c) (h : A) : if decide c = true then A else B := by
  rw [decide_eq_true hc]
  exact iteT h
theorem iteDN {c A B : Prop} [Decidable c] (hc : ¬ c) (h : B) : if decide c = true then A else B := by
  rw [decide_eq_false hc]
  exact iteF h
theorem iteB {c : Bool} {A B : Prop} (hc : c = true) (h : A) : if c = true then A else B := by
  rw [if_pos hc]
  exact h
theorem iteBF {c : Bool} {A B : Prop} (hc : c = false) (h : B) : if c = true then A else B := by
  rw [hc]
  exact iteF h
theorem ref_non {a : Addr} : ¬ V.ref a = V.non := by intro z; cases z
def FoundAt (CF : Addr) (H : Hp) (f : Addr) (b : Uw50.Best) : Prop := ∃ dx pa ca, H f = some (.ins CF dx (foundF b pa ca)) ∧ H pa = some (.lst (Ns b.plan)) ∧ H ca = some (.lst (Ns b.row))
def OF (CF : Addr) (H : Hp) (x : V) : Option Uw50.Best → Prop
  | none => x = .non
  | some b => ∃ f, x = .ref f ∧ FoundAt CF H f b
theorem FoundAt.mono {CF : Addr} {H H' : Hp} {f : Addr} {b : Uw50.Best} (e : Same H H') (h : FoundAt CF H f b) : FoundAt CF H' f b := by
  obtain ⟨dx, pa, ca, h1, h2, h3⟩ := h
  exact ⟨dx, pa, ca, e _ _ h1, e _ _ h2, e _ _ h3⟩
theorem OF.mono {CF : Addr} {H H' : Hp} {x : V} {fb : Option Uw50.Best} (e : Same H H') (h : OF CF H x fb) : OF CF H' x fb := by
  cases fb with
  | none => exact h
  | some b =>
    obtain ⟨f, h1, h2⟩ := h
    exact ⟨f, h1, h2.mono e⟩
section
variable {K : PySem.W.Frag} {mg : Str → Option Value} {CV CP CF CL : Addr} {H : Hp} {f : Addr} {b : Uw50.Best}
theorem FoundAt.leaves (T : Txt K mg CV CP CF CL) (h : FoundAt CF H f b) : FieldAt K H f "leaves" (.int b.good.gain) := by
  obtain ⟨dx, pa, ca, h, _⟩ := h
  exact ⟨CF, dx, _, h, T.c_Found, T.n_Found_leaves, lk_here⟩
theorem FoundAt.days (T : Txt K mg CV CP CF CL) (h : FoundAt CF H f b) : FieldAt K H f "days" (N b.good.picking) := by
  obtain ⟨dx, pa, ca, h, _⟩ := h
  exact ⟨CF, dx, _, h, T.c_Found, T.n_Found_days, lk_past (by decide +kernel) lk_here⟩
theorem FoundAt.many (T : Txt K mg CV CP CF CL) (h : FoundAt CF H f b) : FieldAt K H f "many" (N b.many) := by
  obtain ⟨dx, pa, ca, h, _⟩ := h
  exact ⟨CF, dx, _, h, T.c_Found, T.n_Found_many, lk_past (by decide +kernel) (lk_past (by decide +kernel) lk_here)⟩
theorem FoundAt.plan (T : Txt K mg CV CP CF CL) (h : FoundAt CF H f b) : ∃ pa, FieldAt K H f "plan" (.ref pa) ∧ H pa = some (.lst (Ns b.plan)) := by
  obtain ⟨dx, pa, ca, h, h2, _⟩ := h
  exact ⟨pa, ⟨CF, dx, _, h, T.c_Found, T.n_Found_plan, lk_past (by decide +kernel) (lk_past (by decide +kernel) (lk_past (by decide +kernel) lk_here))⟩, h2⟩
theorem FoundAt.colours (T : Txt K mg CV CP CF CL) (h : FoundAt CF H f b) : ∃ ca, FieldAt K H f "colours" (.ref ca) ∧ H ca = some (.lst (Ns b.row)) := by
  obtain ⟨dx, pa, ca, h, _, h3⟩ := h
  exact ⟨ca, ⟨CF, dx, _, h, T.c_Found, T.n_Found_colours, lk_past (by decide +kernel) (lk_past (by decide +kernel) (lk_past (by decide +kernel) (lk_past (by decide +kernel) lk_here)))⟩, h3⟩
end
section
variable {P : Program} {w : World} {K : PySem.W.Frag} {mg : Str → Option Value} {base : Heap} {CV CP CF CL : Addr}
/-! ### searching -/
def sp_Found_init (CF : Addr) : Sp := fun vs H Q _ => ∃ (p dx : Addr) (x0 x1 x2 x3 x4 : V), vs = [.ref p, x0, x1, x2, x3, x4] ∧ H p = some (.ins CF dx []) ∧
  Q .non (upd H p (.ins CF dx [("leaves", x0), ("days", x1), ("many", x2), ("plan", x3), ("colours", x4)]))
theorem ok_Found_init (T : Txt K mg CV CP CF CL) : Makes P w K mg base 1 "Found" CF ["self", "leaves", "days", "many", "plan", "colours"] (sp_Found_init CF) := by
  refine T.m_Found.ok sc_Found_init (fun vs H Q E h => ?_) (fun f cdv A outer s H vs Q E hr h => ?_)
  · obtain ⟨p, dx, x0, x1, x2, x3, x4, rfl, _⟩ := h
    rfl
  · obtain ⟨p, dx, x0, x1, x2, x3, x4, rfl, hp, k⟩ := h
    refine ⟨_, (pss_cons (ps_fld (pv 0) (pv 1) rfl)
(pss_cons (ps_fld (pv 0) (pv 2) rfl)
(pss_cons (ps_fld (pv 0) (pv 3) rfl)
(pss_cons (ps_fld (pv 0) (pv 4) rfl)
(pss_one (ps_fld (pv 0) (pv 5) rfl)))))), ?_⟩
    refine ⟨_, rfl, _, rfl, p, CF, dx, _, rfl, hp, T.c_Found, T.n_Found_leaves, (by show 0 < 1000; decide), ?_⟩
    refine ⟨_, rfl, _, rfl, p, CF, dx, _, rfl, upd_same, T.c_Found, T.n_Found_days, (Nat.lt_of_le_of_lt (lenF (Nat.le_refl 0)) (by decide)), ?_⟩
    refine ⟨_, rfl, _, rfl, p, CF, dx, _, rfl, upd_same, T.c_Found, T.n_Found_many, (Nat.lt_of_le_of_lt (lenF (lenF (Nat.le_refl 0))) (by decide)), ?_⟩
    refine ⟨_, rfl, _, rfl, p, CF, dx, _, rfl, upd_same, T.c_Found, T.n_Found_plan, (Nat.lt_of_le_of_lt (lenF (lenF (lenF (Nat.le_refl 0)))) (by decide)), ?_⟩
    refine ⟨_, rfl, _, rfl, p, CF, dx, _, rfl, upd_same, T.c_Found, T.n_Found_colours, (Nat.lt_of_le_of_lt (lenF (lenF (lenF (lenF (Nat.le_refl 0))))) (by decide)), ?_⟩
    show Q .non _
    rw [upd_upd, upd_upd, upd_upd, upd_upd, put_Found]
    exact k
def ext (m : Nat) (r : List Nat) : List (List Nat) := (List.range (m + 1)).map fun x => r ++ [x]
def sp_rows_of : Sp := fun vs H Q _ => ∃ (n m : Nat), vs = [N n, N m] ∧ n ≤ 4 ∧ m ≤ 4 ∧ ∀ H' p, Same H H' → RowsAt H' p (Uw50.rows m n) → Q (.ref p) H'
theorem ok_rows_of (T : Txt K mg CV CP CF CL) : Keeps P w K mg base 1 "rows_of" ["count", "most"] sp_rows_of := by
  refine T.d_rows_of.ok sc_rows_of (fun vs H Q E h => ?_) (fun f cdv A outer s H vs Q E hr h => ?_)
  · obtain ⟨n, m, rfl, _⟩ := h
    rfl
  · obtain ⟨n, m, rfl, hn, hm, q⟩ := h
    refine ⟨_, (pss_cons (ps_set (i := 2) sc_rows_of.nd rfl (Or.inl rfl) (pe_lst (pa_cons (pe_lst pa_nil) pa_nil)))
(pss_cons (ps_for PassesOwn.never rfl (pi_range1 (by rfl) T.b_range (pa_cons (pv 0) pa_nil)) (pg_name (i := 3) sc_rows_of.nd rfl (Or.inl rfl))
(pss_cons (ps_set (i := 4) sc_rows_of.nd rfl (Or.inl rfl) (pe_lst pa_nil))
(pss_cons (ps_for PassesOwn.never rfl (pi_list (pv 2)) (pg_name (i := 5) sc_rows_of.nd rfl (Or.inr rfl))
(pss_one (ps_expr (pe_bm PySem.F.plainAttrs_list PySem.F.slot_list_extend PySem.F.type_list_extend mt_extend (pv 4) (pa_cons (pe_lc (own := [("number", 6)]) (g := gName 6) (tt := tYes) rfl sc_rows_of.nd (pi_range1 (by rfl) T.b_range (pa_cons (pe_op op_add (pv 1) pe_int) pa_nil)) (blkOk_by (own := [("number", 6)]) (N := nm_rows_of) (sc := defScope s_rows_of) (by decide +kernel)) (fun _ _ _ _ _ => pg_name (i := 6) sc_rows_of.nd rfl (Or.inl rfl)) (fun _ _ _ _ _ => pts_nil) (fun _ _ _ _ _ => (pe_op op_cat (pv 5) (pe_lst (pa_cons (pv 6) pa_nil))))) pa_nil)))))
(pss_one (ps_set (i := 2) sc_rows_of.nd rfl (Or.inl rfl) (pv 4))))))
(pss_one (ps_ret (pv 2))))), ?_⟩
    -- found = [[]]
    refine ⟨Nat.zero_le _, fun e0 he0 => ⟨by show 1 ≤ sizeLine; decide, fun p0 hp0 => ?_⟩⟩
    have s0 : Same H (upd (upd H e0 (.lst [])) p0 (.lst [.ref e0])) := (sm_new he0).trans (sm_new hp0)
    refine ⟨_, rfl, _, rfl, by omega, by omega, for_range (lo := 0) (n := n) (fun i σ H1 => ∃ (p : Addr) (x y z u : Option V), σ = [some (N n), some (N m), some (.ref p), x, y, z, u] ∧ Same H H1 ∧ RowsAt H1 p (rb m i)) ?_ ?_ ?_⟩
    · refine ⟨p0, _, _, _, _, rfl, s0, [(e0, [])], rfl, upd_same, fun x hx => ?_⟩
      obtain rfl := List.mem_singleton.mp hx
      show upd (upd H e0 (.lst [])) p0 (.lst [.ref e0]) e0 = some (.lst [])
      rw [upd_ne (ne_of_none (H := upd H e0 (.lst [])) upd_same hp0)]
      exact upd_same
    · rintro i σ H1 hi ⟨p, x1, y1, z1, u1, rfl, e1, ps, p1, p2, p3⟩
      -- longer = []
      refine ⟨Nat.zero_le _, fun q0 hq0 => ?_⟩
      have e2 : Same H1 (upd H1 q0 (.lst [])) := sm_new hq0
      have hpl : ps.length = (m + 1) ^ i := by
        rw [← rb_len, ← p1, List.length_map]
      refine ⟨_, rfl, p, rfl, ⟨_, SqLof (e2 _ _ p2)⟩, for_list (xs := ps.map fun x => V.ref x.1) (fun k σ H2 => ∃ (x z u : Option V) (qs : List (Addr × List Nat)), σ = [some (N n), some (N m), some (.ref p), x, some (.ref q0), z, u] ∧ Same H1 H2 ∧ qs.map (·.2) = ((rb m i).take k).flatMap (ext m) ∧ H2 q0 = some (.lst (qs.map fun x => .ref x.1)) ∧
        ∀ x ∈ qs, H2 x.1 = some (.lst (Ns x.2)) ∧ x.1 ≠ q0) ⟨_, _, _, [], rfl, e2, rfl, upd_same, fun x hx => by cases hx⟩ (fun k σ H2 _ ⟨_, _, _, _, _, e, _⟩ => SqLof (e _ _ p2)) ?_ ?_⟩
      · rintro k xv σ H2 hk ⟨x2, z2, u2, qs, rfl, e3, q1, q2, q3⟩
        obtain ⟨ra, r, hkr, rfl⟩ := refs_get hk
        have hr0 : H1 ra = some (.lst (Ns r)) := p3 _ (List.mem_of_getElem? hkr)
        have hrb : (rb m i)[k]? = some r := by
          rw [← p1, List.getElem?_map, hkr]
          rfl
        have hrl : r.length = i := (rb_row m i r (List.mem_of_getElem? hrb)).1
        -- longer.extend([row + [number] for number in range(most + 1)])
        refine ⟨_, rfl, .inl ⟨rfl, _, SqLof q2⟩, _, rfl, _, _, rfl, rfl, _, rfl, by omega, by omega, fun D hD => lc_range (lo := 0) (n := m + 1) (fun j H3 => Same H2 H3 ∧ ∃ cs : List (Addr × List Nat), cs.map (·.2) = (List.range j).map (fun x => r ++ [x]) ∧ H3 D = some (.lst (cs.map fun x => .ref x.1)) ∧ ∀ x ∈ cs, H3 x.1 = some (.lst (Ns x.2)) ∧ x.1 ≠ D ∧ H2 x.1 = none)
          ⟨sm_new hD, [], rfl, upd_same, fun x hx => by cases hx⟩ ?_ ?_⟩
        · rintro j H3 hj ⟨e4, cs, c1, c2, c3⟩
          have ez : V.int ((0 : Int) + (j : Int)) = N j := by
            show V.int _ = V.int _
            rw [Int.zero_add]
          have hcl : cs.length = j := by
            have h1 := congrArg List.length c1
            rw [List.length_map, List.length_map, List.length_range] at h1
            exact h1
          refine ⟨rfl, _, rfl, _, rfl, by show 1 ≤ sizeLine; decide, fun w1 hw1 => ?_⟩
          have e5 : Same H3 (upd H3 w1 (.lst [V.int ((0 : Int) + (j : Int))])) := sm_new hw1
          refine ⟨ra, w1, Ns r, _, rfl, rfl, e5 _ _ (e4 _ _ (e3 _ _ hr0)), upd_same, ?_, fun w2 hw2 => ?_⟩
          · rw [Ns_len, hrl]
            show i + 1 ≤ sizeLine
            exact Nat.le_trans (by omega : i + 1 ≤ 5) (by decide)
          have e6 : Same H3 (upd (upd H3 w1 (.lst [V.int ((0 : Int) + (j : Int))])) w2 (.lst (Ns r ++ [V.int ((0 : Int) + (j : Int))]))) := e5.trans (sm_new hw2)
          have hw3 : H3 w2 = none := e5.free hw2
          have nD : w2 ≠ D := (ne_of_none c2 hw3).symm
          refine ⟨_, e6 _ _ c2, ?_, sm_mut (e4.trans e6) hD, cs ++ [(w2, r ++ [j])], ?_, ?_, ?_⟩
          · rw [List.length_map, hcl]
            exact Nat.lt_of_lt_of_le (by omega : j < 5) (by decide)
          · rw [List.map_append, c1, List.range_succ, List.map_append]
            rfl
          · rw [upd_same, List.map_append]
            rfl
          · intro x hx
            rcases List.mem_append.mp hx with hx | hx
            · obtain ⟨h1, h2, h3⟩ := c3 x hx
              refine ⟨?_, h2, h3⟩
              rw [upd_ne h2]
              exact e6 _ _ h1
            · obtain rfl := List.mem_singleton.mp hx
              refine ⟨?_, nD, e4.free hw3⟩
              rw [upd_ne nD, upd_same, ez]
              show _ = some (HO.lst ((r ++ [j]).map N))
              rw [List.map_append]
              rfl
        · rintro H3 ⟨e4, cs, c1, c2, c3⟩
          have hlen : (qs ++ cs).length ≤ 625 := by
            have h1 := congrArg List.length q1
            have h2 := congrArg List.length c1
            rw [List.length_map, flatMap_len _ (m + 1) _ (fun x _ => by unfold ext; rw [List.length_map, List.length_range])] at h1
            rw [List.length_map, List.length_map, List.length_range] at h2
            have hk2 : k < (m + 1) ^ i := by
              rw [← hpl]
              exact (List.getElem?_eq_some_iff.mp hkr).1
            have h3 : ((rb m i).take k).length = k := by
              rw [List.length_take, rb_len]
              omega
            rw [h3] at h1
            rw [List.length_append, h1, h2]
            have h4 : (k + 1) * (m + 1) ≤ (m + 1) ^ (i + 1) := by
              rw [Nat.pow_succ]
              exact Nat.mul_le_mul_right _ hk2
            have h5 := pow_le hm (by omega : i + 1 ≤ 4)
            rw [Nat.succ_mul] at h4
            omega
          refine ⟨q0, D, _, _, rfl, rfl, e4 _ _ q2, c2, ?_, ?_⟩
          · rw [List.length_map, List.length_map, ← List.length_append]
            exact Nat.le_trans hlen (by decide)
          · refine ⟨_, _, _, qs ++ cs, rfl, sm_mut (e3.trans e4) hq0, ?_, ?_, ?_⟩
            · rw [flatMap_take _ hrb, List.map_append, q1, c1]
              rfl
            · rw [upd_same, List.map_append]
            · intro x hx
              rcases List.mem_append.mp hx with hx | hx
              · obtain ⟨h1, h2⟩ := q3 x hx
                refine ⟨?_, h2⟩
                rw [upd_ne h2]
                exact e4 _ _ h1
              · obtain ⟨h1, h2, h3⟩ := c3 x hx
                have hne : x.1 ≠ q0 := (ne_of_none q2 h3).symm
                refine ⟨?_, hne⟩
                rw [upd_ne hne]
                exact h1
      · rintro σ H2 ⟨x2, z2, u2, qs, rfl, e3, q1, q2, q3⟩
        refine ⟨_, rfl, q0, _, _, _, _, rfl, e1.trans e3, qs, ?_, q2, fun x hx => (q3 x hx).1⟩
        rw [q1, List.length_map, hpl, ← rb_len, List.take_length]
        rfl
    · rintro σ H1 ⟨p, x1, y1, z1, u1, rfl, e1, hR⟩
      rw [← rows_rb] at hR
      exact ⟨_, rfl, q H1 p e1 hR⟩
def sp_all_plans (CV CP : Addr) : Sp := fun vs H Q _ => ∃ (a : Addr) (v : Uw50.Vine), vs = [.ref a] ∧ VineAt CV CP H a v ∧ ∀ H' p, Same H H' → RowsAt H' p (Uw50.rows v.days v.count) → Q (.ref p) H'
theorem ok_all_plans (T : Txt K mg CV CP CF CL) : Keeps P w K mg base 2 "all_plans" ["vineyard"] (sp_all_plans CV CP) := by
  refine T.d_all_plans.ok sc_all_plans (fun vs H Q E h => ?_) (fun f cdv A outer s H vs Q E hr h => ?_)
  · obtain ⟨a, v, rfl, _⟩ := h
    rfl
  · obtain ⟨a, v, rfl, hv, q⟩ := h
    refine ⟨_, (pss_one (ps_ret (pe_callN (ok_rows_of T) (hr.mono (by decide)) rfl (pa_cons (pe_callB call_len_seq (by rfl) T.b_len boot_len (pa_cons (pe_fld (pv 0) rfl) pa_nil)) (pa_cons (pe_fld (pv 0) rfl) pa_nil))))), ?_⟩
    obtain ⟨pa, qs, F, hq, hp, hq2⟩ := hv.plots T
    refine ⟨_, rfl, ?_⟩
    apply fldV (F)
    refine ⟨pa, _, rfl, .inl (SqLof hp), ?_⟩
    refine ⟨_, rfl, ?_⟩
    apply fldV (hv.days T)
    refine ⟨v.count, v.days, ?_, hv.ok.p4, hv.ok.d4, q⟩
    show [V.int ((qs.map fun x => V.ref x.1).length : Nat), N v.days] = [N v.count, N v.days]
    rw [List.length_map, plots_len hq]
    rfl
def sp_all_colours (CV CP : Addr) : Sp := fun vs H Q _ => ∃ (a : Addr) (v : Uw50.Vine), vs = [.ref a] ∧ VineAt CV CP H a v ∧ ∀ H' p, Same H H' → RowsAt H' p (Uw50.rows 1 v.days) → Q (.ref p) H'
theorem ok_all_colours (T : Txt K mg CV CP CF CL) : Keeps P w K mg base 2 "all_colours" ["vineyard"] (sp_all_colours CV CP) := by
  refine T.d_all_colours.ok sc_all_colours (fun vs H Q E h => ?_) (fun f cdv A outer s H vs Q E hr h => ?_)
  · obtain ⟨a, v, rfl, _⟩ := h
    rfl
  · obtain ⟨a, v, rfl, hv, q⟩ := h
    refine ⟨_, (pss_one (ps_ret (pe_callN (ok_rows_of T) (hr.mono (by decide)) rfl (pa_cons (pe_fld (pv 0) rfl) (pa_cons pe_int pa_nil))))), ?_⟩
    refine ⟨_, rfl, ?_⟩
    apply fldV (hv.days T)
    exact ⟨v.days, 1, rfl, hv.ok.d4, by decide, q⟩
def sp_is_better (CF : Addr) : Sp := fun vs H Q _ => ∃ (g : Int) (n : Nat) (f : Addr) (b : Uw50.Best), vs = [.int g, N n, .ref f] ∧ FoundAt CF H f b ∧ Q (.bl (Uw50.better ⟨g, n⟩ b.good)) H
theorem ok_is_better (T : Txt K mg CV CP CF CL) : Keeps P w K mg base 1 "is_better" ["leaves", "days", "found"] (sp_is_better CF) := by
  refine T.d_is_better.ok sc_is_better (fun vs H Q E h => ?_) (fun f cdv A outer s H vs Q E hr h => ?_)
  · obtain ⟨g, n, f, b, rfl, _⟩ := h
    rfl
  · obtain ⟨g, n, f, b, rfl, hf, q⟩ := h
    refine ⟨_, (pss_one (ps_ret (pe_or (pe_cmpR op_gt (pv 0) (pe_fld (pv 2) rfl) (nomark _)) (pe_one (pe_and (pe_cmpR op_eq (pv 0) (pe_fld (pv 2) rfl) (nomark _)) (pe_one (pe_cmpR op_lt (pv 1) (pe_fld (pv 2) rfl) (nomark _)))))))), ?_⟩
    refine ⟨_, rfl, ?_⟩
    refine ⟨_, rfl, ?_⟩
    apply fldV (hf.leaves T)
    refine ⟨_, _, rfl, rfl, _, rfl, ite2 (fun c => ?_) (fun c => ?_)⟩
    · have c1 : b.good.gain < g := of_decide_eq_true c
      refine qv q (congrArg V.bl ?_)
      unfold Uw50.better
      rw [decide_eq_true c1]
      rfl
    · have c1 : ¬ b.good.gain < g := fun h => c (decide_eq_true h)
      refine ⟨_, rfl, ?_⟩
      refine ⟨_, rfl, ?_⟩
      apply fldV (hf.leaves T)
      refine ⟨rfl, _, rfl, ite2 (fun c2 => ?_) (fun c2 => ?_)⟩
      · have c3 : g = b.good.gain := by
          have h := of_decide_eq_true c2
          injection h
        refine ⟨_, rfl, ?_⟩
        refine ⟨_, rfl, ?_⟩
        apply fldV (hf.days T)
        refine ⟨_, _, rfl, rfl, ?_⟩
        refine qv q (congrArg V.bl ?_)
        unfold Uw50.better
        rw [decide_eq_false c1, Bool.false_or, show ((⟨g, n⟩ : Uw50.Good).gain == b.good.gain) = true from beq_iff_eq.mpr c3, Bool.true_and]
        by_cases h : n < b.good.picking
        · rw [decide_eq_true h, decide_eq_true (Int.ofNat_lt.mpr h)]
        · rw [decide_eq_false h, decide_eq_false (fun z => h (Int.ofNat_lt.mp z))]
      · have c3 : ¬ g = b.good.gain := fun h => c2 (decide_eq_true (congrArg V.int h))
        refine qv q (congrArg V.bl ?_)
        unfold Uw50.better
        rw [decide_eq_false c1, Bool.false_or, show ((⟨g, n⟩ : Uw50.Good).gain == b.good.gain) = false from beq_eq_false_iff_ne.mpr c3]
        rfl
def sp_is_as_good (CF : Addr) : Sp := fun vs H Q _ => ∃ (g : Int) (n : Nat) (f : Addr) (b : Uw50.Best), vs = [.int g, N n, .ref f] ∧ FoundAt CF H f b ∧ Q (.bl (decide ((⟨g, n⟩ : Uw50.Good) = b.good))) H
theorem ok_is_as_good (T : Txt K mg CV CP CF CL) : Keeps P w K mg base 1 "is_as_good" ["leaves", "days", "found"] (sp_is_as_good CF) := by
  refine T.d_is_as_good.ok sc_is_as_good (fun vs H Q E h => ?_) (fun f cdv A outer s H vs Q E hr h => ?_)
  · obtain ⟨g, n, f, b, rfl, _⟩ := h
    rfl
  · obtain ⟨g, n, f, b, rfl, hf, q⟩ := h
    refine ⟨_, (pss_one (ps_ret (pe_and (pe_cmpR op_eq (pv 0) (pe_fld (pv 2) rfl) (nomark _)) (pe_one (pe_cmpR op_eq (pv 1) (pe_fld (pv 2) rfl) (nomark _)))))), ?_⟩
    refine ⟨_, rfl, ?_⟩
    refine ⟨_, rfl, ?_⟩
    apply fldV (hf.leaves T)
    refine ⟨rfl, _, rfl, ite2 (fun c2 => ?_) (fun c2 => ?_)⟩
    · have c3 : g = b.good.gain := by
        have h := of_decide_eq_true c2
        injection h
      refine ⟨_, rfl, ?_⟩
      refine ⟨_, rfl, ?_⟩
      apply fldV (hf.days T)
      refine ⟨rfl, ?_⟩
      refine qv q (congrArg V.bl ?_)
      by_cases h : n = b.good.picking
      · rw [decide_eq_true (show N n = N b.good.picking from congrArg N h), decide_eq_true]
        rw [c3, h]
      · rw [decide_eq_false (fun z : N n = N b.good.picking => h (N_inj z)), decide_eq_false]
        intro z
        exact h (congrArg Uw50.Good.picking z)
    · have c3 : ¬ g = b.good.gain := fun h => c2 (decide_eq_true (congrArg V.int h))
      refine qv q (congrArg V.bl ?_)
      rw [decide_eq_false]
      intro z
      exact c3 (congrArg Uw50.Good.gain z)
end
end Vh

set_option Elab.async false
set_option linter.all false
set_option maxRecDepth 100000
set_option maxHeartbeats 4000000
namespace Vh
open PySem PySem.Spec PyProof.Rows L2 VhM
section
variable {P : Program} {w : World} {K : PySem.W.Frag} {mg : Str → Option Value} {base : Heap} {CV CP CF CL : Addr}
theorem told_len {v : Uw50.Vine} {l : List Nat} (h : v.told l = true) : l.length = v.count ∧ ∀ d ∈ l, d ≤ v.days := by
  unfold Uw50.Vine.told at h
  rw [Bool.and_eq_true, List.all_eq_true] at h
  exact ⟨beq_iff_eq.mp h.1, fun k hk => of_decide_eq_true (h.2 k hk)⟩
theorem optN_some {o : Option Nat} (h : o.isSome = true) : ¬ optN o = V.non := by
  cases o with
  | none => cases h
  | some n =>
    intro z
    cases z
def sp_with_plan (CV CP CF : Addr) : Sp := fun vs H Q _ => ∃ (a c s : Addr) (x : V) (v : Uw50.Vine) (fb : Option Uw50.Best) (l : List Nat) (rs : List (List Nat)), vs = [.ref a, x, .ref c, .ref s] ∧ VineAt CV CP H a v ∧ OF CF H x fb ∧ H c = some (.lst (Ns l)) ∧ l.length = v.count ∧
  RowsAt H s rs ∧ (∀ r ∈ rs, v.coloured r = true) ∧ rs.length ≤ 1000 ∧ ∀ H' y, Same H H' → OF CF H' y (withPlan v rs fb l) → Q y H'
/-- making a Found of the first of some rows -/
theorem new_found {v : Uw50.Vine} {H : Hp} {x dx pa ca : Addr} {g : Uw50.Good} {m : Nat} {l r : List Nat} (hx : H x = none) (hd : H dx = none) (hp : H pa = some (.lst (Ns l))) (hc : H ca = some (.lst (Ns r))) :
    Same H (upd (upd (upd H dx (.own x)) x (.ins CF dx [])) x (.ins CF dx [("leaves", V.int g.gain), ("days", N g.picking), ("many", N m), ("plan", .ref pa), ("colours", .ref ca)])) ∧
    OF CF (upd (upd (upd H dx (.own x)) x (.ins CF dx [])) x (.ins CF dx [("leaves", V.int g.gain), ("days", N g.picking), ("many", N m), ("plan", .ref pa), ("colours", .ref ca)])) (.ref x) (some ⟨g, m, l, r⟩) := by
  have e : Same H (upd (upd (upd H dx (.own x)) x (.ins CF dx [])) x (.ins CF dx [("leaves", V.int g.gain), ("days", N g.picking), ("many", N m), ("plan", .ref pa), ("colours", .ref ca)])) := sm_mut (made hx hd) hx
  exact ⟨e, x, rfl, dx, pa, ca, upd_same, e _ _ hp, e _ _ hc⟩
theorem ok_with_plan (T : Txt K mg CV CP CF CL) : Keeps P w K mg base 4 "with_plan" ["vineyard", "found", "plan", "some"] (sp_with_plan CV CP CF) := by
  refine T.d_with_plan.ok sc_with_plan (fun vs H Q E h => ?_) (fun f cdv A outer s H vs Q E hr h => ?_)
  · obtain ⟨a, c, s, x, v, fb, l, rs, rfl, _⟩ := h
    rfl
  · obtain ⟨a, c, s, x, v, fb, l, rs, rfl, hv, hf, hc, hn, hR, hcol, hz, q⟩ := h
    refine ⟨_, (pss_cons (ps_set (i := 4) sc_with_plan.nd rfl (Or.inl rfl) (pe_callN (ok_picked_by T) (hr.mono (by decide)) rfl (pa_cons (pv 0) (pa_cons (pv 2) pa_nil))))
(pss_cons (ps_if (pt_cmpR op_notN (pe_callN (ok_first_full_day T) (hr.mono (by decide)) rfl (pa_cons (pv 0) (pa_cons (pv 4) pa_nil))) pe_non (nomark _))
(pss_one (ps_ret (pv 1)))
pss_nil)
(pss_cons (ps_set (i := 5) sc_with_plan.nd rfl (Or.inl rfl) (pe_callN (ok_days_picked T) (hr.mono (by decide)) rfl (pa_cons (pv 4) pa_nil)))
(pss_cons (ps_set (i := 6) sc_with_plan.nd rfl (Or.inl rfl) (pe_op op_sub (pe_callN (ok_earned T) (hr.mono (by decide)) rfl (pa_cons (pv 0) (pa_cons (pv 2) pa_nil))) (pe_op op_mul (pe_fld (pv 0) rfl) (pv 5))))
(pss_cons (ps_if (PW.pt (pw_and (pt_cmpR op_notN (pv 1) pe_non (nomark _)) (pw_and (pt_not (pt_val (pe_callN (ok_is_better T) (hr.mono (by decide)) rfl (pa_cons (pv 6) (pa_cons (pv 5) (pa_cons (pv 1) pa_nil)))))) (pw_and1 (pt_not (pt_val (pe_callN (ok_is_as_good T) (hr.mono (by decide)) rfl (pa_cons (pv 6) (pa_cons (pv 5) (pa_cons (pv 1) pa_nil))))))))))
(pss_one (ps_ret (pv 1)))
pss_nil)
(pss_cons (ps_set (i := 7) sc_with_plan.nd rfl (Or.inl rfl) (pe_callN (ok_right_ones T) (hr.mono (by decide)) rfl (pa_cons (pv 0) (pa_cons (pv 4) (pa_cons (pv 3) pa_nil)))))
(pss_cons (ps_if (pt_cmpR op_eq (pe_callB call_len_seq (by rfl) T.b_len boot_len (pa_cons (pv 7) pa_nil)) pe_int (nomark _))
(pss_one (ps_ret (pv 1)))
pss_nil)
(pss_cons (ps_if (PW.pt (pw_or (pt_cmpR op_isN (pv 1) pe_non (nomark _)) (pw_or1 (pt_val (pe_callN (ok_is_better T) (hr.mono (by decide)) rfl (pa_cons (pv 6) (pa_cons (pv 5) (pa_cons (pv 1) pa_nil))))))))
(pss_one (ps_ret (pe_makeN (ok_Found_init T) (hr.mono (by decide)) rfl (pa_cons (pv 6) (pa_cons (pv 5) (pa_cons (pe_callB call_len_seq (by rfl) T.b_len boot_len (pa_cons (pv 7) pa_nil)) (pa_cons (pv 2) (pa_cons (pe_ix ix_list (pv 7) pe_int (fun _ _ => rfl)) pa_nil))))))))
pss_nil)
(pss_one (ps_ret (pe_makeN (ok_Found_init T) (hr.mono (by decide)) rfl (pa_cons (pv 6) (pa_cons (pv 5) (pa_cons (pe_op op_add (pe_fld (pv 1) rfl) (pe_callB call_len_seq (by rfl) T.b_len boot_len (pa_cons (pv 7) pa_nil))) (pa_cons (pe_fld (pv 1) rfl) (pa_cons (pe_fld (pv 1) rfl) pa_nil)))))))))))))))), ?_⟩
    -- picked = picked_by(vineyard, plan)
    refine ⟨_, rfl, _, rfl, a, c, v, l, rfl, hv, hc, hn, fun H1 p e1 hp => ?_⟩
    -- if first_full_day(vineyard, picked) is not None: return found
    refine ⟨_, rfl, _, rfl, a, p, v, l, rfl, hv.mono e1, hp, fun H2 e2 => ⟨rfl, _, rfl, ?_⟩⟩
    have e12 : Same H H2 := e1.trans e2
    by_cases hbd : (v.badDay l).isSome = true
    · refine iteNN (optN_some hbd) ⟨_, rfl, q _ _ e12 ?_⟩
      unfold withPlan
      rw [if_pos hbd]
      exact hf.mono e12
    have hbn : optN (v.badDay l) = V.non := by
      cases hb : v.badDay l with
      | none => rfl
      | some d =>
        rw [hb] at hbd
        exact absurd rfl hbd
    refine iteNS hbn ?_
    -- days = days_picked(picked)
    refine ⟨_, rfl, p, _, rfl, hp.mono e2, by rw [picks_len]; exact hv.ok.d4, fun H3 e3 => ?_⟩
    have e13 : Same H H3 := e12.trans e3
    -- leaves = earned(vineyard, plan) - vineyard.cost * days
    refine ⟨_, rfl, _, rfl, a, c, v, l, rfl, hv.mono e13, e13 _ _ hc, hn, fun H4 e4 => ?_⟩
    have e14 : Same H H4 := e13.trans e4
    have hcr := hv.ok.crew
    refine ⟨_, rfl, ?_⟩
    apply fldV ((hv.mono e14).cost T)
    refine ⟨_, rfl, _, _, rfl, rfl, .inl ⟨by omega, by omega⟩, _, _, rfl, rfl, ?_⟩
    rw [picking_picks]
    have hG : (⟨(v.earns l : Int) - (v.crew : Int) * (v.picking l : Int), v.picking l⟩ : Uw50.Good) = v.goodOf l := by
      unfold Uw50.Vine.goodOf Uw50.Vine.costs
      rw [Int.natCast_mul]
    have hf4 : OF CF H4 x fb := hf.mono e14
    cases hfb : fb with
    | none =>
      rw [hfb] at hf4
      obtain rfl : x = V.non := hf4
      refine ⟨_, rfl, rfl, _, rfl, iteNS rfl (iteF ?_)⟩
      -- right = right_ones(vineyard, picked, some)
      refine ⟨_, rfl, _, rfl, _, rfl, a, p, s, v, l, rs, rfl, hv.mono e14, hp.mono ((e2.trans e3).trans e4), hR.mono e14, hcol, hz, fun H5 p2 e5 hRR => ?_⟩
      have e15 : Same H H5 := e14.trans e5
      obtain ⟨ps, r1, r2, r3⟩ := hRR
      refine ⟨_, rfl, p2, _, rfl, .inl (SqLof r2), rfl, _, rfl, ?_⟩
      cases ps with
      | nil =>
        refine iteD rfl ⟨_, rfl, q _ _ e15 ?_⟩
        unfold withPlan
        rw [hfb, if_neg hbd, ← r1]
        rfl
      | cons z zs =>
        have hne : ¬ V.int (((z :: zs).map fun x => V.ref x.1).length : Nat) = V.int 0 := by
          intro h
          injection h with h
          rw [List.length_map, List.length_cons] at h
          omega
        refine iteDN hne ?_
        refine ⟨_, rfl, rfl, _, rfl, iteD rfl (iteT ?_)⟩
        refine ⟨_, rfl, _, rfl, _, rfl, p2, _, rfl, .inl (SqLof r2), _, rfl, _, rfl, p2, _, _, _, rfl, rfl, SqLof r2, atI_nat (j := 0) rfl, fun xa dx hxa hdx _ => ⟨xa, dx, _, _, _, _, _, rfl, upd_same, rfl, ?_⟩⟩
        have hz1 := r3 z List.mem_cons_self
        obtain ⟨k1, k2⟩ := new_found (CF := CF) (v := v) (g := v.goodOf l) (m := (z :: zs).length) (x := xa) (dx := dx) hxa hdx (e15 _ _ hc) hz1
        have hw : withPlan v rs fb l = some ⟨v.goodOf l, (z :: zs).length, l, z.2⟩ := by
          unfold withPlan
          rw [hfb, if_neg hbd, ← r1]
          show some (⟨v.goodOf l, ((z :: zs).map (·.2)).length, l, z.2⟩ : Uw50.Best) = _
          rw [List.length_map]
        rw [hw] at q
        have hq := q _ _ (e15.trans k1) k2
        rw [← hG] at hq
        rw [List.length_map]
        exact hq
    | some b =>
      rw [hfb] at hf4
      obtain ⟨f0, rfl, hF⟩ := hf4
      refine ⟨_, rfl, rfl, _, rfl, iteNN ref_non ?_⟩
      refine ⟨_, rfl, _, rfl, _, rfl, _, _, f0, b, rfl, hF, _, rfl, ?_⟩
      rw [hG]
      cases hbt : Uw50.better (v.goodOf l) b.good with
      | true =>
        refine iteF ?_
        -- right = right_ones(vineyard, picked, some)
        refine ⟨_, rfl, _, rfl, _, rfl, a, p, s, v, l, rs, rfl, hv.mono e14, hp.mono ((e2.trans e3).trans e4), hR.mono e14, hcol, hz, fun H5 p2 e5 hRR => ?_⟩
        have e15 : Same H H5 := e14.trans e5
        obtain ⟨ps, r1, r2, r3⟩ := hRR
        refine ⟨_, rfl, p2, _, rfl, .inl (SqLof r2), rfl, _, rfl, ?_⟩
        cases ps with
        | nil =>
          refine iteD rfl ⟨_, rfl, q _ _ e15 ?_⟩
          unfold withPlan
          rw [hfb, if_neg hbd, ← r1]
          show OF CF H5 (V.ref f0) (if Uw50.better (v.goodOf l) b.good = true then some b else _)
          rw [if_pos hbt]
          exact ⟨f0, rfl, hF.mono e5⟩
        | cons z zs =>
          have hne : ¬ V.int (((z :: zs).map fun x => V.ref x.1).length : Nat) = V.int 0 := by
            intro h
            injection h with h
            rw [List.length_map, List.length_cons] at h
            omega
          refine iteDN hne ?_
          refine ⟨_, rfl, rfl, _, rfl, iteDN ref_non ?_⟩
          refine ⟨_, rfl, _, rfl, _, rfl, _, _, f0, b, rfl, hF.mono e5, _, rfl, ?_⟩
          rw [hG]
          refine iteB hbt ?_
          refine ⟨_, rfl, _, rfl, _, rfl, p2, _, rfl, .inl (SqLof r2), _, rfl, _, rfl, p2, _, _, _, rfl, rfl, SqLof r2, atI_nat (j := 0) rfl, fun xa dx hxa hdx _ => ⟨xa, dx, _, _, _, _, _, rfl, upd_same, rfl, ?_⟩⟩
          have hz1 := r3 z List.mem_cons_self
          obtain ⟨k1, k2⟩ := new_found (CF := CF) (v := v) (g := v.goodOf l) (m := (z :: zs).length) (x := xa) (dx := dx) hxa hdx (e15 _ _ hc) hz1
          have hw : withPlan v rs fb l = some ⟨v.goodOf l, (z :: zs).length, l, z.2⟩ := by
            unfold withPlan
            rw [hfb, if_neg hbd, ← r1]
            show (if Uw50.better (v.goodOf l) b.good = true then some (⟨v.goodOf l, ((z :: zs).map (·.2)).length, l, z.2⟩ : Uw50.Best) else _) = _
            rw [if_pos hbt, List.length_map]
          rw [hw] at q
          have hq := q _ _ (e15.trans k1) k2
          rw [← hG] at hq
          rw [List.length_map]
          exact hq
      | false =>
        refine ⟨_, rfl, _, rfl, _, rfl, _, _, f0, b, rfl, hF, _, rfl, ?_⟩
        rw [hG]
        by_cases hgd : v.goodOf l = b.good
        · rw [decide_eq_true hgd]
          refine iteF ?_
          refine ⟨_, rfl, _, rfl, _, rfl, a, p, s, v, l, rs, rfl, hv.mono e14, hp.mono ((e2.trans e3).trans e4), hR.mono e14, hcol, hz, fun H5 p2 e5 hRR => ?_⟩
          have e15 : Same H H5 := e14.trans e5
          obtain ⟨ps, r1, r2, r3⟩ := hRR
          have hw : withPlan v rs fb l = some { b with many := b.many + ps.length } := by
            unfold withPlan
            rw [hfb, if_neg hbd, ← r1]
            show (if Uw50.better (v.goodOf l) b.good = true then _ else if v.goodOf l = b.good then some { b with many := b.many + (ps.map fun x : Addr × List Nat => x.2).length } else _) = _
            rw [hbt, if_neg Bool.false_ne_true, if_pos hgd, List.length_map]
          rw [hw] at q
          refine ⟨_, rfl, p2, _, rfl, .inl (SqLof r2), rfl, _, rfl, ?_⟩
          cases ps with
          | nil =>
            refine iteD rfl ⟨_, rfl, q _ _ e15 ?_⟩
            exact ⟨f0, rfl, hF.mono e5⟩
          | cons z zs =>
            have hne : ¬ V.int (((z :: zs).map fun x => V.ref x.1).length : Nat) = V.int 0 := by
              intro h
              injection h with h
              rw [List.length_map, List.length_cons] at h
              omega
            refine iteDN hne ?_
            refine ⟨_, rfl, rfl, _, rfl, iteDN ref_non ?_⟩
            refine ⟨_, rfl, _, rfl, _, rfl, _, _, f0, b, rfl, hF.mono e5, _, rfl, ?_⟩
            rw [hG]
            refine iteBF hbt ?_
            have hF5 := hF.mono e5
            obtain ⟨pa, FP, hpa⟩ := hF5.plan T
            obtain ⟨ca, FC, hca⟩ := hF5.colours T
            refine ⟨_, rfl, _, rfl, ?_⟩
            refine ⟨_, rfl, ?_⟩
            apply fldV (hF5.many T)
            refine ⟨_, rfl, p2, _, rfl, .inl (SqLof r2), _, _, rfl, rfl, ?_⟩
            refine ⟨_, rfl, ?_⟩
            apply fldV (FP)
            refine ⟨_, rfl, ?_⟩
            apply fldV (FC)
            refine fun xa dx hxa hdx _ => ⟨xa, dx, _, _, _, _, _, rfl, upd_same, rfl, ?_⟩
            obtain ⟨k1, k2⟩ := new_found (CF := CF) (v := v) (g := b.good) (m := b.many + (z :: zs).length) (x := xa) (dx := dx) hxa hdx hpa hca
            have hq := q _ _ (e15.trans k1) k2
            rw [← hgd, ← hG] at hq
            rw [List.length_map]
            exact hq
        · rw [decide_eq_false hgd]
          refine iteT ⟨_, rfl, q _ _ e14 ?_⟩
          unfold withPlan
          rw [hfb, if_neg hbd]
          show OF CF H4 (V.ref f0) (if Uw50.better (v.goodOf l) b.good = true then _ else if v.goodOf l = b.good then _ else some b)
          rw [hbt, if_neg Bool.false_ne_true, if_neg hgd]
          exact ⟨f0, rfl, hF⟩
end
end Vh

set_option Elab.async false
set_option linter.all false
set_option maxRecDepth 100000
set_option maxHeartbeats 4000000
namespace Vh
open PySem PySem.Spec PyProof.Rows L2 VhM
/-! ### lists of numbers compared -/
def dat (l : List Nat) : List PyData := l.map fun n : Nat => .int (n : Int)
theorem dat_dp {K : PySem.W.Frag} {H : Hp} : ∀ l : List Nat, DpAll K H (Ns l) (dat l)
  | [] => .nil
  | _ :: r => .cons (.int _) (dat_dp r)
theorem dat_lay : ∀ l : List Nat, PyData.canLayAll0 (dat l) = true
  | [] => by rw [show dat [] = [] from rfl, PyData.canLayAll0]
  | n :: r => by
    rw [show dat (n :: r) = .int (n : Int) :: dat r from rfl, PyData.canLayAll0, PyData.canLay0, dat_lay r]
    rfl
theorem dat_depth : ∀ l : List Nat, PyData.depthAll (dat l) = 0
  | [] => by rw [show dat [] = [] from rfl, PyData.depthAll]
  | n :: r => by
    rw [show dat (n :: r) = .int (n : Int) :: dat r from rfl, PyData.depthAll, PyData.depth, dat_depth r]
    rfl
theorem dat_shaped (l : List Nat) : SeqAt.shaped (.list (dat l)) = true := by
  unfold SeqAt.shaped
  rw [PyData.canLay0, dat_lay, PyData.depth, dat_depth]
  rfl
theorem dat_eqv : ∀ l m : List Nat, PyData.eqvAll (dat l) (dat m) = (l == m)
  | [], [] => by rw [show dat [] = [] from rfl, PyData.eqvAll]; rfl
  | [], b :: m => by rw [show dat [] = [] from rfl, show dat (b :: m) = .int (b : Int) :: dat m from rfl, PyData.eqvAll]; rfl
  | a :: l, [] => by rw [show dat [] = [] from rfl, show dat (a :: l) = .int (a : Int) :: dat l from rfl, PyData.eqvAll]; rfl
  | a :: l, b :: m => by
    rw [show dat (a :: l) = .int (a : Int) :: dat l from rfl, show dat (b :: m) = .int (b : Int) :: dat m from rfl, PyData.eqvAll, PyData.eqv, dat_eqv l m, List.cons_beq_cons]
    congr 1
    by_cases h : a = b
    · rw [h, beq_self_eq_true, beq_self_eq_true]
    · rw [beq_eq_false_iff_ne.mpr h, beq_eq_false_iff_ne.mpr (fun z : (a : Int) = (b : Int) => h (Int.ofNat.inj z))]
theorem cut_take (l : List Nat) (t : Nat) : cutV (Ns l) none (some (t : Int)) = Ns (l.take t) := by
  unfold cutV
  rw [HT.sIx_none, show HT.sIx (Ns l).length (Ns l).length (some (t : Int)) = min t (Ns l).length from HT.sIx_nat _ _ t, List.drop_zero, Nat.sub_zero]
  show (l.map N).take (min t (Ns l).length) = (l.take t).map N
  rw [List.map_take]
  show (l.map N).take (min t (l.map N).length) = (l.map N).take t
  generalize l.map N = xs
  by_cases h : t ≤ xs.length
  · rw [Nat.min_eq_left h]
  · rw [Nat.min_eq_right (by omega), List.take_of_length_le (by omega), List.take_of_length_le (by omega)]
section
variable {P : Program} {w : World} {K : PySem.W.Frag} {mg : Str → Option Value} {base : Heap} {CV CP CF CL : Addr}
def sp_best_of (CV CP CF : Addr) : Sp := fun vs H Q _ => ∃ (a c s : Addr) (v : Uw50.Vine) (ls rs : List (List Nat)), vs = [.ref a, .ref c, .ref s] ∧ VineAt CV CP H a v ∧ RowsAt H c ls ∧ (∀ l ∈ ls, l.length = v.count) ∧
  RowsAt H s rs ∧ (∀ r ∈ rs, v.coloured r = true) ∧ rs.length ≤ 1000 ∧ ∀ H' y, Same H H' → OF CF H' y (bestFold v rs ls) → Q y H'
theorem ok_best_of (T : Txt K mg CV CP CF CL) : Keeps P w K mg base 5 "best_of" ["vineyard", "plans", "some"] (sp_best_of CV CP CF) := by
  refine T.d_best_of.ok sc_best_of (fun vs H Q E h => ?_) (fun f cdv A outer s H vs Q E hr h => ?_)
  · obtain ⟨a, c, s, v, ls, rs, rfl, _⟩ := h
    rfl
  · obtain ⟨a, c, s, v, ls, rs, rfl, hv, ⟨ps, p1, p2, p3⟩, hn, hR, hcol, hz, q⟩ := h
    refine ⟨_, (pss_cons (ps_set (i := 3) sc_best_of.nd rfl (Or.inl rfl) pe_non)
(pss_cons (ps_for PassesOwn.never rfl (pi_list (pv 1)) (pg_name (i := 4) sc_best_of.nd rfl (Or.inl rfl))
(pss_one (ps_if (pt_cmpR op_isN (pe_callN (ok_first_wrong_plot T) (hr.mono (by decide)) rfl (pa_cons (pv 0) (pa_cons (pv 4) pa_nil))) pe_non (nomark _))
(pss_one (ps_set (i := 3) sc_best_of.nd rfl (Or.inl rfl) (pe_callN (ok_with_plan T) (hr.mono (by decide)) rfl (pa_cons (pv 0) (pa_cons (pv 3) (pa_cons (pv 4) (pa_cons (pv 2) pa_nil)))))))
pss_nil)))
(pss_one (ps_ret (pv 3))))), ?_⟩
    refine ⟨_, rfl, c, rfl, ⟨_, SqLof p2⟩, for_list (xs := ps.map fun x => V.ref x.1) (fun i σ H1 => ∃ (x : V) (y : Option V), σ = [some (.ref a), some (.ref c), some (.ref s), some x, y] ∧ Same H H1 ∧ OF CF H1 x (bestFold v rs (ls.take i))) ⟨_, _, rfl, Same.refl _, rfl⟩ (fun i σ H1 _ ⟨_, _, _, e, _⟩ => SqLof (e _ _ p2)) ?_ ?_⟩
    · rintro i xx σ H1 hi ⟨x, y, rfl, e1, hf⟩
      obtain ⟨la, l, hil, rfl⟩ := refs_get hi
      have hl0 : H la = some (.lst (Ns l)) := p3 _ (List.mem_of_getElem? hil)
      have hli : ls[i]? = some l := by
        rw [← p1, List.getElem?_map, hil]
        rfl
      have hll := hn l (List.mem_of_getElem? hli)
      have hstep : bestFold v rs (ls.take (i + 1)) = if (v.badPlot l).isNone = true then withPlan v rs (bestFold v rs (ls.take i)) l else bestFold v rs (ls.take i) := by
        unfold bestFold
        rw [take_more hli, List.foldl_append]
        rfl
      refine ⟨_, rfl, _, rfl, a, la, v, l, rfl, hv.mono e1, e1 _ _ hl0, hll, fun H2 e2 => ⟨rfl, _, rfl, ?_⟩⟩
      cases hb : v.badPlot l with
      | none =>
        refine iteD rfl ?_
        refine ⟨_, rfl, _, rfl, _, rfl, _, rfl, a, la, s, x, v, _, l, rs, rfl, hv.mono (e1.trans e2), hf.mono e2, (e1.trans e2) _ _ hl0, hll, hR.mono (e1.trans e2), hcol, hz, fun H3 y3 e3 hf3 => ?_⟩
        refine ⟨_, _, rfl, (e1.trans e2).trans e3, ?_⟩
        rw [hstep, hb]
        exact hf3
      | some d =>
        refine iteDN (by intro z; cases z) ⟨_, _, rfl, e1.trans e2, ?_⟩
        rw [hstep, hb]
        exact hf.mono e2
    · rintro σ H1 ⟨x, y, rfl, e1, hf⟩
      refine ⟨_, rfl, q H1 x e1 ?_⟩
      rw [List.length_map, show ps.length = ls.length by rw [← p1, List.length_map], List.take_length] at hf
      exact hf
def sp_goes_on : Sp := fun vs H Q _ => ∃ (b c : Addr) (v : Uw50.Vine) (t : Nat) (l m : List Nat), vs = [.ref b, .ref c, N t] ∧ H b = some (.lst (Ns m)) ∧ H c = some (.lst (Ns l)) ∧ m.length = v.count ∧ l.length = v.count ∧ ∀ H', Same H H' → Q (.bl (goesB v t l m)) H'
theorem ok_goes_on (T : Txt K mg CV CP CF CL) : Keeps P w K mg base 1 "goes_on" ["plan", "told", "day"] sp_goes_on := by
  refine T.d_goes_on.ok sc_goes_on (fun vs H Q E h => ?_) (fun f cdv A outer s H vs Q E hr h => ?_)
  · obtain ⟨b, c, v, t, l, m, rfl, _⟩ := h
    rfl
  · obtain ⟨b, c, v, t, l, m, rfl, hm, hl, hml, hll, q⟩ := h
    refine ⟨_, (pss_cons (ps_for PassesOwn.never rfl (pi_zip (by rfl) T.b_zip (pa_cons (pv 0) (pa_cons (pv 1) pa_nil))) (pg_tup rfl (pgs_cons (pg_name (i := 3) sc_goes_on.nd rfl (Or.inl rfl)) (pgs_cons (pg_name (i := 4) sc_goes_on.nd rfl (Or.inl rfl)) pgs_nil)))
(pss_one (ps_if (PW.pt (pw_or (PW.pt (pw_and (pt_cmpR op_lt (pv 4) (pv 2) (nomark _)) (pw_and1 (pt_cmpR op_ne (pv 3) (pv 4) (nomark _))))) (pw_or1 (PW.pt (pw_and (pt_cmpR op_ge (pv 4) (pv 2) (nomark _)) (pw_and1 (pt_cmpR op_lt (pv 3) (pv 2) (nomark _))))))))
(pss_one (ps_ret pe_bl))
pss_nil)))
(pss_one (ps_ret pe_bl))), ?_⟩
    have goodI : ∀ i, Bool := fun i => if v.on l i < t then v.on m i == v.on l i else decide (t ≤ v.on m i)
    refine ⟨_, rfl, _, rfl, b, c, _, _, rfl, SqLof hm, SqLof hl, for_zip2 (xs := Ns m) (ys := Ns l) (by rw [Ns_len, Ns_len, hml, hll]) (fun n σ H1 => ∃ x y, σ = [some (.ref b), some (.ref c), some (N t), x, y] ∧ Same H H1 ∧ ∀ j, j < n → (if v.on l j < t then v.on m j == v.on l j else decide (t ≤ v.on m j)) = true) ⟨_, _, rfl, Same.refl _, fun j hj => absurd hj (Nat.not_lt_zero _)⟩ ?_ ?_ ?_⟩
    · rintro n σ H1 ⟨_, _, _, e, _⟩
      exact ⟨e.seq (SqLof hm), e.seq (SqLof hl)⟩
    · rintro n x y σ H1 H2 hx hy ⟨x1, y1, rfl, e1, hj⟩ e2
      obtain ⟨mi, hmi, rfl⟩ := Ns_get hx
      obtain ⟨li, hli, rfl⟩ := Ns_get hy
      have e : Same H H2 := e1.trans e2
      have onm : v.on m n = mi := on_at hmi
      have onl : v.on l n = li := on_at hli
      have hnc : n < v.count := by
        rw [← hml]
        exact (List.getElem?_eq_some_iff.mp hmi).1
      have bad : (if li < t then mi == li else decide (t ≤ mi)) = false → goesB v t l m = false := fun h => all_false hnc (by rw [onm, onl]; exact h)
      have good : (if li < t then mi == li else decide (t ≤ mi)) = true → ∀ j, j < n + 1 → (if v.on l j < t then v.on m j == v.on l j else decide (t ≤ v.on m j)) = true := fun h j hj2 => by
        by_cases z : j = n
        · rw [z, onm, onl]
          exact h
        · exact hj j (by omega)
      refine ⟨_, rfl, _, rfl, _, _, rfl, rfl, _, rfl, ite2 (fun c1 => ?_) (fun c1 => ?_)⟩
      · have h1 : li < t := dN c1
        refine ⟨_, rfl, _, rfl, rfl, _, rfl, ?_⟩
        by_cases h2 : mi = li
        · refine iteBF (show (!decide (N mi = N li)) = false by rw [decide_eq_true (congrArg N h2)]; rfl) ?_
          refine ⟨_, rfl, _, rfl, _, _, rfl, rfl, _, rfl, iteDN (fun z : (t : Int) ≤ (li : Int) => by omega) (iteF ⟨_, _, rfl, e, good ?_⟩)⟩
          rw [if_pos h1, h2]
          exact beq_self_eq_true _
        · refine iteB (show (!decide (N mi = N li)) = true by rw [decide_eq_false (fun z => h2 (N_inj z))]; rfl) (iteT (qv (q _ e) (congrArg V.bl ?_)))
          rw [bad]
          rw [if_pos h1]
          exact beq_eq_false_iff_ne.mpr h2
      · have h1 : ¬ li < t := dNf c1
        refine iteF ?_
        refine ⟨_, rfl, _, rfl, _, _, rfl, rfl, _, rfl, iteD (show (t : Int) ≤ (li : Int) by omega) ?_⟩
        refine ⟨_, rfl, _, rfl, _, _, rfl, rfl, _, rfl, ite2 (fun c2 => ?_) (fun c2 => ?_)⟩
        · have h2 : mi < t := dN c2
          refine qv (q _ e) (congrArg V.bl ?_)
          rw [bad]
          rw [if_neg h1]
          exact decide_eq_false (by omega)
        · have h2 : ¬ mi < t := dNf c2
          refine ⟨_, _, rfl, e, good ?_⟩
          rw [if_neg h1]
          exact decide_eq_true (by omega)
    · rintro σ H1 ⟨x1, y1, rfl, e1, hj⟩
      refine qv (q _ e1) (congrArg V.bl ?_)
      rw [Ns_len, hml] at hj
      unfold goesB
      rw [all_true hj]
def sp_plans_from (CV CP : Addr) : Sp := fun vs H Q _ => ∃ (a c : Addr) (v : Uw50.Vine) (t : Nat) (l : List Nat), vs = [.ref a, .ref c, N t] ∧ VineAt CV CP H a v ∧ H c = some (.lst (Ns l)) ∧ l.length = v.count ∧ ∀ H' p, Same H H' → RowsAt H' p ((Uw50.rows v.days v.count).filter (goesB v t l)) → Q (.ref p) H'
theorem ok_plans_from (T : Txt K mg CV CP CF CL) : Keeps P w K mg base 3 "plans_from" ["vineyard", "told", "day"] (sp_plans_from CV CP) := by
  refine T.d_plans_from.ok sc_plans_from (fun vs H Q E h => ?_) (fun f cdv A outer s H vs Q E hr h => ?_)
  · obtain ⟨a, c, v, t, l, rfl, _⟩ := h
    rfl
  · obtain ⟨a, c, v, t, l, rfl, hv, hl, hn, q⟩ := h
    refine ⟨_, (pss_one (ps_ret (pe_lc (own := [("plan", 3)]) (g := gName 3) rfl sc_plans_from.nd (pi_list (pe_callN (ok_all_plans T) (hr.mono (by decide)) rfl (pa_cons (pv 0) pa_nil))) (blkOk_by (own := [("plan", 3)]) (N := nm_plans_from) (sc := defScope s_plans_from) (by decide +kernel)) (fun _ _ _ _ _ => pg_name (i := 3) sc_plans_from.nd rfl (Or.inl rfl)) (fun _ _ _ _ _ => (pts_one (pt_val (pe_callN (ok_goes_on T) (hr.mono (by decide)) rfl (pa_cons (pv 3) (pa_cons (pv 1) (pa_cons (pv 2) pa_nil))))))) (fun _ _ _ _ _ => (pv 3))))), ?_⟩
    refine ⟨_, rfl, a, v, rfl, hv, fun H1 p e1 ⟨ps, p1, p2, p3⟩ => ?_⟩
    have hlen : ps.length ≤ 1000000 := by
      have h1 := congrArg List.length p1
      have h2 := pow_le hv.ok.d4 hv.ok.p4
      rw [List.length_map, rows_len] at h1
      unfold Uw50.Vine.count at h1
      omega
    refine ⟨p, rfl, ⟨_, SqLof p2⟩, lc_det (l := ps) (g := fun x => .ref x.1) (f := fun x => if goesB v t l x.2 = true then some (.ref x.1) else none) (SqLof p2) hlen (fun _ => rfl) ?_ ?_⟩
    · rintro ⟨ra, r⟩ H2 hy e2 Qn qn
      have hr1 : r ∈ Uw50.rows v.days v.count := by
        rw [← p1]
        exact List.mem_map.mpr ⟨_, hy, rfl⟩
      refine ⟨_, rfl, _, rfl, _, rfl, ra, c, v, t, l, r, rfl, e2 _ _ (p3 _ hy), (e1.trans e2) _ _ hl, (rows_row hr1).1, hn, fun H3 e3 => ⟨_, rfl, ?_⟩⟩
      have q1 := qn H3 e3
      dsimp only at q1
      by_cases hg : goesB v t l r = true
      · rw [if_pos hg] at q1
        exact iteB hg ⟨_, rfl, q1⟩
      · rw [if_neg hg] at q1
        exact iteBF (Bool.eq_false_iff.mpr hg) q1
    · intro D H2 hD e2 h2
      rw [fm_if (fun x : Addr × List Nat => goesB v t l x.2) (fun x => V.ref x.1)] at h2
      refine q H2 D (e1.trans e2) ⟨_, ?_, h2, fun x hx => e2 _ _ (p3 x (List.mem_filter.mp hx).1)⟩
      rw [← p1, List.filter_map]
      rfl
def sp_colours_from (CV CP : Addr) : Sp := fun vs H Q _ => ∃ (a c : Addr) (v : Uw50.Vine) (t : Nat) (cs : List Nat), vs = [.ref a, .ref c, N t] ∧ VineAt CV CP H a v ∧ H c = some (.lst (Ns cs)) ∧ ∀ H' p, Same H H' → RowsAt H' p ((Uw50.rows 1 v.days).filter fun d => d.take t == cs.take t) → Q (.ref p) H'
theorem ok_colours_from (T : Txt K mg CV CP CF CL) : Keeps P w K mg base 3 "colours_from" ["vineyard", "told", "day"] (sp_colours_from CV CP) := by
  refine T.d_colours_from.ok sc_colours_from (fun vs H Q E h => ?_) (fun f cdv A outer s H vs Q E hr h => ?_)
  · obtain ⟨a, c, v, t, cs, rfl, _⟩ := h
    rfl
  · obtain ⟨a, c, v, t, cs, rfl, hv, hl, q⟩ := h
    refine ⟨_, (pss_one (ps_ret (pe_lc (own := [("colours", 3)]) (g := gName 3) rfl sc_colours_from.nd (pi_list (pe_callN (ok_all_colours T) (hr.mono (by decide)) rfl (pa_cons (pv 0) pa_nil))) (blkOk_by (own := [("colours", 3)]) (N := nm_colours_from) (sc := defScope s_colours_from) (by decide +kernel)) (fun _ _ _ _ _ => pg_name (i := 3) sc_colours_from.nd rfl (Or.inl rfl)) (fun _ _ _ _ _ => (pts_one (pt_cmpR (op_eqDK (K := K) rfl hr.units) (pe_slice (sl_listK (K := K) rfl) (pv 3) po_none (po_some (pv 2))) (pe_slice (sl_listK (K := K) rfl) (pv 1) po_none (po_some (pv 2))) (nomark _)))) (fun _ _ _ _ _ => (pv 3))))), ?_⟩
    refine ⟨_, rfl, a, v, rfl, hv, fun H1 p e1 ⟨ps, p1, p2, p3⟩ => ?_⟩
    have hlen : ps.length ≤ 1000000 := by
      have h1 := congrArg List.length p1
      have h2 := pow_le (m := 1) (by decide) hv.ok.d4
      rw [List.length_map, rows_len] at h1
      omega
    refine ⟨p, rfl, ⟨_, SqLof p2⟩, lc_det (l := ps) (g := fun x => .ref x.1) (f := fun x => if (x.2.take t == cs.take t) = true then some (.ref x.1) else none) (SqLof p2) hlen (fun _ => rfl) ?_ ?_⟩
    · rintro ⟨ra, r⟩ H2 hy e2 Qn qn
      refine ⟨_, rfl, _, rfl, _, rfl, ra, _, rfl, SqLof (e2 _ _ (p3 _ hy)), fun u hu => ?_⟩
      have e3 := sm_new (o := .lst (cutV (Ns r) none (some (t : Int)))) hu
      refine ⟨_, rfl, _, rfl, _, rfl, c, _, rfl, SqLof (e3 _ _ ((e1.trans e2) _ _ hl)), fun u2 hu2 => ?_⟩
      have e4 := sm_new (o := .lst (cutV (Ns cs) none (some (t : Int)))) hu2
      have h3 := e4 _ _ (upd_same (H := H2) (a := u) (o := .lst (cutV (Ns r) none (some (t : Int)))))
      refine ⟨.list (dat (r.take t)), .list (dat (cs.take t)), .lst (SqLof (h3.trans (by rw [cut_take]))) (dat_dp _), .lst (SqLof (upd_same.trans (by rw [cut_take]))) (dat_dp _), dat_shaped _, dat_shaped _, _, rfl, ?_⟩
      have q1 := qn _ (e3.trans e4)
      dsimp only at q1
      rw [PyData.eqv, dat_eqv]
      by_cases hg : (r.take t == cs.take t) = true
      · rw [if_pos hg] at q1
        exact iteB hg ⟨_, rfl, q1⟩
      · rw [if_neg hg] at q1
        exact iteBF (Bool.eq_false_iff.mpr hg) q1
    · intro D H2 hD e2 h2
      rw [fm_if (fun x : Addr × List Nat => x.2.take t == cs.take t) (fun x => V.ref x.1)] at h2
      refine q H2 D (e1.trans e2) ⟨_, ?_, h2, fun x hx => e2 _ _ (p3 x (List.mem_filter.mp hx).1)⟩
      rw [← p1, List.filter_map]
      rfl
def sp_found_told (CV CP CF : Addr) : Sp := fun vs H Q _ => ∃ (a f : Addr) (v : Uw50.Vine) (b : Uw50.Best), vs = [.ref a, .ref f] ∧ VineAt CV CP H a v ∧ FoundAt CF H f b ∧ b.good = v.goodOf b.plan ∧ b.plan.length = v.count ∧ b.row.length = v.days ∧ ∀ H' p, H p = none → Same H H' → H' p = some (.lst (outV (v.tells b))) → Q (.ref p) H'
theorem ok_found_told (T : Txt K mg CV CP CF CL) : Keeps P w K mg base 4 "found_told" ["vineyard", "found"] (sp_found_told CV CP CF) := by
  refine T.d_found_told.ok sc_found_told (fun vs H Q E h => ?_) (fun f cdv A outer s H vs Q E hr h => ?_)
  · obtain ⟨a, f, v, b, rfl, _⟩ := h
    rfl
  · obtain ⟨a, f, v, b, rfl, hv, hf, hg, hpl, hrl, q⟩ := h
    refine ⟨_, (pss_cons (ps_set (i := 2) sc_found_told.nd rfl (Or.inl rfl) (pe_callN (ok_picked_by T) (hr.mono (by decide)) rfl (pa_cons (pv 0) (pa_cons (pe_fld (pv 1) rfl) pa_nil))))
(pss_cons (ps_set (i := 3) sc_found_told.nd rfl (Or.inl rfl) (pe_lst (pa_cons (pe_callN (ok_loads_picked T) (hr.mono (by decide)) rfl (pa_cons (pv 2) pa_nil)) (pa_cons (pe_callN (ok_earned T) (hr.mono (by decide)) rfl (pa_cons (pv 0) (pa_cons (pe_fld (pv 1) rfl) pa_nil))) (pa_cons (pe_op op_mul (pe_fld (pv 0) rfl) (pe_fld (pv 1) rfl)) (pa_cons (pe_fld (pv 1) rfl) (pa_cons (pe_fld (pv 1) rfl) pa_nil)))))))
(pss_one (ps_ret (pe_op op_cat (pe_op op_cat (pv 3) (pe_fld (pv 1) rfl)) (pe_fld (pv 1) rfl)))))), ?_⟩
    have hd4 := hv.ok.d4
    have hp4 := hv.ok.p4
    obtain ⟨pa, FP, hpa⟩ := hf.plan T
    refine ⟨_, rfl, _, rfl, ?_⟩
    apply fldV FP
    refine ⟨a, pa, v, b.plan, rfl, hv, hpa, hpl, fun H1 p e1 hp => ?_⟩
    refine ⟨_, rfl, p, _, rfl, hp, by rw [picks_len]; exact hd4, fun H2 e2 => ?_⟩
    have e12 := e1.trans e2
    refine ⟨_, rfl, _, rfl, ?_⟩
    apply fldV (FP.mono e12)
    refine ⟨a, pa, v, b.plan, rfl, hv.mono e12, e12 _ _ hpa, hpl, fun H3 e3 => ?_⟩
    have e13 := e12.trans e3
    have hcr := hv.ok.crew
    refine ⟨_, rfl, ?_⟩
    apply fldV ((hv.mono e13).cost T)
    refine ⟨_, rfl, ?_⟩
    apply fldV ((hf.mono e13).days T)
    refine ⟨_, _, rfl, rfl, .inl ⟨by omega, by omega⟩, ?_⟩
    refine ⟨_, rfl, ?_⟩
    apply fldV ((hf.mono e13).days T)
    refine ⟨_, rfl, ?_⟩
    apply fldV ((hf.mono e13).many T)
    refine ⟨by show 5 ≤ sizeLine; decide, fun hd hhd => ?_⟩
    have h4 : Same H3 (upd H3 hd (.lst [N (Uw50.total ((picks v b.plan).map fun x => x.1 + x.2)), N (v.earns b.plan), V.int ((v.crew : Int) * (b.good.picking : Int)), N b.good.picking, N b.many])) ∧ (upd H3 hd (.lst [N (Uw50.total ((picks v b.plan).map fun x => x.1 + x.2)), N (v.earns b.plan), V.int ((v.crew : Int) * (b.good.picking : Int)), N b.good.picking, N b.many])) hd = some (.lst [N (Uw50.total ((picks v b.plan).map fun x => x.1 + x.2)), N (v.earns b.plan), V.int ((v.crew : Int) * (b.good.picking : Int)), N b.good.picking, N b.many]) := ⟨sm_new hhd, upd_same⟩
    generalize upd H3 hd (.lst [N (Uw50.total ((picks v b.plan).map fun x => x.1 + x.2)), N (v.earns b.plan), V.int ((v.crew : Int) * (b.good.picking : Int)), N b.good.picking, N b.many]) = H4 at h4 ⊢
    have e14 := e13.trans h4.1
    refine ⟨_, rfl, _, rfl, ?_⟩
    apply fldV (FP.mono e14)
    refine ⟨hd, pa, _, _, rfl, rfl, h4.2, e14 _ _ hpa, ?_, fun p2 hp2 => ?_⟩
    · rw [Ns_len, hpl]
      show 5 + v.plots.length ≤ sizeLine
      exact Nat.le_trans (by omega : 5 + v.plots.length ≤ 9) (by decide)
    have h5 : Same H4 (upd H4 p2 (.lst ([N (Uw50.total ((picks v b.plan).map fun x => x.1 + x.2)), N (v.earns b.plan), V.int ((v.crew : Int) * (b.good.picking : Int)), N b.good.picking, N b.many] ++ Ns b.plan))) ∧ (upd H4 p2 (.lst ([N (Uw50.total ((picks v b.plan).map fun x => x.1 + x.2)), N (v.earns b.plan), V.int ((v.crew : Int) * (b.good.picking : Int)), N b.good.picking, N b.many] ++ Ns b.plan))) p2 = some (.lst ([N (Uw50.total ((picks v b.plan).map fun x => x.1 + x.2)), N (v.earns b.plan), V.int ((v.crew : Int) * (b.good.picking : Int)), N b.good.picking, N b.many] ++ Ns b.plan)) := ⟨sm_new hp2, upd_same⟩
    generalize upd H4 p2 (.lst ([N (Uw50.total ((picks v b.plan).map fun x => x.1 + x.2)), N (v.earns b.plan), V.int ((v.crew : Int) * (b.good.picking : Int)), N b.good.picking, N b.many] ++ Ns b.plan)) = H5 at h5 ⊢
    have e15 := e14.trans h5.1
    obtain ⟨ca, FC, hca⟩ := (hf.mono e15).colours T
    refine ⟨_, rfl, ?_⟩
    apply fldV (FC)
    refine ⟨p2, ca, _, _, rfl, rfl, h5.2, hca, ?_, fun p3 hp3 => q _ p3 (e15.free hp3) (e15.trans (sm_new hp3)) (upd_same.trans ?_)⟩
    · rw [List.length_append, Ns_len, Ns_len, hpl, hrl]
      show 5 + v.plots.length + v.days ≤ sizeLine
      exact Nat.le_trans (by omega : 5 + v.plots.length + v.days ≤ 13) (by decide)
    · rw [loads_picks]
      have e1 : b.good.picking = v.picking b.plan := by
        rw [hg]
        rfl
      have e2 : V.int ((v.crew : Int) * (b.good.picking : Int)) = N (v.costs b.plan) := by
        unfold Uw50.Vine.costs
        rw [e1]
        exact congrArg V.int (Int.natCast_mul _ _).symm
      show some (HO.lst ([N (v.loads b.plan), N (v.earns b.plan), V.int ((v.crew : Int) * (b.good.picking : Int)), N b.good.picking, N b.many] ++ Ns b.plan ++ Ns b.row)) = some (HO.lst (V.int ((v.loads b.plan : Nat) : Int) :: ((v.earns b.plan :: v.costs b.plan :: b.good.picking :: b.many :: (b.plan ++ b.row)).map N)))
      rw [e2, List.map_cons, List.map_cons, List.map_cons, List.map_cons, List.map_append]
      rfl
end
end Vh

set_option Elab.async false
set_option linter.all false
set_option maxRecDepth 100000
set_option maxHeartbeats 4000000
namespace Vh
open PySem PySem.Spec PyProof.Rows L2 VhM
theorem put_Vineyard (x0 x1 x2 x3 x4 x5 x6 : V) : putF "plots" x6 (putF "rain" x5 (putF "cost" x4 (putF "most_kept" x3 (putF "most_pressed" x2 (putF "most_picked" x1 (putF "days" x0 ([]))))))) = ([("days", x0), ("most_picked", x1), ("most_pressed", x2), ("most_kept", x3), ("cost", x4), ("rain", x5), ("plots", x6)] : List (Str × V)) := by
  rw [show putF "days" x0 [] = ([("days", x0)] : List (Str × V)) from rfl]
  rw [show putF "most_picked" x1 [("days", x0)] = ([("days", x0), ("most_picked", x1)] : List (Str × V)) from putF_snoc (ks := ["days"]) rfl (by decide +kernel)]
  rw [show putF "most_pressed" x2 [("days", x0), ("most_picked", x1)] = ([("days", x0), ("most_picked", x1), ("most_pressed", x2)] : List (Str × V)) from putF_snoc (ks := ["days", "most_picked"]) rfl (by decide +kernel)]
  rw [show putF "most_kept" x3 [("days", x0), ("most_picked", x1), ("most_pressed", x2)] = ([("days", x0), ("most_picked", x1), ("most_pressed", x2), ("most_kept", x3)] : List (Str × V)) from putF_snoc (ks := ["days", "most_picked", "most_pressed"]) rfl (by decide +kernel)]
  rw [show putF "cost" x4 [("days", x0), ("most_picked", x1), ("most_pressed", x2), ("most_kept", x3)] = ([("days", x0), ("most_picked", x1), ("most_pressed", x2), ("most_kept", x3), ("cost", x4)] : List (Str × V)) from putF_snoc (ks := ["days", "most_picked", "most_pressed", "most_kept"]) rfl (by decide +kernel)]
  rw [show putF "rain" x5 [("days", x0), ("most_picked", x1), ("most_pressed", x2), ("most_kept", x3), ("cost", x4)] = ([("days", x0), ("most_picked", x1), ("most_pressed", x2), ("most_kept", x3), ("cost", x4), ("rain", x5)] : List (Str × V)) from putF_snoc (ks := ["days", "most_picked", "most_pressed", "most_kept", "cost"]) rfl (by decide +kernel)]
  rw [show putF "plots" x6 [("days", x0), ("most_picked", x1), ("most_pressed", x2), ("most_kept", x3), ("cost", x4), ("rain", x5)] = ([("days", x0), ("most_picked", x1), ("most_pressed", x2), ("most_kept", x3), ("cost", x4), ("rain", x5), ("plots", x6)] : List (Str × V)) from putF_snoc (ks := ["days", "most_picked", "most_pressed", "most_kept", "cost", "rain"]) rfl (by decide +kernel)]

theorem put_Plot (x0 x1 x2 x3 x4 x5 : V) : putF "less" x5 (putF "worth" x4 (putF "beside" x3 (putF "best_day" x2 (putF "colour" x1 (putF "loads" x0 ([])))))) = ([("loads", x0), ("colour", x1), ("best_day", x2), ("beside", x3), ("worth", x4), ("less", x5)] : List (Str × V)) := by
  rw [show putF "loads" x0 [] = ([("loads", x0)] : List (Str × V)) from rfl]
  rw [show putF "colour" x1 [("loads", x0)] = ([("loads", x0), ("colour", x1)] : List (Str × V)) from putF_snoc (ks := ["loads"]) rfl (by decide +kernel)]
  rw [show putF "best_day" x2 [("loads", x0), ("colour", x1)] = ([("loads", x0), ("colour", x1), ("best_day", x2)] : List (Str × V)) from putF_snoc (ks := ["loads", "colour"]) rfl (by decide +kernel)]
  rw [show putF "beside" x3 [("loads", x0), ("colour", x1), ("best_day", x2)] = ([("loads", x0), ("colour", x1), ("best_day", x2), ("beside", x3)] : List (Str × V)) from putF_snoc (ks := ["loads", "colour", "best_day"]) rfl (by decide +kernel)]
  rw [show putF "worth" x4 [("loads", x0), ("colour", x1), ("best_day", x2), ("beside", x3)] = ([("loads", x0), ("colour", x1), ("best_day", x2), ("beside", x3), ("worth", x4)] : List (Str × V)) from putF_snoc (ks := ["loads", "colour", "best_day", "beside"]) rfl (by decide +kernel)]
  rw [show putF "less" x5 [("loads", x0), ("colour", x1), ("best_day", x2), ("beside", x3), ("worth", x4)] = ([("loads", x0), ("colour", x1), ("best_day", x2), ("beside", x3), ("worth", x4), ("less", x5)] : List (Str × V)) from putF_snoc (ks := ["loads", "colour", "best_day", "beside", "worth"]) rfl (by decide +kernel)]

/-- a vineyard whose two lists that may change are unknown to G -/
structure VineG (CV CP : Addr) (G H : Hp) (a : Addr) (v : Uw50.Vine) : Prop where
  ok : VOk v
  ex : ∃ (dx r ps : Addr) (qs : List (Addr × Uw50.Plot)), G r = none ∧ G ps = none ∧ r ≠ ps ∧ H a = some (.ins CV dx (vineF v r ps)) ∧ H r = some (.lst (Ns (rainL v))) ∧ qs.map (·.2) = v.plots ∧ H ps = some (.lst (qs.map fun x => .ref x.1)) ∧ ∀ x ∈ qs, PlotAt CP H x.1 x.2
theorem VineG.at {CV CP : Addr} {G H : Hp} {a : Addr} {v : Uw50.Vine} (h : VineG CV CP G H a v) : VineAt CV CP H a v := by
  obtain ⟨ok, dx, r, ps, qs, _, _, _, h1, h2, h3, h4, h5⟩ := h
  exact ⟨ok, dx, r, ps, qs, h1, h2, h3, h4, h5⟩
def vine0 (n h p s c : Nat) : Uw50.Vine := ⟨n, h, p, s, c, [], []⟩
def plotOk (v : Uw50.Vine) (p : Uw50.Plot) : Bool := !decide (p.loads < 1 ∨ Uw50.LOADS < p.loads ∨ 1 < p.colour ∨ v.days ≤ p.day ∨ Uw50.SPREAD < p.spread ∨ Uw50.MOST < p.worth ∨ Uw50.MOST < p.less)
theorem eqNN (a b : Nat) : decide (N a = N b) = (a == b) := by
  by_cases h : a = b
  · rw [decide_eq_true (congrArg N h), beq_iff_eq.mpr h]
  · rw [decide_eq_false (fun z => h (N_inj z)), beq_eq_false_iff_ne.mpr h]
theorem bls_all {α : Type} (f : α → Bool) (l : List α) : ((l.map f).all id) = l.all f := by
  rw [List.all_map]
  rfl
section
variable {P : Program} {w : World} {K : PySem.W.Frag} {mg : Str → Option Value} {base : Heap} {CV CP CF CL : Addr}
/-! ### states -/
def sp_Vineyard_init (CV CP : Addr) : Sp := fun vs H Q _ => ∃ (p dx : Addr) (n h pr st c : Nat), vs = [.ref p, N n, N h, N pr, N st, N c] ∧ H p = some (.ins CV dx []) ∧ VOk (vine0 n h pr st c) ∧
  ∀ H', (∀ b o, H b = some o → b ≠ p → H' b = some o) → VineG CV CP H H' p (vine0 n h pr st c) → Q .non H'
theorem ok_Vineyard_init (T : Txt K mg CV CP CF CL) : Makes P w K mg base 1 "Vineyard" CV ["self", "days", "most_picked", "most_pressed", "most_kept", "cost"] (sp_Vineyard_init CV CP) := by
  refine T.m_Vineyard.ok sc_Vineyard_init (fun vs H Q E h => ?_) (fun f cdv A outer s H vs Q E hr h => ?_)
  · obtain ⟨p, dx, n, h, pr, st, c, rfl, _⟩ := h
    rfl
  · obtain ⟨p, dx, n, h, pr, st, c, rfl, hp, ok, k⟩ := h
    refine ⟨_, (pss_cons (ps_fld (pv 0) (pv 1) rfl)
(pss_cons (ps_fld (pv 0) (pv 2) rfl)
(pss_cons (ps_fld (pv 0) (pv 3) rfl)
(pss_cons (ps_fld (pv 0) (pv 4) rfl)
(pss_cons (ps_fld (pv 0) (pv 5) rfl)
(pss_cons (ps_fld (pv 0) (pe_lc (own := [("day", 6)]) (g := gName 6) (tt := tYes) rfl sc_Vineyard_init.nd (pi_range1 (by rfl) T.b_range (pa_cons (pv 1) pa_nil)) (blkOk_by (own := [("day", 6)]) (N := nm_Vineyard_init) (sc := defScope s_Vineyard_init) (by decide +kernel)) (fun _ _ _ _ _ => pg_name (i := 6) sc_Vineyard_init.nd rfl (Or.inl rfl)) (fun _ _ _ _ _ => pts_nil) (fun _ _ _ _ _ => pe_int)) rfl)
(pss_one (ps_fld (pv 0) (pe_lst pa_nil) rfl)))))))), ?_⟩
    have hn4 : n ≤ 4 := ok.d4
    refine ⟨_, rfl, _, rfl, p, CV, dx, _, rfl, hp, T.c_Vineyard, T.n_Vineyard_days, (by show 0 < 1000; decide), ?_⟩
    refine ⟨_, rfl, _, rfl, p, CV, dx, _, rfl, upd_same, T.c_Vineyard, T.n_Vineyard_most_picked, (Nat.lt_of_le_of_lt (lenF (Nat.le_refl 0)) (by decide)), ?_⟩
    refine ⟨_, rfl, _, rfl, p, CV, dx, _, rfl, upd_same, T.c_Vineyard, T.n_Vineyard_most_pressed, (Nat.lt_of_le_of_lt (lenF (lenF (Nat.le_refl 0))) (by decide)), ?_⟩
    refine ⟨_, rfl, _, rfl, p, CV, dx, _, rfl, upd_same, T.c_Vineyard, T.n_Vineyard_most_kept, (Nat.lt_of_le_of_lt (lenF (lenF (lenF (Nat.le_refl 0)))) (by decide)), ?_⟩
    refine ⟨_, rfl, _, rfl, p, CV, dx, _, rfl, upd_same, T.c_Vineyard, T.n_Vineyard_cost, (Nat.lt_of_le_of_lt (lenF (lenF (lenF (lenF (Nat.le_refl 0))))) (by decide)), ?_⟩
    -- self.rain = [0 for day in range(days)]
    rw [upd_upd, upd_upd, upd_upd, upd_upd]
    generalize hF5 : putF "cost" (N c) _ = F5
    have l5 : F5.length ≤ 5 := by
      rw [← hF5]
      exact lenF (lenF (lenF (lenF (lenF (Nat.le_refl 0)))))
    have h1 : (upd H p (.ins CV dx F5)) p = some (.ins CV dx F5) := upd_same
    refine ⟨_, rfl, _, rfl, by omega, by omega, lc_detR (n := n) (f := fun _ => some (N 0)) (by omega) (fun _ => rfl) (fun y H1 hy e1 Qn qn => qn H1 (Same.refl _)) ?_⟩
    intro r H1 hr1 e1 h2
    have hrp : r ≠ p := (ne_of_none h1 hr1).symm
    have hr0 : H r = none := by
      rw [upd_ne hrp] at hr1
      exact hr1
    refine ⟨_, rfl, p, CV, dx, _, rfl, e1 _ _ h1, T.c_Vineyard, T.n_Vineyard_rain, Nat.lt_of_le_of_lt l5 (by decide), ?_⟩
    -- self.plots = []
    refine ⟨Nat.zero_le _, fun ps hps => ?_⟩
    have hpsp : ps ≠ p := (ne_of_none (H := upd H1 p _) upd_same hps).symm
    have hps1 : H1 ps = none := by
      rw [upd_ne hpsp] at hps
      exact hps
    have hps0 : H ps = none := by
      have h3 : (upd H p (.ins CV dx F5)) ps = none := e1.free hps1
      rw [upd_ne hpsp] at h3
      exact h3
    have hrps : r ≠ ps := ne_of_none h2 hps1
    refine ⟨_, rfl, p, CV, dx, _, rfl, (upd_ne hpsp.symm).trans upd_same, T.c_Vineyard, T.n_Vineyard_plots, Nat.lt_of_le_of_lt (lenF l5) (by decide), ?_⟩
    refine k _ (fun b o hb hbp => ?_) ⟨ok, dx, r, ps, [], hr0, hps0, hrps, ?_, ?_, rfl, ?_, fun x hx => by cases hx⟩
    · rw [upd_ne hbp, upd_ne (ne_of_none hb hps0), upd_ne hbp]
      refine e1 _ _ ?_
      rw [upd_ne hbp]
      exact hb
    · rw [← hF5, put_Vineyard]
      exact upd_same
    · rw [upd_ne hrp, upd_ne hrps, upd_ne hrp, h2, fm_some]
      unfold rainL
      show some (HO.lst ((List.range n).map fun _ => N 0)) = some (HO.lst (((List.range n).map fun d => if ([] : List Nat).contains d = true then 1 else 0).map N))
      rw [List.map_map]
      rfl
    · rw [upd_ne hpsp]
      exact upd_same
def sp_Plot_init (CP : Addr) : Sp := fun vs H Q _ => ∃ (p dx : Addr) (x0 x1 x2 x3 x4 x5 : V), vs = [.ref p, x0, x1, x2, x3, x4, x5] ∧ H p = some (.ins CP dx []) ∧
  Q .non (upd H p (.ins CP dx [("loads", x0), ("colour", x1), ("best_day", x2), ("beside", x3), ("worth", x4), ("less", x5)]))
theorem ok_Plot_init (T : Txt K mg CV CP CF CL) : Makes P w K mg base 1 "Plot" CP ["self", "loads", "colour", "best_day", "beside", "worth", "less"] (sp_Plot_init CP) := by
  refine T.m_Plot.ok sc_Plot_init (fun vs H Q E h => ?_) (fun f cdv A outer s H vs Q E hr h => ?_)
  · obtain ⟨p, dx, x0, x1, x2, x3, x4, x5, rfl, _⟩ := h
    rfl
  · obtain ⟨p, dx, x0, x1, x2, x3, x4, x5, rfl, hp, k⟩ := h
    refine ⟨_, (pss_cons (ps_fld (pv 0) (pv 1) rfl)
(pss_cons (ps_fld (pv 0) (pv 2) rfl)
(pss_cons (ps_fld (pv 0) (pv 3) rfl)
(pss_cons (ps_fld (pv 0) (pv 4) rfl)
(pss_cons (ps_fld (pv 0) (pv 5) rfl)
(pss_one (ps_fld (pv 0) (pv 6) rfl))))))), ?_⟩
    refine ⟨_, rfl, _, rfl, p, CP, dx, _, rfl, hp, T.c_Plot, T.n_Plot_loads, (by show 0 < 1000; decide), ?_⟩
    refine ⟨_, rfl, _, rfl, p, CP, dx, _, rfl, upd_same, T.c_Plot, T.n_Plot_colour, (Nat.lt_of_le_of_lt (lenF (Nat.le_refl 0)) (by decide)), ?_⟩
    refine ⟨_, rfl, _, rfl, p, CP, dx, _, rfl, upd_same, T.c_Plot, T.n_Plot_best_day, (Nat.lt_of_le_of_lt (lenF (lenF (Nat.le_refl 0))) (by decide)), ?_⟩
    refine ⟨_, rfl, _, rfl, p, CP, dx, _, rfl, upd_same, T.c_Plot, T.n_Plot_beside, (Nat.lt_of_le_of_lt (lenF (lenF (lenF (Nat.le_refl 0)))) (by decide)), ?_⟩
    refine ⟨_, rfl, _, rfl, p, CP, dx, _, rfl, upd_same, T.c_Plot, T.n_Plot_worth, (Nat.lt_of_le_of_lt (lenF (lenF (lenF (lenF (Nat.le_refl 0))))) (by decide)), ?_⟩
    refine ⟨_, rfl, _, rfl, p, CP, dx, _, rfl, upd_same, T.c_Plot, T.n_Plot_less, (Nat.lt_of_le_of_lt (lenF (lenF (lenF (lenF (lenF (Nat.le_refl 0)))))) (by decide)), ?_⟩
    show Q .non _
    rw [upd_upd, upd_upd, upd_upd, upd_upd, upd_upd, put_Plot]
    exact k
def beginOk (n : Nat) (ls : List Nat) (c : Nat) : Bool := (decide (1 ≤ n) && decide (n ≤ 4)) && (ls.all (fun m => decide (m ≤ 1000)) && decide (c ≤ 100000))
def sp_may_begin : Sp := fun vs H Q _ => ∃ (b : Addr) (n : Nat) (ls : List Nat) (c : Nat), vs = [N n, .ref b, N c] ∧ H b = some (.lst (Ns ls)) ∧ ls.length ≤ 1000 ∧ ∀ H', Same H H' → Q (.bl (beginOk n ls c)) H'
theorem dle (a b : Nat) : decide ((a : Int) ≤ (b : Int)) = decide (a ≤ b) := by
  by_cases h : a ≤ b
  · rw [decide_eq_true h, decide_eq_true (Int.ofNat_le.mpr h)]
  · rw [decide_eq_false h, decide_eq_false (fun z => h (Int.ofNat_le.mp z))]
theorem dlt (a b : Nat) : decide ((a : Int) < (b : Int)) = decide (a < b) := by
  by_cases h : a < b
  · rw [decide_eq_true h, decide_eq_true (Int.ofNat_lt.mpr h)]
  · rw [decide_eq_false h, decide_eq_false (fun z => h (Int.ofNat_lt.mp z))]
theorem ok_may_begin (T : Txt K mg CV CP CF CL) : Keeps P w K mg base 1 "may_begin" ["days", "loads", "cost"] sp_may_begin := by
  refine T.d_may_begin.ok sc_may_begin (fun vs H Q E h => ?_) (fun f cdv A outer s H vs Q E hr h => ?_)
  · obtain ⟨b, n, ls, c, rfl, _⟩ := h
    rfl
  · obtain ⟨b, n, ls, c, rfl, hb, hz, q⟩ := h
    refine ⟨_, (pss_one (ps_ret (pe_and (pe_chain op_le op_le pe_int (pv 0) (pe_const rfl T.g_MOST_DAYS)) (pe_and (pe_callB (cr_all rfl) (by rfl) T.b_all boot_all_ (pa_cons (pe_lc (own := [("many", 3)]) (g := gName 3) (tt := tYes) rfl sc_may_begin.nd (pi_list (pv 1)) (blkOk_by (own := [("many", 3)]) (N := nm_may_begin) (sc := defScope s_may_begin) (by decide +kernel)) (fun _ _ _ _ _ => pg_name (i := 3) sc_may_begin.nd rfl (Or.inl rfl)) (fun _ _ _ _ _ => pts_nil) (fun _ _ _ _ _ => (pe_cmpR op_le (pv 3) (pe_const rfl T.g_MOST_LOADS) (nomark _)))) pa_nil)) (pe_one (pe_cmpR op_le (pv 2) (pe_const rfl T.g_MOST_COST) (nomark _))))))), ?_⟩
    have h1 : decide ((1 : Int) ≤ (n : Int)) = decide (1 ≤ n) := dle 1 n
    have h4 : decide ((n : Int) ≤ (4 : Int)) = decide (n ≤ 4) := dle n 4
    refine ⟨_, rfl, _, _, rfl, rfl, _, rfl, ite2 (fun c1 => ?_) (fun c1 => ?_)⟩
    · refine ⟨_, _, rfl, rfl, _, rfl, ite2 (fun c2 => ?_) (fun c2 => ?_)⟩
      · refine ⟨_, rfl, b, rfl, ⟨_, SqLof hb⟩, lc_det (l := ls) (g := N) (f := fun m => some (.bl (decide (m ≤ 1000)))) (SqLof hb) (by omega) (fun _ => rfl) (fun y H1 hy e1 Qn qn => ⟨_, rfl, _, _, rfl, rfl, ?_⟩) ?_⟩
        · have q1 := qn H1 (Same.refl _)
          try dsimp only at q1
          rw [← dle y 1000] at q1
          exact q1
        · intro D H1 hD e1 h2
          rw [fm_some] at h2
          refine ⟨D, ls.map fun m => decide (m ≤ 1000), rfl, SqLof (h2.trans (by rw [List.map_map]; rfl)), _, rfl, ite2 (fun c3 => ?_) (fun c3 => ?_)⟩
          · refine ⟨_, rfl, _, _, rfl, rfl, qv (q _ e1) (congrArg V.bl ?_)⟩
            rw [bls_all] at c3
            unfold beginOk
            rw [← h1, ← h4, c1, c2, c3]
            exact dle c 100000
          · refine qv (q _ e1) (congrArg V.bl ?_)
            rw [bls_all] at c3
            unfold beginOk
            rw [← h1, ← h4, c1, c2, Bool.eq_false_iff.mpr c3]
            rfl
      · refine qv (q _ (Same.refl _)) (congrArg V.bl ?_)
        unfold beginOk
        rw [← h1, ← h4, c1, Bool.eq_false_iff.mpr c2]
        rfl
    · refine ⟨_, rfl, iteF (qv (q _ (Same.refl _)) (congrArg V.bl ?_))⟩
      unfold beginOk
      rw [← h1, Bool.eq_false_iff.mpr c1]
      rfl
def sp_may_be_plot (CV CP : Addr) : Sp := fun vs H Q _ => ∃ (a q : Addr) (v : Uw50.Vine) (p : Uw50.Plot), vs = [.ref a, .ref q] ∧ VineAt CV CP H a v ∧ PlotAt CP H q p ∧ Q (.bl (plotOk v p)) H
theorem ok_may_be_plot (T : Txt K mg CV CP CF CL) : Keeps P w K mg base 1 "may_be_plot" ["vineyard", "plot"] (sp_may_be_plot CV CP) := by
  refine T.d_may_be_plot.ok sc_may_be_plot (fun vs H Q E h => ?_) (fun f cdv A outer s H vs Q E hr h => ?_)
  · obtain ⟨a, q, v, p, rfl, _⟩ := h
    rfl
  · obtain ⟨a, qa, v, p, rfl, hv, hp, q⟩ := h
    refine ⟨_, (pss_cons (ps_if (PW.pt (pw_or (pt_not (pt_chain op_le op_le pe_int (pe_fld (pv 1) rfl) (pe_const rfl T.g_MOST_OF_PLOT))) (pw_or (pt_cmpR op_gt (pe_fld (pv 1) rfl) pe_int (nomark _)) (pw_or1 (pt_cmpR op_ge (pe_fld (pv 1) rfl) (pe_fld (pv 0) rfl) (nomark _))))))
(pss_one (ps_ret pe_bl))
pss_nil)
(pss_one (ps_ret (pe_and (pe_cmpR op_le (pe_fld (pv 1) rfl) (pe_const rfl T.g_MOST_BESIDE) (nomark _)) (pe_and (pe_cmpR op_le (pe_fld (pv 1) rfl) (pe_const rfl T.g_MOST_WORTH) (nomark _)) (pe_one (pe_cmpR op_le (pe_fld (pv 1) rfl) (pe_const rfl T.g_MOST_WORTH) (nomark _)))))))), ?_⟩
    have no : (p.loads < 1 ∨ Uw50.LOADS < p.loads ∨ 1 < p.colour ∨ v.days ≤ p.day ∨ Uw50.SPREAD < p.spread ∨ Uw50.MOST < p.worth ∨ Uw50.MOST < p.less) → Q (.bl false) H := fun h => by
      unfold plotOk at q
      rw [decide_eq_true h] at q
      exact q
    refine ⟨_, rfl, ?_⟩
    apply fldV (hp.loads T)
    refine ⟨_, _, rfl, rfl, _, rfl, ite2 (fun c1 => ?_) (fun c1 => ?_)⟩
    · have d1 : (1 : Int) ≤ (p.loads : Int) := of_decide_eq_true c1
      refine ⟨_, _, rfl, rfl, _, rfl, ?_⟩
      by_cases d2 : (p.loads : Int) ≤ 100
      · refine iteBF (show (!decide ((p.loads : Int) ≤ 100)) = false by rw [decide_eq_true d2]; rfl) ?_
        refine ⟨_, rfl, ?_⟩
        apply fldV (hp.colour T)
        refine ⟨_, _, rfl, rfl, _, rfl, ite2 (fun c3 => iteT ?_) (fun c3 => ?_)⟩
        · have d3 : (1 : Int) < (p.colour : Int) := of_decide_eq_true c3
          exact no (.inr (.inr (.inl (by omega))))
        · have d3 : ¬ (1 : Int) < (p.colour : Int) := fun h => c3 (decide_eq_true h)
          refine ⟨_, rfl, ?_⟩
          apply fldV (hp.best_day T)
          refine ⟨_, rfl, ?_⟩
          apply fldV (hv.days T)
          refine ⟨_, _, rfl, rfl, _, rfl, ite2 (fun c4 => ?_) (fun c4 => ?_)⟩
          · have d4 : (v.days : Int) ≤ (p.day : Int) := of_decide_eq_true c4
            exact no (.inr (.inr (.inr (.inl (by omega)))))
          · have d4 : ¬ (v.days : Int) ≤ (p.day : Int) := fun h => c4 (decide_eq_true h)
            refine ⟨_, rfl, ?_⟩
            apply fldV (hp.beside T)
            refine ⟨_, _, rfl, rfl, _, rfl, ite2 (fun c5 => ?_) (fun c5 => ?_)⟩
            · have d5 : (p.spread : Int) ≤ 3 := of_decide_eq_true c5
              refine ⟨_, rfl, ?_⟩
              apply fldV (hp.worth T)
              refine ⟨_, _, rfl, rfl, _, rfl, ite2 (fun c6 => ?_) (fun c6 => ?_)⟩
              · have d6 : (p.worth : Int) ≤ 1000 := of_decide_eq_true c6
                refine ⟨_, rfl, ?_⟩
                apply fldV (hp.less T)
                refine ⟨_, _, rfl, rfl, qv q (congrArg V.bl ?_)⟩
                unfold plotOk
                show decide ((p.less : Int) ≤ 1000) = _
                by_cases d7 : (p.less : Int) ≤ 1000
                · rw [decide_eq_true d7, decide_eq_false]
                  · rfl
                  · unfold Uw50.LOADS Uw50.SPREAD Uw50.MOST
                    omega
                · rw [decide_eq_false d7, decide_eq_true]
                  · rfl
                  · unfold Uw50.LOADS Uw50.SPREAD Uw50.MOST
                    omega
              · have d6 : ¬ (p.worth : Int) ≤ 1000 := fun h => c6 (decide_eq_true h)
                exact no (.inr (.inr (.inr (.inr (.inr (.inl (by unfold Uw50.MOST; omega)))))))
            · have d5 : ¬ (p.spread : Int) ≤ 3 := fun h => c5 (decide_eq_true h)
              exact no (.inr (.inr (.inr (.inr (.inl (by unfold Uw50.SPREAD; omega))))))
      · refine iteB (show (!decide ((p.loads : Int) ≤ 100)) = true by rw [decide_eq_false d2]; rfl) (iteT (no (.inr (.inl (by unfold Uw50.LOADS; omega)))))
    · have d1 : ¬ (1 : Int) ≤ (p.loads : Int) := fun h => c1 (decide_eq_true h)
      exact ⟨_, rfl, iteT (iteT (no (.inl (by omega))))⟩
def sp_is_plan (CV CP : Addr) : Sp := fun vs H Q _ => ∃ (a b : Addr) (v : Uw50.Vine) (l : List Nat), vs = [.ref a, .ref b] ∧ VineAt CV CP H a v ∧ H b = some (.lst (Ns l)) ∧ l.length ≤ 1000 ∧ ∀ H', Same H H' → Q (.bl (v.told l)) H'
theorem ok_is_plan (T : Txt K mg CV CP CF CL) : Keeps P w K mg base 1 "is_plan" ["vineyard", "plan"] (sp_is_plan CV CP) := by
  refine T.d_is_plan.ok sc_is_plan (fun vs H Q E h => ?_) (fun f cdv A outer s H vs Q E hr h => ?_)
  · obtain ⟨a, b, v, l, rfl, _⟩ := h
    rfl
  · obtain ⟨a, b, v, l, rfl, hv, hb, hz, q⟩ := h
    refine ⟨_, (pss_one (ps_ret (pe_and (pe_cmpR op_eq (pe_callB call_len_seq (by rfl) T.b_len boot_len (pa_cons (pv 1) pa_nil)) (pe_callB call_len_seq (by rfl) T.b_len boot_len (pa_cons (pe_fld (pv 0) rfl) pa_nil)) (nomark _)) (pe_one (pe_callB (cr_all rfl) (by rfl) T.b_all boot_all_ (pa_cons (pe_lc (own := [("day", 2)]) (g := gName 2) (tt := tYes) rfl sc_is_plan.nd (pi_list (pv 1)) (blkOk_by (own := [("day", 2)]) (N := nm_is_plan) (sc := defScope s_is_plan) (by decide +kernel)) (fun _ _ _ _ _ => pg_name (i := 2) sc_is_plan.nd rfl (Or.inl rfl)) (fun _ _ _ _ _ => pts_nil) (fun _ _ _ _ _ => (pe_cmpR op_le (pv 2) (pe_fldK (K := K) rfl (pv 0) rfl) (nomark _)))) pa_nil)))))), ?_⟩
    obtain ⟨pa, qs, F, hq, hp, hq2⟩ := hv.plots T
    refine ⟨_, rfl, b, _, rfl, .inl (SqLof hb), ?_⟩
    refine ⟨_, rfl, ?_⟩
    apply fldV (F)
    refine ⟨pa, _, rfl, .inl (SqLof hp), rfl, _, rfl, ?_⟩
    have e1 : decide (V.int ((Ns l).length : Nat) = V.int ((qs.map fun x => V.ref x.1).length : Nat)) = (l.length == v.count) := by
      rw [Ns_len, List.length_map, plots_len hq]
      exact eqNN _ _
    refine ite2 (fun c1 => ?_) (fun c1 => ?_)
    · refine ⟨_, rfl, b, rfl, ⟨_, SqLof hb⟩, lc_det (l := l) (g := N) (f := fun m => some (.bl (decide (m ≤ v.days)))) (SqLof hb) (by omega) (fun _ => rfl) (fun y H1 hy e1 Qn qn => ⟨_, rfl, ?_⟩) ?_⟩
      · refine ⟨_, rfl, ?_⟩
        apply fldV ((hv.mono e1).days T)
        refine ⟨_, _, rfl, rfl, ?_⟩
        have q1 := qn H1 (Same.refl _)
        try dsimp only at q1
        rw [← dle y v.days] at q1
        exact q1
      · intro D H1 hD e2 h2
        rw [fm_some] at h2
        refine ⟨D, l.map fun m => decide (m ≤ v.days), rfl, SqLof (h2.trans (by rw [List.map_map]; rfl)), qv (q _ e2) (congrArg V.bl ?_)⟩
        rw [bls_all]
        unfold Uw50.Vine.told
        rw [← e1, c1]
        rfl
    · refine qv (q _ (Same.refl _)) (congrArg V.bl ?_)
      unfold Uw50.Vine.told
      rw [← e1, Bool.eq_false_iff.mpr c1]
      rfl
def sp_are_colours (CV CP : Addr) : Sp := fun vs H Q _ => ∃ (a b : Addr) (v : Uw50.Vine) (l : List Nat), vs = [.ref a, .ref b] ∧ VineAt CV CP H a v ∧ H b = some (.lst (Ns l)) ∧ l.length ≤ 1000 ∧ ∀ H', Same H H' → Q (.bl (v.coloured l)) H'
theorem ok_are_colours (T : Txt K mg CV CP CF CL) : Keeps P w K mg base 1 "are_colours" ["vineyard", "colours"] (sp_are_colours CV CP) := by
  refine T.d_are_colours.ok sc_are_colours (fun vs H Q E h => ?_) (fun f cdv A outer s H vs Q E hr h => ?_)
  · obtain ⟨a, b, v, l, rfl, _⟩ := h
    rfl
  · obtain ⟨a, b, v, l, rfl, hv, hb, hz, q⟩ := h
    refine ⟨_, (pss_one (ps_ret (pe_and (pe_cmpR op_eq (pe_callB call_len_seq (by rfl) T.b_len boot_len (pa_cons (pv 1) pa_nil)) (pe_fld (pv 0) rfl) (nomark _)) (pe_one (pe_callB (cr_all rfl) (by rfl) T.b_all boot_all_ (pa_cons (pe_lc (own := [("colour", 2)]) (g := gName 2) (tt := tYes) rfl sc_are_colours.nd (pi_list (pv 1)) (blkOk_by (own := [("colour", 2)]) (N := nm_are_colours) (sc := defScope s_are_colours) (by decide +kernel)) (fun _ _ _ _ _ => pg_name (i := 2) sc_are_colours.nd rfl (Or.inl rfl)) (fun _ _ _ _ _ => pts_nil) (fun _ _ _ _ _ => (pe_cmpR op_le (pv 2) pe_int (nomark _)))) pa_nil)))))), ?_⟩
    refine ⟨_, rfl, b, _, rfl, .inl (SqLof hb), ?_⟩
    refine ⟨_, rfl, ?_⟩
    apply fldV (hv.days T)
    refine ⟨rfl, _, rfl, ?_⟩
    have e1 : decide (V.int ((Ns l).length : Nat) = N v.days) = (l.length == v.days) := by
      rw [Ns_len]
      exact eqNN _ _
    refine ite2 (fun c1 => ?_) (fun c1 => ?_)
    · refine ⟨_, rfl, b, rfl, ⟨_, SqLof hb⟩, lc_det (l := l) (g := N) (f := fun m => some (.bl (decide (m ≤ 1)))) (SqLof hb) (by omega) (fun _ => rfl) (fun y H1 hy e1 Qn qn => ⟨_, rfl, _, _, rfl, rfl, ?_⟩) ?_⟩
      · have q1 := qn H1 (Same.refl _)
        try dsimp only at q1
        rw [← dle y 1] at q1
        exact q1
      · intro D H1 hD e2 h2
        rw [fm_some] at h2
        refine ⟨D, l.map fun m => decide (m ≤ 1), rfl, SqLof (h2.trans (by rw [List.map_map]; rfl)), qv (q _ e2) (congrArg V.bl ?_)⟩
        rw [bls_all]
        unfold Uw50.Vine.coloured
        rw [← e1, c1]
        rfl
    · refine qv (q _ (Same.refl _)) (congrArg V.bl ?_)
      unfold Uw50.Vine.coloured
      rw [← e1, Bool.eq_false_iff.mpr c1]
      rfl
end
end Vh

set_option Elab.async false
set_option linter.all false
set_option maxRecDepth 100000
set_option maxHeartbeats 4000000
namespace Vh
open PySem PySem.Spec PyProof.Rows L2 VhM
def badL : Option Uw50.Ans → List V
  | none => []
  | some a => outV a
def agL (v : Uw50.Vine) (l c : List Nat) : List V := match v.badPlan l with
  | some a => outV a
  | none => wrongL (v.nights l c)
theorem harvest_cases {v : Uw50.Vine} {l c : List Nat} (h1 : v.told l = true) (h2 : v.coloured c = true) :
    (0 < (agL v l c).length ∧ ∀ f, outV (v.onHarvest l c f) = agL v l c) ∨ (agL v l c = [] ∧ ∃ n, v.nights l c = .ok n ∧ ∀ f, v.onHarvest l c f = f n) := by
  have h3 : ¬ (v.told l = false ∨ v.coloured c = false) := by
    rw [h1, h2]
    intro h
    rcases h with h | h <;> cases h
  unfold agL Uw50.Vine.onHarvest
  simp only [if_neg h3]
  cases hb : v.badPlan l with
  | some a => exact .inl ⟨Nat.succ_pos _, fun f => rfl⟩
  | none =>
    cases hn : v.nights l c with
    | error e => exact .inl ⟨Nat.succ_pos _, fun f => rfl⟩
    | ok n => exact .inr ⟨rfl, n, rfl, fun f => rfl⟩
section
variable {P : Program} {w : World} {K : PySem.W.Frag} {mg : Str → Option Value} {base : Heap} {CV CP CF CL : Addr}
/-! ### asking -/
def sp_against_plan (CV CP : Addr) : Sp := fun vs H Q _ => ∃ (a b : Addr) (v : Uw50.Vine) (l : List Nat), vs = [.ref a, .ref b] ∧ VineAt CV CP H a v ∧ H b = some (.lst (Ns l)) ∧ l.length = v.count ∧ ∀ H' p, H p = none → Same H H' → H' p = some (.lst (badL (v.badPlan l))) → Q (.ref p) H'
theorem ok_against_plan (T : Txt K mg CV CP CF CL) : Keeps P w K mg base 3 "against_plan" ["vineyard", "plan"] (sp_against_plan CV CP) := by
  refine T.d_against_plan.ok sc_against_plan (fun vs H Q E h => ?_) (fun f cdv A outer s H vs Q E hr h => ?_)
  · obtain ⟨a, b, v, l, rfl, _⟩ := h
    rfl
  · obtain ⟨a, b, v, l, rfl, hv, hb, hn, q⟩ := h
    refine ⟨_, (pss_cons (ps_set (i := 2) sc_against_plan.nd rfl (Or.inl rfl) (pe_callN (ok_first_wrong_plot T) (hr.mono (by decide)) rfl (pa_cons (pv 0) (pa_cons (pv 1) pa_nil))))
(pss_cons (ps_if (pt_cmpR op_notN (pv 2) pe_non (nomark _))
(pss_one (ps_ret (pe_lst (pa_cons (pe_const rfl T.g_WRONG_PLOT) (pa_cons (pv 2) pa_nil)))))
pss_nil)
(pss_cons (ps_set (i := 3) sc_against_plan.nd rfl (Or.inl rfl) (pe_callN (ok_first_full_day T) (hr.mono (by decide)) rfl (pa_cons (pv 0) (pa_cons (pe_callN (ok_picked_by T) (hr.mono (by decide)) rfl (pa_cons (pv 0) (pa_cons (pv 1) pa_nil))) pa_nil))))
(pss_cons (ps_if (pt_cmpR op_notN (pv 3) pe_non (nomark _))
(pss_one (ps_ret (pe_lst (pa_cons (pe_const rfl T.g_FULL_DAY) (pa_cons (pv 3) pa_nil)))))
pss_nil)
(pss_one (ps_ret (pe_lst pa_nil))))))), ?_⟩
    refine ⟨_, rfl, _, rfl, a, b, v, l, rfl, hv, hb, hn, fun H1 e1 => ⟨_, rfl, rfl, _, rfl, ?_⟩⟩
    unfold Uw50.Vine.badPlan at q
    cases hp : v.badPlot l with
    | some i =>
      rw [hp] at q
      exact iteNN (by intro z; cases z) ⟨_, rfl, by show 2 ≤ sizeLine; decide, fun p hp2 => q _ p (e1.free hp2) (e1.trans (sm_new hp2)) upd_same⟩
    | none =>
      rw [hp] at q
      refine iteNS rfl ?_
      refine ⟨_, rfl, _, rfl, _, rfl, a, b, v, l, rfl, hv.mono e1, e1 _ _ hb, hn, fun H2 p e2 hpk => ⟨a, p, v, l, rfl, hv.mono (e1.trans e2), hpk, fun H3 e3 => ⟨_, rfl, rfl, _, rfl, ?_⟩⟩⟩
      have e13 := (e1.trans e2).trans e3
      cases hd : v.badDay l with
      | some d =>
        rw [hd] at q
        exact iteNN (by intro z; cases z) ⟨_, rfl, by show 2 ≤ sizeLine; decide, fun p hp2 => q _ p (e13.free hp2) (e13.trans (sm_new hp2)) upd_same⟩
      | none =>
        rw [hd] at q
        exact iteNS rfl ⟨Nat.zero_le _, fun p hp2 => q _ p (e13.free hp2) (e13.trans (sm_new hp2)) upd_same⟩
theorem len_pos_dec {xs : List V} (h : 0 < xs.length) : decide ((0 : Int) < (xs.length : Nat)) = true := decide_eq_true (Int.ofNat_lt.mpr h)
def sp_against (CV CP : Addr) : Sp := fun vs H Q _ => ∃ (a b c : Addr) (v : Uw50.Vine) (l cs : List Nat), vs = [.ref a, .ref b, .ref c] ∧ VineAt CV CP H a v ∧ H b = some (.lst (Ns l)) ∧ l.length = v.count ∧ H c = some (.lst (Ns cs)) ∧ v.coloured cs = true ∧ ∀ H' p, H p = none → Same H H' → H' p = some (.lst (agL v l cs)) → Q (.ref p) H'
theorem ok_against (T : Txt K mg CV CP CF CL) : Keeps P w K mg base 4 "against" ["vineyard", "plan", "colours"] (sp_against CV CP) := by
  refine T.d_against.ok sc_against (fun vs H Q E h => ?_) (fun f cdv A outer s H vs Q E hr h => ?_)
  · obtain ⟨a, b, c, v, l, cs, rfl, _⟩ := h
    rfl
  · obtain ⟨a, b, c, v, l, cs, rfl, hv, hb, hn, hc, hcol, q⟩ := h
    refine ⟨_, (pss_cons (ps_set (i := 3) sc_against.nd rfl (Or.inl rfl) (pe_callN (ok_against_plan T) (hr.mono (by decide)) rfl (pa_cons (pv 0) (pa_cons (pv 1) pa_nil))))
(pss_cons (ps_if (pt_cmpR op_gt (pe_callB call_len_seq (by rfl) T.b_len boot_len (pa_cons (pv 3) pa_nil)) pe_int (nomark _))
(pss_one (ps_ret (pv 3)))
pss_nil)
(pss_one (ps_ret (pe_ix ix_tup (pe_callN (ok_course T) (hr.mono (by decide)) rfl (pa_cons (pv 0) (pa_cons (pe_callN (ok_picked_by T) (hr.mono (by decide)) rfl (pa_cons (pv 0) (pa_cons (pv 1) pa_nil))) (pa_cons (pv 2) pa_nil)))) pe_int (fun _ _ => rfl)))))), ?_⟩
    refine ⟨_, rfl, _, rfl, a, b, v, l, rfl, hv, hb, hn, fun H1 p hpn e1 hp => ⟨_, rfl, p, _, rfl, .inl (SqLof hp), _, _, rfl, rfl, _, rfl, ?_⟩⟩
    unfold agL at q
    cases hbp : v.badPlan l with
    | some x =>
      rw [hbp] at q hp
      exact iteB (len_pos_dec (xs := badL (some x)) (Nat.succ_pos _)) ⟨_, rfl, q _ p hpn e1 hp⟩
    | none =>
      rw [hbp] at q hp
      refine iteBF rfl ?_
      exact ⟨_, rfl, _, rfl, _, rfl, a, b, v, l, rfl, hv.mono e1, e1 _ _ hb, hn, fun H2 pk e2 hpk => ⟨_, rfl, a, pk, c, v, l, cs, rfl, hv.mono (e1.trans e2), hpk, (e1.trans e2) _ _ hc, hcol, fun H3 t x y hxn e3 ht hx _ => ⟨t, _, _, _, rfl, rfl, SqTof ht, two0, q _ x ((e1.trans e2).free hxn) ((e1.trans e2).trans e3) hx⟩⟩⟩
theorem best_pre {v : Uw50.Vine} {ls rs : List (List Nat)} (hl : ∀ l ∈ ls, l.length = v.count) (hr : ∀ r ∈ rs, r.length = v.days) {b : Uw50.Best} (h : bestFold v rs ls = some b) : b.good = v.goodOf b.plan ∧ b.plan.length = v.count ∧ b.row.length = v.days := by
  obtain ⟨h1, h2, h3⟩ := bestFold_ok v rs ls b h
  exact ⟨h1, hl _ h2, hr _ h3⟩
def bestAns (v : Uw50.Vine) : Uw50.Ans := match v.best with
  | none => Uw50.ok (-11)
  | some b => v.tells b
def sp_best_told (CV CP : Addr) : Sp := fun vs H Q _ => ∃ (a : Addr) (v : Uw50.Vine), vs = [.ref a] ∧ VineAt CV CP H a v ∧ ∀ H' p, H p = none → Same H H' → H' p = some (.lst (outV (bestAns v))) → Q (.ref p) H'
theorem rows1_len {v : Uw50.Vine} (ok : VOk v) : (Uw50.rows 1 v.days).length ≤ 1000 := by
  rw [rows_len]
  exact Nat.le_trans (pow_le (m := 1) (by decide) ok.d4) (by decide)
theorem ok_best_told (T : Txt K mg CV CP CF CL) : Keeps P w K mg base 6 "best_told" ["vineyard"] (sp_best_told CV CP) := by
  refine T.d_best_told.ok sc_best_told (fun vs H Q E h => ?_) (fun f cdv A outer s H vs Q E hr h => ?_)
  · obtain ⟨a, v, rfl, _⟩ := h
    rfl
  · obtain ⟨a, v, rfl, hv, q⟩ := h
    refine ⟨_, (pss_cons (ps_set (i := 1) sc_best_told.nd rfl (Or.inl rfl) (pe_callN (ok_best_of T) (hr.mono (by decide)) rfl (pa_cons (pv 0) (pa_cons (pe_callN (ok_all_plans T) (hr.mono (by decide)) rfl (pa_cons (pv 0) pa_nil)) (pa_cons (pe_callN (ok_all_colours T) (hr.mono (by decide)) rfl (pa_cons (pv 0) pa_nil)) pa_nil)))))
(pss_one (ps_ret (pe_callN (ok_found_told T) (hr.mono (by decide)) rfl (pa_cons (pv 0) (pa_cons (pv 1) pa_nil)))))), ?_⟩
    refine ⟨_, rfl, _, rfl, a, v, rfl, hv, fun H1 p1 e1 hp1 => ⟨_, rfl, a, v, rfl, hv.mono e1, fun H2 p2 e2 hp2 => ?_⟩⟩
    have e12 := e1.trans e2
    refine ⟨a, p1, p2, v, _, _, rfl, hv.mono e12, hp1.mono e2, fun l hl => (rows_row hl).1, hp2, fun r hr => rows_coloured hr, rows1_len hv.ok, fun H3 y e3 hy => ?_⟩
    obtain ⟨b, hb⟩ := best_some v
    have hb2 : bestFold v (Uw50.rows 1 v.days) (Uw50.rows v.days v.count) = some b := (best_fold v).symm.trans hb
    rw [hb2] at hy
    obtain ⟨f0, rfl, hF⟩ := hy
    obtain ⟨k1, k2, k3⟩ := best_pre (fun l hl => (rows_row hl).1) (fun r hr => (rows_row hr).1) hb2
    unfold bestAns at q
    rw [hb] at q
    exact ⟨_, rfl, _, rfl, a, f0, v, b, rfl, hv.mono (e12.trans e3), hF, k1, k2, k3, fun H4 p hpn e4 hp => q _ p ((e12.trans e3).free hpn) ((e12.trans e3).trans e4) hp⟩
def checkAns (v : Uw50.Vine) (l c : List Nat) : Uw50.Ans := v.onHarvest l c fun _ => ⟨(v.loads l : Nat), [v.earns l, v.costs l, v.picking l]⟩
theorem refuse {v : Uw50.Vine} {l c : List Nat} (h : v.told l = false ∨ v.coloured c = false) (f : List (Nat × Nat) → Uw50.Ans) : v.onHarvest l c f = Uw50.ok (-1) := if_pos h
def sp_check_told (CV CP : Addr) : Sp := fun vs H Q _ => ∃ (a b c : Addr) (v : Uw50.Vine) (l cs : List Nat), vs = [.ref a, .ref b, .ref c] ∧ VineAt CV CP H a v ∧ H b = some (.lst (Ns l)) ∧ l.length ≤ 1000 ∧ H c = some (.lst (Ns cs)) ∧ cs.length ≤ 1000 ∧ ∀ H' p, H p = none → Same H H' → H' p = some (.lst (outV (checkAns v l cs))) → Q (.ref p) H'
theorem ok_check_told (T : Txt K mg CV CP CF CL) : Keeps P w K mg base 5 "check_told" ["vineyard", "plan", "colours"] (sp_check_told CV CP) := by
  refine T.d_check_told.ok sc_check_told (fun vs H Q E h => ?_) (fun f cdv A outer s H vs Q E hr h => ?_)
  · obtain ⟨a, b, c, v, l, cs, rfl, _⟩ := h
    rfl
  · obtain ⟨a, b, c, v, l, cs, rfl, hv, hb, hlz, hc, hcz, q⟩ := h
    refine ⟨_, (pss_cons (ps_if (PW.pt (pw_or (pt_not (pt_val (pe_callN (ok_is_plan T) (hr.mono (by decide)) rfl (pa_cons (pv 0) (pa_cons (pv 1) pa_nil))))) (pw_or1 (pt_not (pt_val (pe_callN (ok_are_colours T) (hr.mono (by decide)) rfl (pa_cons (pv 0) (pa_cons (pv 2) pa_nil))))))))
(pss_one (ps_ret (pe_lst (pa_cons (pe_const rfl T.g_NO_PLAN) pa_nil))))
pss_nil)
(pss_cons (ps_set (i := 3) sc_check_told.nd rfl (Or.inl rfl) (pe_callN (ok_against T) (hr.mono (by decide)) rfl (pa_cons (pv 0) (pa_cons (pv 1) (pa_cons (pv 2) pa_nil)))))
(pss_cons (ps_if (pt_cmpR op_gt (pe_callB call_len_seq (by rfl) T.b_len boot_len (pa_cons (pv 3) pa_nil)) pe_int (nomark _))
(pss_one (ps_ret (pv 3)))
pss_nil)
(pss_cons (ps_set (i := 4) sc_check_told.nd rfl (Or.inl rfl) (pe_callN (ok_picked_by T) (hr.mono (by decide)) rfl (pa_cons (pv 0) (pa_cons (pv 1) pa_nil))))
(pss_cons (ps_set (i := 5) sc_check_told.nd rfl (Or.inl rfl) (pe_callN (ok_days_picked T) (hr.mono (by decide)) rfl (pa_cons (pv 4) pa_nil)))
(pss_one (ps_ret (pe_lst (pa_cons (pe_callN (ok_loads_picked T) (hr.mono (by decide)) rfl (pa_cons (pv 4) pa_nil)) (pa_cons (pe_callN (ok_earned T) (hr.mono (by decide)) rfl (pa_cons (pv 0) (pa_cons (pv 1) pa_nil))) (pa_cons (pe_op op_mul (pe_fld (pv 0) rfl) (pv 5)) (pa_cons (pv 5) pa_nil)))))))))))), ?_⟩
    unfold checkAns at q
    refine ⟨_, rfl, _, rfl, a, b, v, l, rfl, hv, hb, hlz, fun H1 e1 => ⟨_, rfl, ?_⟩⟩
    cases ht : v.told l with
    | false =>
      rw [refuse (.inl ht)] at q
      exact iteT (iteT ⟨by show 1 ≤ sizeLine; decide, fun p hp => q _ p (e1.free hp) (e1.trans (sm_new hp)) upd_same⟩)
    | true =>
      refine iteF ⟨_, rfl, _, rfl, a, c, v, cs, rfl, hv.mono e1, e1 _ _ hc, hcz, fun H2 e2 => ⟨_, rfl, ?_⟩⟩
      have e12 := e1.trans e2
      cases hcol : v.coloured cs with
      | false =>
        rw [refuse (.inr hcol)] at q
        exact iteT ⟨by show 1 ≤ sizeLine; decide, fun p hp => q _ p (e12.free hp) (e12.trans (sm_new hp)) upd_same⟩
      | true =>
        have hn := (told_len ht).1
        refine iteF ⟨_, rfl, _, rfl, _, rfl, a, b, c, v, l, cs, rfl, hv.mono e12, e12 _ _ hb, hn, e12 _ _ hc, hcol, fun H3 p hpn e3 hp => ⟨_, rfl, p, _, rfl, .inl (SqLof hp), _, _, rfl, rfl, _, rfl, ?_⟩⟩
        have e13 := e12.trans e3
        rcases harvest_cases ht hcol with ⟨h1, h2⟩ | ⟨h1, n, h2, h3⟩
        · rw [h2] at q
          exact iteB (len_pos_dec h1) ⟨_, rfl, q _ p (e12.free hpn) e13 hp⟩
        · rw [h3] at q
          rw [h1]
          refine iteBF rfl ?_
          refine ⟨_, rfl, _, rfl, a, b, v, l, rfl, hv.mono e13, e13 _ _ hb, hn, fun H4 pk e4 hpk => ?_⟩
          refine ⟨_, rfl, pk, _, rfl, hpk, by rw [picks_len]; exact hv.ok.d4, fun H5 e5 => ?_⟩
          rw [picking_picks]
          refine ⟨_, rfl, pk, _, rfl, hpk.mono e5, by rw [picks_len]; exact hv.ok.d4, fun H6 e6 => ?_⟩
          have e16 := ((e13.trans e4).trans e5).trans e6
          refine ⟨_, rfl, _, rfl, a, b, v, l, rfl, hv.mono e16, e16 _ _ hb, hn, fun H7 e7 => ?_⟩
          have e17 := e16.trans e7
          have hcr := hv.ok.crew
          refine ⟨_, rfl, ?_⟩
          apply fldV ((hv.mono e17).cost T)
          refine ⟨_, rfl, _, _, rfl, rfl, .inl ⟨by omega, by omega⟩, _, rfl, by show 4 ≤ sizeLine; decide, fun p4 hp4 => q _ p4 (e17.free hp4) (e17.trans (sm_new hp4)) (upd_same.trans ?_)⟩
          rw [loads_picks]
          show some (HO.lst [N (v.loads l), N (v.earns l), V.int ((v.crew : Int) * (v.picking l : Int)), N (v.picking l)]) = some (HO.lst [N (v.loads l), N (v.earns l), N (v.costs l), N (v.picking l)])
          unfold Uw50.Vine.costs
          rw [show N (v.crew * v.picking l) = V.int ((v.crew : Int) * (v.picking l : Int)) from congrArg V.int (Int.natCast_mul _ _)]
def pressAns (v : Uw50.Vine) (l : List Nat) : Uw50.Ans := if v.told l = false then Uw50.ok (-1) else match v.badPlan l with
  | some a => a
  | none => ⟨((v.presses l).length : Nat), (v.presses l).head?.getD []⟩
def sp_press_told (CV CP : Addr) : Sp := fun vs H Q _ => ∃ (a b : Addr) (v : Uw50.Vine) (l : List Nat), vs = [.ref a, .ref b] ∧ VineAt CV CP H a v ∧ H b = some (.lst (Ns l)) ∧ l.length ≤ 1000 ∧ ∀ H' p, H p = none → Same H H' → H' p = some (.lst (outV (pressAns v l))) → Q (.ref p) H'
theorem ok_press_told (T : Txt K mg CV CP CF CL) : Keeps P w K mg base 4 "press_told" ["vineyard", "plan"] (sp_press_told CV CP) := by
  refine T.d_press_told.ok sc_press_told (fun vs H Q E h => ?_) (fun f cdv A outer s H vs Q E hr h => ?_)
  · obtain ⟨a, b, v, l, rfl, _⟩ := h
    rfl
  · obtain ⟨a, b, v, l, rfl, hv, hb, hlz, q⟩ := h
    refine ⟨_, (pss_cons (ps_if (pt_not (pt_val (pe_callN (ok_is_plan T) (hr.mono (by decide)) rfl (pa_cons (pv 0) (pa_cons (pv 1) pa_nil)))))
(pss_one (ps_ret (pe_lst (pa_cons (pe_const rfl T.g_NO_PLAN) pa_nil))))
pss_nil)
(pss_cons (ps_set (i := 2) sc_press_told.nd rfl (Or.inl rfl) (pe_callN (ok_against_plan T) (hr.mono (by decide)) rfl (pa_cons (pv 0) (pa_cons (pv 1) pa_nil))))
(pss_cons (ps_if (pt_cmpR op_gt (pe_callB call_len_seq (by rfl) T.b_len boot_len (pa_cons (pv 2) pa_nil)) pe_int (nomark _))
(pss_one (ps_ret (pv 2)))
pss_nil)
(pss_cons (ps_set (i := 3) sc_press_told.nd rfl (Or.inl rfl) (pe_callN (ok_right_ones T) (hr.mono (by decide)) rfl (pa_cons (pv 0) (pa_cons (pe_callN (ok_picked_by T) (hr.mono (by decide)) rfl (pa_cons (pv 0) (pa_cons (pv 1) pa_nil))) (pa_cons (pe_callN (ok_all_colours T) (hr.mono (by decide)) rfl (pa_cons (pv 0) pa_nil)) pa_nil)))))
(pss_cons (ps_if (pt_cmpR op_eq (pe_callB call_len_seq (by rfl) T.b_len boot_len (pa_cons (pv 3) pa_nil)) pe_int (nomark _))
(pss_one (ps_ret (pe_lst (pa_cons pe_int pa_nil))))
pss_nil)
(pss_one (ps_ret (pe_op op_cat (pe_lst (pa_cons (pe_callB call_len_seq (by rfl) T.b_len boot_len (pa_cons (pv 3) pa_nil)) pa_nil)) (pe_ix ix_list (pv 3) pe_int (fun _ _ => rfl)))))))))), ?_⟩
    unfold pressAns at q
    refine ⟨_, rfl, _, rfl, a, b, v, l, rfl, hv, hb, hlz, fun H1 e1 => ⟨_, rfl, ?_⟩⟩
    cases ht : v.told l with
    | false =>
      rw [if_pos ht] at q
      exact iteT ⟨by show 1 ≤ sizeLine; decide, fun p hp => q _ p (e1.free hp) (e1.trans (sm_new hp)) upd_same⟩
    | true =>
      rw [if_neg (by rw [ht]; exact fun z => Bool.noConfusion z)] at q
      have hn := (told_len ht).1
      refine iteF ⟨_, rfl, _, rfl, a, b, v, l, rfl, hv.mono e1, e1 _ _ hb, hn, fun H2 p hpn e2 hp => ⟨_, rfl, p, _, rfl, .inl (SqLof hp), _, _, rfl, rfl, _, rfl, ?_⟩⟩
      have e12 := e1.trans e2
      cases hbp : v.badPlan l with
      | some x =>
        rw [hbp] at q hp
        exact iteB (len_pos_dec (xs := badL (some x)) (Nat.succ_pos _)) ⟨_, rfl, q _ p (e1.free hpn) e12 hp⟩
      | none =>
        rw [hbp] at q
        refine iteBF rfl ?_
        refine ⟨_, rfl, _, rfl, _, rfl, a, b, v, l, rfl, hv.mono e12, e12 _ _ hb, hn, fun H3 pk e3 hpk => ⟨_, rfl, a, v, rfl, hv.mono (e12.trans e3), fun H4 pc e4 hpc => ?_⟩⟩
        have e14 := (e12.trans e3).trans e4
        refine ⟨a, pk, pc, v, l, _, rfl, hv.mono e14, hpk.mono e4, hpc, fun r hr => rows_coloured hr, rows1_len hv.ok, fun H5 pr e5 hpr => ?_⟩
        have e15 := e14.trans e5
        obtain ⟨ps, r1, r2, r3⟩ := hpr
        have hps : v.presses l = ps.map (·.2) := r1.symm
        refine ⟨_, rfl, pr, _, rfl, .inl (SqLof r2), rfl, _, rfl, ?_⟩
        cases ps with
        | nil =>
          rw [hps] at q
          exact iteD rfl ⟨by show 1 ≤ sizeLine; decide, fun p6 hp6 => q _ p6 (e15.free hp6) (e15.trans (sm_new hp6)) upd_same⟩
        | cons z zs =>
          have hne : ¬ V.int (((z :: zs).map fun x => V.ref x.1).length : Nat) = V.int 0 := by
            intro h
            injection h with h
            rw [List.length_map, List.length_cons] at h
            omega
          refine iteDN hne ?_
          refine ⟨_, rfl, pr, _, rfl, .inl (SqLof r2), by show 1 ≤ sizeLine; decide, fun p6 hp6 => ?_⟩
          have h6 : Same H5 (upd H5 p6 (.lst [V.int (((z :: zs).map fun x => V.ref x.1).length : Nat)])) := sm_new hp6
          have hz1 := r3 z List.mem_cons_self
          have hz2 : z.2.length = v.days := by
            have h1 : z.2 ∈ v.presses l := by
              rw [hps]
              exact List.mem_cons_self
            exact (rows_row (List.mem_filter.mp h1).1).1
          have hd4 := hv.ok.d4
          refine ⟨_, rfl, pr, _, _, _, rfl, rfl, SqLof (h6 _ _ r2), atI_nat (j := 0) rfl, p6, z.1, _, _, rfl, rfl, upd_same, h6 _ _ hz1, ?_, fun p7 hp7 => q _ p7 ((e15.trans h6).free hp7) ((e15.trans h6).trans (sm_new hp7)) (upd_same.trans ?_)⟩
          · rw [Ns_len, hz2]
            show 1 + v.days ≤ sizeLine
            exact Nat.le_trans (by omega : 1 + v.days ≤ 5) (by decide)
          · rw [hps]
            show some (HO.lst (V.int (((z :: zs).map fun x => V.ref x.1).length : Nat) :: Ns z.2)) = some (HO.lst (V.int ((((z :: zs).map fun x : Addr × List Nat => x.2).length : Nat) : Int) :: Ns z.2))
            rw [List.length_map, List.length_map]
def goesAns (v : Uw50.Vine) (t : Nat) (l c : List Nat) : Uw50.Ans := if v.told l = false ∨ v.coloured c = false then Uw50.ok (-1) else if v.days < t then Uw50.ok (-2) else match v.goes t l c with
  | none => Uw50.ok (-11)
  | some b => v.tells b
def sp_goes_told (CV CP : Addr) : Sp := fun vs H Q _ => ∃ (a b c : Addr) (v : Uw50.Vine) (t : Nat) (l cs : List Nat), vs = [.ref a, N t, .ref b, .ref c] ∧ VineAt CV CP H a v ∧ H b = some (.lst (Ns l)) ∧ l.length ≤ 1000 ∧ H c = some (.lst (Ns cs)) ∧ cs.length ≤ 1000 ∧ ∀ H' p, H p = none → Same H H' → H' p = some (.lst (outV (goesAns v t l cs))) → Q (.ref p) H'
theorem ok_goes_told (T : Txt K mg CV CP CF CL) : Keeps P w K mg base 6 "goes_told" ["vineyard", "day", "plan", "colours"] (sp_goes_told CV CP) := by
  refine T.d_goes_told.ok sc_goes_told (fun vs H Q E h => ?_) (fun f cdv A outer s H vs Q E hr h => ?_)
  · obtain ⟨a, b, c, v, t, l, cs, rfl, _⟩ := h
    rfl
  · obtain ⟨a, b, c, v, t, l, cs, rfl, hv, hb, hlz, hc, hcz, q⟩ := h
    refine ⟨_, (pss_cons (ps_if (PW.pt (pw_or (pt_not (pt_val (pe_callN (ok_is_plan T) (hr.mono (by decide)) rfl (pa_cons (pv 0) (pa_cons (pv 2) pa_nil))))) (pw_or1 (pt_not (pt_val (pe_callN (ok_are_colours T) (hr.mono (by decide)) rfl (pa_cons (pv 0) (pa_cons (pv 3) pa_nil))))))))
(pss_one (ps_ret (pe_lst (pa_cons (pe_const rfl T.g_NO_PLAN) pa_nil))))
pss_nil)
(pss_cons (ps_if (pt_cmpR op_gt (pv 1) (pe_fld (pv 0) rfl) (nomark _))
(pss_one (ps_ret (pe_lst (pa_cons (pe_const rfl T.g_NO_DAY_asking) pa_nil))))
pss_nil)
(pss_cons (ps_set (i := 4) sc_goes_told.nd rfl (Or.inl rfl) (pe_callN (ok_best_of T) (hr.mono (by decide)) rfl (pa_cons (pv 0) (pa_cons (pe_callN (ok_plans_from T) (hr.mono (by decide)) rfl (pa_cons (pv 0) (pa_cons (pv 2) (pa_cons (pv 1) pa_nil)))) (pa_cons (pe_callN (ok_colours_from T) (hr.mono (by decide)) rfl (pa_cons (pv 0) (pa_cons (pv 3) (pa_cons (pv 1) pa_nil)))) pa_nil)))))
(pss_cons (ps_if (pt_cmpR op_isN (pv 4) pe_non (nomark _))
(pss_one (ps_ret (pe_lst (pa_cons (pe_const rfl T.g_NONE_THERE) pa_nil))))
pss_nil)
(pss_one (ps_ret (pe_callN (ok_found_told T) (hr.mono (by decide)) rfl (pa_cons (pv 0) (pa_cons (pv 4) pa_nil))))))))), ?_⟩
    unfold goesAns at q
    refine ⟨_, rfl, _, rfl, a, b, v, l, rfl, hv, hb, hlz, fun H1 e1 => ⟨_, rfl, ?_⟩⟩
    cases ht : v.told l with
    | false =>
      rw [if_pos (.inl ht)] at q
      exact iteT (iteT ⟨by show 1 ≤ sizeLine; decide, fun p hp => q _ p (e1.free hp) (e1.trans (sm_new hp)) upd_same⟩)
    | true =>
      refine iteF ⟨_, rfl, _, rfl, a, c, v, cs, rfl, hv.mono e1, e1 _ _ hc, hcz, fun H2 e2 => ⟨_, rfl, ?_⟩⟩
      have e12 := e1.trans e2
      cases hcol : v.coloured cs with
      | false =>
        rw [if_pos (.inr hcol)] at q
        exact iteT ⟨by show 1 ≤ sizeLine; decide, fun p hp => q _ p (e12.free hp) (e12.trans (sm_new hp)) upd_same⟩
      | true =>
        rw [if_neg (by rw [ht, hcol]; intro h; rcases h with h | h <;> cases h)] at q
        have hn := (told_len ht).1
        refine iteF ⟨_, rfl, ?_⟩
        refine ⟨_, rfl, ?_⟩
        apply fldV ((hv.mono e12).days T)
        refine ⟨_, _, rfl, rfl, _, rfl, ite2 (fun c1 => ?_) (fun c1 => ?_)⟩
        · have d1 := dN c1
          rw [if_pos d1] at q
          exact ⟨by show 1 ≤ sizeLine; decide, fun p hp => q _ p (e12.free hp) (e12.trans (sm_new hp)) upd_same⟩
        · have d1 := dNf c1
          rw [if_neg d1] at q
          refine ⟨_, rfl, _, rfl, _, rfl, _, rfl, a, b, v, t, l, rfl, hv.mono e12, e12 _ _ hb, hn, fun H3 p3 e3 hp3 => ⟨_, rfl, _, rfl, _, rfl, a, c, v, t, cs, rfl, hv.mono (e12.trans e3), (e12.trans e3) _ _ hc, fun H4 p4 e4 hp4 => ?_⟩⟩
          have e14 := (e12.trans e3).trans e4
          have hl2 : ∀ m ∈ (Uw50.rows v.days v.count).filter (goesB v t l), m.length = v.count := fun m hm => (rows_row (List.mem_filter.mp hm).1).1
          have hr2 : ∀ r ∈ (Uw50.rows 1 v.days).filter (fun d => d.take t == cs.take t), r.length = v.days := fun r hr => (rows_row (List.mem_filter.mp hr).1).1
          refine ⟨a, p3, p4, v, _, _, rfl, hv.mono e14, hp3.mono e4, hl2, hp4, fun r hr => rows_coloured (List.mem_filter.mp hr).1, Nat.le_trans (List.length_filter_le _ _) (rows1_len hv.ok), fun H5 y e5 hy => ?_⟩
          have e15 := e14.trans e5
          rw [goes_fold] at q
          refine ⟨_, rfl, rfl, _, rfl, ?_⟩
          cases hbf : bestFold v ((Uw50.rows 1 v.days).filter fun d => d.take t == cs.take t) ((Uw50.rows v.days v.count).filter (goesB v t l)) with
          | none =>
            rw [hbf] at q hy
            obtain rfl : y = V.non := hy
            exact iteD rfl ⟨by show 1 ≤ sizeLine; decide, fun p hp => q _ p (e15.free hp) (e15.trans (sm_new hp)) upd_same⟩
          | some bb =>
            rw [hbf] at q hy
            obtain ⟨f0, rfl, hF⟩ := hy
            obtain ⟨k1, k2, k3⟩ := best_pre hl2 hr2 hbf
            exact iteDN ref_non ⟨_, rfl, _, rfl, a, f0, v, bb, rfl, hv.mono e15, hF, k1, k2, k3, fun H6 p hpn e6 hp => q _ p (e15.free hpn) (e15.trans e6) hp⟩
def nightsAns (v : Uw50.Vine) (l c : List Nat) : Uw50.Ans := v.onHarvest l c fun n => ⟨(v.days : Nat), n.flatMap fun x => [x.1, x.2]⟩
def sp_nights_told (CV CP : Addr) : Sp := fun vs H Q _ => ∃ (a b c : Addr) (v : Uw50.Vine) (l cs : List Nat), vs = [.ref a, .ref b, .ref c] ∧ VineAt CV CP H a v ∧ H b = some (.lst (Ns l)) ∧ l.length ≤ 1000 ∧ H c = some (.lst (Ns cs)) ∧ cs.length ≤ 1000 ∧ ∀ H' p, H p = none → Same H H' → H' p = some (.lst (outV (nightsAns v l cs))) → Q (.ref p) H'
theorem ok_nights_told (T : Txt K mg CV CP CF CL) : Keeps P w K mg base 5 "nights_told" ["vineyard", "plan", "colours"] (sp_nights_told CV CP) := by
  refine T.d_nights_told.ok sc_nights_told (fun vs H Q E h => ?_) (fun f cdv A outer s H vs Q E hr h => ?_)
  · obtain ⟨a, b, c, v, l, cs, rfl, _⟩ := h
    rfl
  · obtain ⟨a, b, c, v, l, cs, rfl, hv, hb, hlz, hc, hcz, q⟩ := h
    refine ⟨_, (pss_cons (ps_if (PW.pt (pw_or (pt_not (pt_val (pe_callN (ok_is_plan T) (hr.mono (by decide)) rfl (pa_cons (pv 0) (pa_cons (pv 1) pa_nil))))) (pw_or1 (pt_not (pt_val (pe_callN (ok_are_colours T) (hr.mono (by decide)) rfl (pa_cons (pv 0) (pa_cons (pv 2) pa_nil))))))))
(pss_one (ps_ret (pe_lst (pa_cons (pe_const rfl T.g_NO_PLAN) pa_nil))))
pss_nil)
(pss_cons (ps_set (i := 3) sc_nights_told.nd rfl (Or.inl rfl) (pe_callN (ok_against T) (hr.mono (by decide)) rfl (pa_cons (pv 0) (pa_cons (pv 1) (pa_cons (pv 2) pa_nil)))))
(pss_cons (ps_if (pt_cmpR op_gt (pe_callB call_len_seq (by rfl) T.b_len boot_len (pa_cons (pv 3) pa_nil)) pe_int (nomark _))
(pss_one (ps_ret (pv 3)))
pss_nil)
(pss_cons (ps_set (i := 3) sc_nights_told.nd rfl (Or.inl rfl) (pe_lst (pa_cons (pe_fld (pv 0) rfl) pa_nil)))
(pss_cons (ps_for PassesOwn.never rfl (pi_list (pe_ix ix_tup (pe_callN (ok_course T) (hr.mono (by decide)) rfl (pa_cons (pv 0) (pa_cons (pe_callN (ok_picked_by T) (hr.mono (by decide)) rfl (pa_cons (pv 0) (pa_cons (pv 1) pa_nil))) (pa_cons (pv 2) pa_nil)))) pe_int (fun _ _ => rfl))) (pg_name (i := 4) sc_nights_told.nd rfl (Or.inl rfl))
(pss_cons (ps_expr (pe_bm PySem.F.plainAttrs_list PySem.F.slot_list_append PySem.F.type_list_append mt_append (pv 3) (pa_cons (pe_ix ix_tup (pv 4) pe_int (fun _ _ => rfl)) pa_nil)))
(pss_one (ps_expr (pe_bm PySem.F.plainAttrs_list PySem.F.slot_list_append PySem.F.type_list_append mt_append (pv 3) (pa_cons (pe_ix ix_tup (pv 4) pe_int (fun _ _ => rfl)) pa_nil))))))
(pss_one (ps_ret (pv 3)))))))), ?_⟩
    unfold nightsAns at q
    refine ⟨_, rfl, _, rfl, a, b, v, l, rfl, hv, hb, hlz, fun H1 e1 => ⟨_, rfl, ?_⟩⟩
    cases ht : v.told l with
    | false =>
      rw [refuse (.inl ht)] at q
      exact iteT (iteT ⟨by show 1 ≤ sizeLine; decide, fun p hp => q _ p (e1.free hp) (e1.trans (sm_new hp)) upd_same⟩)
    | true =>
      refine iteF ⟨_, rfl, _, rfl, a, c, v, cs, rfl, hv.mono e1, e1 _ _ hc, hcz, fun H2 e2 => ⟨_, rfl, ?_⟩⟩
      have e12 := e1.trans e2
      cases hcol : v.coloured cs with
      | false =>
        rw [refuse (.inr hcol)] at q
        exact iteT ⟨by show 1 ≤ sizeLine; decide, fun p hp => q _ p (e12.free hp) (e12.trans (sm_new hp)) upd_same⟩
      | true =>
        have hn := (told_len ht).1
        refine iteF ⟨_, rfl, _, rfl, _, rfl, a, b, c, v, l, cs, rfl, hv.mono e12, e12 _ _ hb, hn, e12 _ _ hc, hcol, fun H3 p hpn e3 hp => ⟨_, rfl, p, _, rfl, .inl (SqLof hp), _, _, rfl, rfl, _, rfl, ?_⟩⟩
        have e13 := e12.trans e3
        rcases harvest_cases ht hcol with ⟨h1, h2⟩ | ⟨h1, n, h2, h3⟩
        · rw [h2] at q
          exact iteB (len_pos_dec h1) ⟨_, rfl, q _ p (e12.free hpn) e13 hp⟩
        · rw [h3] at q
          rw [h1]
          refine iteBF rfl ?_
          have hd4 := hv.ok.d4
          have hnl := nights_len h2
          -- found = [vineyard.days]
          refine ⟨_, rfl, ?_⟩
          apply fldV ((hv.mono e13).days T)
          refine ⟨by show 1 ≤ sizeLine; decide, fun p4 hp4 => ?_⟩
          have h4 : Same H3 (upd H3 p4 (.lst [N v.days])) ∧ (upd H3 p4 (.lst [N v.days])) p4 = some (.lst [N v.days]) := ⟨sm_new hp4, upd_same⟩
          have hp40 : H p4 = none := e13.free hp4
          generalize upd H3 p4 (.lst [N v.days]) = H4 at h4 ⊢
          have e14 := e13.trans h4.1
          refine ⟨_, rfl, _, rfl, _, rfl, a, b, v, l, rfl, hv.mono e14, e14 _ _ hb, hn, fun H5 pk e5 hpk => ⟨_, rfl, a, pk, c, v, l, cs, rfl, hv.mono (e14.trans e5), hpk, (e14.trans e5) _ _ hc, hcol, fun H6 t x y _ e6 ht6 hx6 hy6 => ?_⟩⟩
          have e16 := (e14.trans e5).trans e6
          obtain ⟨ts, t1, t2, t3⟩ := hy6 n h2
          have hp6 : H6 p4 = some (.lst [N v.days]) := (e5.trans e6) _ _ h4.2
          have hyp : y ≠ p4 := ne_of t2 hp6 (by
            intro z
            injection z with z
            cases ts with
            | nil => cases z
            | cons u us =>
              injection z with z1 z2
              cases z1)
          have htl : ts.length = v.days := by
            have h7 := congrArg List.length t1
            rw [List.length_map, hnl] at h7
            exact h7
          refine ⟨t, _, _, _, rfl, rfl, SqTof ht6, two1, y, rfl, ⟨_, SqLof t2⟩, for_list (xs := ts.map fun x => V.ref x.1) (fun i σ H7 => ∃ z, σ = [some (.ref a), some (.ref b), some (.ref c), some (.ref p4), z] ∧ Same H H7 ∧ H7 y = some (.lst (ts.map fun x => .ref x.1)) ∧ (∀ x ∈ ts, H7 x.1 = some (.tup [N x.2.1, N x.2.2])) ∧
            H7 p4 = some (.lst (N v.days :: Ns ((n.take i).flatMap fun x => [x.1, x.2])))) ⟨_, rfl, e16, t2, t3, hp6⟩ (fun i σ H7 _ ⟨_, _, _, h, _⟩ => SqLof h) ?_ ?_⟩
          · rintro i xx σ H7 hi ⟨z, rfl, e7, y2, y3, y4⟩
            obtain ⟨tt, ab, hti, rfl⟩ := refs_get hi
            have htt := y3 _ (List.mem_of_getElem? hti)
            have hni : n[i]? = some ab := by
              rw [← t1, List.getElem?_map, hti]
              rfl
            have hiv : i < v.days := by
              rw [← htl]
              exact (List.getElem?_eq_some_iff.mp hti).1
            have htp : tt ≠ p4 := ne_of htt y4 (by intro z; cases z)
            have hfl : ((n.take i).flatMap fun x => [x.1, x.2]).length = i * 2 := by
              rw [flatMap_len _ 2 _ (fun _ _ => rfl), List.length_take, hnl, Nat.min_eq_left (Nat.le_of_lt hiv)]
            refine ⟨_, rfl, .inl ⟨rfl, _, SqLof y4⟩, _, rfl, tt, _, _, _, rfl, rfl, SqTof htt, two0, p4, _, _, rfl, rfl, y4, ?_, ?_⟩
            · rw [List.length_cons, Ns_len, hfl]
              exact Nat.lt_of_lt_of_le (by omega : i * 2 + 1 < 10) (by decide)
            refine ⟨_, rfl, .inl ⟨rfl, _, SqLof upd_same⟩, _, rfl, tt, _, _, _, rfl, rfl, SqTof ((upd_ne htp).trans htt), two1, p4, _, _, rfl, rfl, upd_same, ?_, ?_⟩
            · rw [List.length_append, List.length_cons, Ns_len, hfl]
              exact Nat.lt_of_lt_of_le (by show i * 2 + 1 + 1 < 11; omega) (by decide)
            · refine ⟨_, rfl, sm_mut (sm_mut e7 hp40) hp40, ?_, fun x hx => ?_, ?_⟩
              · rw [upd_ne hyp, upd_ne hyp]
                exact y2
              · have h8 := y3 x hx
                have h9 : x.1 ≠ p4 := ne_of h8 y4 (by intro z; cases z)
                rw [upd_ne h9, upd_ne h9]
                exact h8
              · rw [upd_same, flatMap_take _ hni]
                have hm : Ns (((n.take i).flatMap fun x => [x.1, x.2]) ++ [ab.1, ab.2]) = Ns ((n.take i).flatMap fun x => [x.1, x.2]) ++ [N ab.1, N ab.2] := List.map_append ..
                rw [hm, List.append_assoc]
                rfl
          · rintro σ H7 ⟨z, rfl, e7, y2, y3, y4⟩
            rw [List.length_map, htl.trans hnl.symm, List.take_length] at y4
            exact ⟨_, rfl, q _ p4 hp40 e7 y4⟩
end
end Vh

set_option Elab.async false
set_option linter.all false
set_option maxRecDepth 100000
set_option maxHeartbeats 4000000
namespace Vh
open PySem PySem.Spec PyProof.Rows L2 VhM
theorem put_Line (x0 : V) : putF "vineyard" x0 ([]) = ([("vineyard", x0)] : List (Str × V)) := by
  rw [show putF "vineyard" x0 [] = ([("vineyard", x0)] : List (Str × V)) from rfl]

theorem VineG.mono {CV CP : Addr} {G H H' : Hp} {a : Addr} {v : Uw50.Vine} (e : Same H H') (h : VineG CV CP G H a v) : VineG CV CP G H' a v := by
  obtain ⟨ok, dx, r, ps, qs, g1, g2, g3, h1, h2, h3, h4, h5⟩ := h
  exact ⟨ok, dx, r, ps, qs, g1, g2, g3, e _ _ h1, e _ _ h2, h3, e _ _ h4, fun x hx => (h5 x hx).mono e⟩
theorem VineG.less {CV CP : Addr} {G G' H : Hp} {a : Addr} {v : Uw50.Vine} (e : Same G' G) (h : VineG CV CP G H a v) : VineG CV CP G' H a v := by
  obtain ⟨ok, dx, r, ps, qs, g1, g2, g3, h1, h2, h3, h4, h5⟩ := h
  exact ⟨ok, dx, r, ps, qs, e.free g1, e.free g2, g3, h1, h2, h3, h4, h5⟩
/-- a line (few fields) changes: the vineyard stands -/
theorem VineG.beside {CV CP C : Addr} {G H : Hp} {a p dx0 : Addr} {v : Uw50.Vine} {fs : List (Str × V)} {o : HO} (h : VineG CV CP G H a v) (hp : H p = some (.ins C dx0 fs)) (hl : fs.length ≤ 1) : VineG CV CP G (upd H p o) a v := by
  obtain ⟨ok, dx, r, ps, qs, g1, g2, g3, h1, h2, h3, h4, h5⟩ := h
  have na : a ≠ p := ne_of h1 hp (by
    intro z
    injection z with z1 z2 z3
    rw [← z3] at hl
    exact absurd hl (by show ¬ 7 ≤ 1; decide))
  refine ⟨ok, dx, r, ps, qs, g1, g2, g3, (upd_ne na).trans h1, (upd_ne (ne_of h2 hp (by intro z; cases z))).trans h2, h3, (upd_ne (ne_of h4 hp (by intro z; cases z))).trans h4, fun x hx => ?_⟩
  obtain ⟨d, hx2⟩ := h5 x hx
  have nx : x.1 ≠ p := ne_of hx2 hp (by
    intro z
    injection z with z1 z2 z3
    rw [← z3] at hl
    exact absurd hl (by show ¬ 6 ≤ 1; decide))
  exact ⟨d, (upd_ne nx).trans hx2⟩
structure LineG (CV CP CL : Addr) (G H : Hp) (L : Addr) (v : Uw50.Vine) : Prop where
  same : Same G H
  new : G L = none
  ex : ∃ dx a, H L = some (.ins CL dx (lineF a)) ∧ VineG CV CP G H a v
theorem LineG.mono {CV CP CL : Addr} {G H H' : Hp} {L : Addr} {v : Uw50.Vine} (e : Same H H') (h : LineG CV CP CL G H L v) : LineG CV CP CL G H' L v := by
  obtain ⟨s, n, dx, a, h1, h2⟩ := h
  exact ⟨s.trans e, n, dx, a, e _ _ h1, h2.mono e⟩
/-- instances stand -/
def SameI (H H' : Hp) : Prop := ∀ b C dx fs, H b = some (.ins C dx fs) → H' b = some (.ins C dx fs)
theorem rainL_count {v : Uw50.Vine} (ok : VOk v) : Uw50.total (rainL v) = v.rain.length := rain_count v.days v.rain ok.nd ok.rd
theorem rainL_set (v : Uw50.Vine) (d y : Nat) (hy : y ≤ 1) : (rainL v).set d y = rainL { v with rain := rainTo v.rain d y } := by
  apply List.ext_getElem?
  intro i
  unfold rainL
  rw [List.getElem?_set, List.getElem?_map, List.length_map, List.length_range]
  by_cases hi : i < v.days
  · rw [List.getElem?_map, List.getElem?_range hi]
    show _ = some (if (rainTo v.rain d y).contains i = true then 1 else 0)
    rw [rainTo_contains hy]
    by_cases c : d = i
    · subst c
      rw [if_pos rfl, if_pos hi, if_pos rfl]
    · rw [if_neg c, if_neg (fun z => c z.symm)]
      rfl
  · have e : (List.range v.days)[i]? = none := by
      rw [List.getElem?_eq_none_iff, List.length_range]
      omega
    rw [List.getElem?_map]
    show _ = Option.map _ (List.range v.days)[i]?
    rw [e]
    by_cases c : d = i
    · subst c
      rw [if_pos rfl, if_neg hi]
      rfl
    · rw [if_neg c]
      rfl
theorem Ns_set (l : List Nat) (d y : Nat) : (Ns l).set d (N y) = Ns (l.set d y) := (List.map_set ..).symm
theorem ixN_nat {n j : Nat} (hj : j < n) : ixN n (j : Int) = some j := by
  unfold ixN
  rw [if_pos (by omega), if_pos (by omega)]
  simp
theorem beginOk_spec {n h p s c : Nat} : beginOk n [h, p, s] c = !decide (n < 1 ∨ Uw50.DAYS < n ∨ Uw50.MOST < h ∨ Uw50.MOST < p ∨ Uw50.MOST < s ∨ Uw50.CREW < c) := by
  unfold beginOk Uw50.DAYS Uw50.MOST Uw50.CREW
  by_cases e : n < 1 ∨ 4 < n ∨ 1000 < h ∨ 1000 < p ∨ 1000 < s ∨ 100000 < c
  · rw [decide_eq_true e]
    simp only [List.all_cons, List.all_nil, Bool.not_true, Bool.and_eq_false_iff, decide_eq_false_iff_not, Bool.and_true]
    omega
  · rw [decide_eq_false e]
    simp only [List.all_cons, List.all_nil, Bool.not_false, Bool.and_eq_true, decide_eq_true_eq, Bool.and_true]
    omega
section
variable {P : Program} {w : World} {K : PySem.W.Frag} {mg : Str → Option Value} {base : Heap} {CV CP CF CL : Addr}
/-! ### harvests -/
theorem LineG.field (T : Txt K mg CV CP CF CL) {G H : Hp} {L : Addr} {v : Uw50.Vine} (h : LineG CV CP CL G H L v) : ∃ dx a, FieldAt K H L "vineyard" (.ref a) ∧ H L = some (.ins CL dx (lineF a)) ∧ VineG CV CP G H a v := by
  obtain ⟨s, n, dx, a, h1, h2⟩ := h
  exact ⟨dx, a, ⟨CL, dx, _, h1, T.c_Line, T.n_Line_vineyard, lk_here⟩, h1, h2⟩
def sp_Line_init (CV CP CL : Addr) : Sp := fun vs H Q _ => ∃ (p dx : Addr), vs = [.ref p] ∧ H p = some (.ins CL dx []) ∧
  ∀ H', (∀ b o, H b = some o → b ≠ p → H' b = some o) → (∃ dx a, H' p = some (.ins CL dx (lineF a)) ∧ VineG CV CP H H' a (vine0 1 0 0 0 0)) → Q .non H'
theorem vok0 : VOk (vine0 1 0 0 0 0) := ⟨by decide, by decide, by decide, fun p hp => (by cases hp), by decide, by decide, by decide, by decide, List.nodup_nil, fun d hd => (by cases hd)⟩
theorem ok_Line_init (T : Txt K mg CV CP CF CL) : Makes P w K mg base 3 "Line" CL ["self"] (sp_Line_init CV CP CL) := by
  refine T.m_Line.ok sc_Line_init (fun vs H Q E h => ?_) (fun f cdv A outer s H vs Q E hr h => ?_)
  · obtain ⟨p, dx, rfl, _⟩ := h
    rfl
  · obtain ⟨p, dx, rfl, hp, k⟩ := h
    refine ⟨_, (pss_one (ps_fld (pv 0) (pe_makeN (ok_Vineyard_init T) (hr.mono (by decide)) rfl (pa_cons pe_int (pa_cons pe_int (pa_cons pe_int (pa_cons pe_int (pa_cons pe_int pa_nil)))))) rfl)), ?_⟩
    intro x dx1 hx hdx _
    have e1 : Same H (upd (upd H dx1 (.own x)) x (.ins CV dx1 [])) := made hx hdx
    have nxp : x ≠ p := (ne_of_none hp hx).symm
    refine ⟨x, dx1, 1, 0, 0, 0, 0, rfl, upd_same, vok0, fun H2 k2 hV => ⟨rfl, ?_⟩⟩
    have hp2 : H2 p = some (.ins CL dx []) := k2 _ _ (e1 _ _ hp) nxp.symm
    refine ⟨_, rfl, p, CL, dx, _, rfl, hp2, T.c_Line, T.n_Line_vineyard, (by show 0 < 1000; decide), ?_⟩
    refine k _ (fun b o hb hbp => ?_) ⟨dx, x, upd_same, (hV.less e1).beside hp2 (Nat.zero_le _)⟩
    rw [upd_ne hbp]
    exact k2 _ _ (e1 _ _ hb) (ne_of_none hb hx)
def sp_begun (CV CP CL : Addr) : Sp := fun vs H Q _ => ∃ (G : Hp) (L b : Addr) (v : Uw50.Vine) (n h p s c : Nat), vs = [.ref L, N n, .ref b, N c] ∧ LineG CV CP CL G H L v ∧ H b = some (.lst (Ns [h, p, s])) ∧
  ∀ H', LineG CV CP CL G H' L (Uw50.step v (.begins n h p s c)).1 → Q (.int (Uw50.step v (.begins n h p s c)).2.v) H'
theorem ok_begun (T : Txt K mg CV CP CF CL) : Keeps P w K mg base 3 "begun" ["line", "days", "loads", "cost"] (sp_begun CV CP CL) := by
  refine T.d_begun.ok sc_begun (fun vs H Q E h => ?_) (fun f cdv A outer s H vs Q E hr h => ?_)
  · obtain ⟨G, L, b, v, n, h, p, s, c, rfl, _⟩ := h
    rfl
  · obtain ⟨G, L, b, v, n, h, p, s', c, rfl, hL, hb, q⟩ := h
    refine ⟨_, (pss_cons (ps_if (pt_not (pt_val (pe_callN (ok_may_begin T) (hr.mono (by decide)) rfl (pa_cons (pv 1) (pa_cons (pv 2) (pa_cons (pv 3) pa_nil))))))
(pss_one (ps_ret (pe_const rfl T.g_NOT_AS_TOLD)))
pss_nil)
(pss_cons (ps_fld (pv 0) (pe_makeN (ok_Vineyard_init T) (hr.mono (by decide)) rfl (pa_cons (pv 1) (pa_cons (pe_ix ix_list (pv 2) pe_int (fun _ _ => rfl)) (pa_cons (pe_ix ix_list (pv 2) pe_int (fun _ _ => rfl)) (pa_cons (pe_ix ix_list (pv 2) pe_int (fun _ _ => rfl)) (pa_cons (pv 3) pa_nil)))))) rfl)
(pss_one (ps_ret (pv 1))))), ?_⟩
    refine ⟨_, rfl, _, rfl, _, rfl, b, n, [h, p, s'], c, rfl, hb, by show 3 ≤ 1000; decide, fun H1 e1 => ⟨_, rfl, ?_⟩⟩
    have hb1 := e1 _ _ hb
    unfold Uw50.step at q
    rw [beginOk_spec]
    by_cases hok : n < 1 ∨ Uw50.DAYS < n ∨ Uw50.MOST < h ∨ Uw50.MOST < p ∨ Uw50.MOST < s' ∨ Uw50.CREW < c
    · dsimp only at q
      rw [if_pos hok] at q
      rw [decide_eq_true hok]
      exact iteT (q _ (hL.mono e1))
    · dsimp only at q
      rw [if_neg hok] at q
      rw [decide_eq_false hok]
      refine iteF ?_
      refine ⟨_, rfl, _, rfl, b, _, _, _, rfl, rfl, SqLof hb1, atI_nat (j := 0) rfl, _, rfl, b, _, _, _, rfl, rfl, SqLof hb1, atI_nat (j := 1) rfl, _, rfl, b, _, _, _, rfl, rfl, SqLof hb1, atI_nat (j := 2) rfl, _, rfl, fun x dx hx hdx _ => ?_⟩
      have e2 : Same H1 (upd (upd H1 dx (.own x)) x (.ins CV dx [])) := made hx hdx
      have ok0 : VOk (vine0 n h p s' c) := by
        unfold Uw50.DAYS Uw50.MOST Uw50.CREW at hok
        have b1 : 1 ≤ n := by omega
        have b2 : n ≤ 4 := by omega
        have b3 : h ≤ 1000 := by omega
        have b4 : p ≤ 1000 := by omega
        have b5 : s' ≤ 1000 := by omega
        have b6 : c ≤ 100000 := by omega
        exact ⟨b1, b2, Nat.zero_le _, fun p hp => (by cases hp), b3, b4, b5, b6, List.nodup_nil, fun d hd => (by cases hd)⟩
      refine ⟨x, dx, n, h, p, s', c, rfl, upd_same, ok0, fun H2 k2 hV => ⟨rfl, ?_⟩⟩
      obtain ⟨sg, ng, dl, a, hl, _⟩ := hL.mono e1
      have nLx : L ≠ x := ne_of_none hl hx
      have hl2 : H2 L = some (.ins CL dl (lineF a)) := k2 _ _ (e2 _ _ hl) nLx
      refine ⟨_, rfl, L, CL, dl, _, rfl, hl2, T.c_Line, T.n_Line_vineyard, (by show 1 < 1000; decide), ?_⟩
      refine ⟨_, rfl, q _ ⟨fun b o hbo => ?_, ng, dl, x, ?_, (hV.less (sg.trans e2)).beside hl2 (Nat.le_refl _)⟩⟩
      · rw [upd_ne (ne_of_none hbo ng)]
        exact k2 _ _ (e2 _ _ (sg _ _ hbo)) (ne_of_none (sg _ _ hbo) hx)
      · rw [upd_same]
        unfold lineF
        show some (HO.ins CL dl (if ("vineyard" : Str) = "vineyard" then [(("vineyard" : Str), V.ref x)] else _)) = _
        rw [if_pos rfl]
def sp_rained (CV CP : Addr) : Sp := fun vs H Q _ => ∃ (G : Hp) (a : Addr) (v : Uw50.Vine) (d y : Nat), vs = [.ref a, N d, N y] ∧ Same G H ∧ VineG CV CP G H a v ∧
  ∀ H', Same G H' → SameI H H' → VineG CV CP G H' a (Uw50.step v (.rain d y)).1 → Q (.int (Uw50.step v (.rain d y)).2.v) H'
theorem ok_rained (T : Txt K mg CV CP CF CL) : Keeps P w K mg base 1 "rained" ["vineyard", "day", "wet"] (sp_rained CV CP) := by
  refine T.d_rained.ok sc_rained (fun vs H Q E h => ?_) (fun f cdv A outer s H vs Q E hr h => ?_)
  · obtain ⟨G, a, v, d, y, rfl, _⟩ := h
    rfl
  · obtain ⟨G, a, v, d, y, rfl, sg, hV, q⟩ := h
    refine ⟨_, (pss_cons (ps_if (PW.pt (pw_or (pt_cmpR op_ge (pv 1) (pe_fld (pv 0) rfl) (nomark _)) (pw_or1 (pt_cmpR op_gt (pv 2) pe_int (nomark _)))))
(pss_one (ps_ret (pe_const rfl T.g_NO_DAY_harvests)))
pss_nil)
(pss_cons (ps_asg (pv 2) (pg_sub (pe_fld (pv 0) rfl) (pv 1) set_list))
(pss_one (ps_ret (pe_callB (cr_sum rfl) (by rfl) T.b_sum boot_sum_ (pa_cons (pe_fld (pv 0) rfl) pa_nil)))))), ?_⟩
    have hv := hV.at
    unfold Uw50.step at q
    dsimp only at q
    have no : v.days ≤ d ∨ 1 < y → Q (.int (-2)) H := fun h => by
      rw [if_pos h] at q
      exact q H sg (fun _ _ _ _ h => h) hV
    refine ⟨_, rfl, ?_⟩
    refine ⟨_, rfl, ?_⟩
    apply fldV (hv.days T)
    refine ⟨_, _, rfl, rfl, _, rfl, ite2 (fun c1 => iteT ?_) (fun c1 => ?_)⟩
    · have d1 : (v.days : Int) ≤ (d : Int) := of_decide_eq_true c1
      exact no (.inl (by omega))
    have d1 : ¬ (v.days : Int) ≤ (d : Int) := fun h => c1 (decide_eq_true h)
    refine ⟨_, rfl, _, _, rfl, rfl, _, rfl, ite2 (fun c2 => ?_) (fun c2 => ?_)⟩
    · have d2 : (1 : Int) < (y : Int) := of_decide_eq_true c2
      exact no (.inr (by omega))
    have d2 : ¬ (1 : Int) < (y : Int) := fun h => c2 (decide_eq_true h)
    have hd : d < v.days := by omega
    have hy : y ≤ 1 := by omega
    rw [if_neg (by omega)] at q
    obtain ⟨ok, dx, r, ps, qs, g1, g2, g3, h1, h2, h3, h4, h5⟩ := hV
    have F : FieldAt K H a "rain" (.ref r) := ⟨CV, dx, _, h1, T.c_Vineyard, T.n_Vineyard_rain, lk_past (by decide +kernel) (lk_past (by decide +kernel) (lk_past (by decide +kernel) (lk_past (by decide +kernel) (lk_past (by decide +kernel) lk_here))))⟩
    have hlen : (rainL v).length = v.days := by
      unfold rainL
      rw [List.length_map, List.length_range]
    refine ⟨_, rfl, ?_⟩
    refine ⟨_, rfl, ?_⟩
    apply fldV (F)
    refine ⟨_, rfl, r, _, _, d, rfl, rfl, h2, ixN_nat (by rw [Ns_len, hlen]; exact hd), ?_⟩
    rw [Ns_set, rainL_set v d y hy]
    have keep : SameI H (upd H r (.lst (Ns (rainL { v with rain := rainTo v.rain d y })))) := fun b C dx fs hb => (upd_ne (ne_of hb h2 (by intro z; cases z))).trans hb
    have ok2 : VOk { v with rain := rainTo v.rain d y } := ⟨ok.d1, ok.d4, ok.p4, ok.pl, ok.hands, ok.press, ok.store, ok.crew, rainTo_nodup ok.nd, fun x hx => by
      rcases rainTo_mem.mp hx with h | h
      · exact ok.rd x h.1
      · rw [h.2]
        exact hd⟩
    have hV2 : VineG CV CP G (upd H r (.lst (Ns (rainL { v with rain := rainTo v.rain d y })))) a { v with rain := rainTo v.rain d y } := by
      refine ⟨ok2, dx, r, ps, qs, g1, g2, g3, keep _ _ _ _ h1, upd_same, h3, (upd_ne g3.symm).trans h4, fun x hx => ?_⟩
      obtain ⟨dq, hq⟩ := h5 x hx
      exact ⟨dq, keep _ _ _ _ hq⟩
    have hS : Same G (upd H r (.lst (Ns (rainL { v with rain := rainTo v.rain d y })))) := sm_mut sg g1
    have q2 := q _ hS keep hV2
    generalize hH2 : upd H r (.lst (Ns (rainL { v with rain := rainTo v.rain d y }))) = H2 at q2 hV2 ⊢
    have hr2 : H2 r = some (.lst (Ns (rainL { v with rain := rainTo v.rain d y }))) := by
      rw [← hH2]
      exact upd_same
    have F2 : FieldAt K H2 a "rain" (.ref r) := by
      rw [← hH2]
      exact ⟨CV, dx, _, keep _ _ _ _ h1, T.c_Vineyard, T.n_Vineyard_rain, lk_past (by decide +kernel) (lk_past (by decide +kernel) (lk_past (by decide +kernel) (lk_past (by decide +kernel) (lk_past (by decide +kernel) lk_here))))⟩
    refine ⟨_, rfl, ?_⟩
    apply fldV (F2)
    refine ⟨r, (rainL { v with rain := rainTo v.rain d y }).map fun n : Nat => (n : Int), rfl, SqLof (hr2.trans ?_), qv q2 (congrArg V.int ?_)⟩
    · rw [List.map_map]
      rfl
    · rw [total_sum, rainL_count ok2]
      rfl
def sp_planted (CV CP : Addr) : Sp := fun vs H Q _ => ∃ (G : Hp) (a pa : Addr) (v : Uw50.Vine) (p : Uw50.Plot), vs = [.ref a, .ref pa] ∧ Same G H ∧ VineG CV CP G H a v ∧ PlotAt CP H pa p ∧
  ∀ H', Same G H' → SameI H H' → VineG CV CP G H' a (Uw50.step v (.plot p)).1 → Q (.int (Uw50.step v (.plot p)).2.v) H'
theorem ok_planted (T : Txt K mg CV CP CF CL) : Keeps P w K mg base 2 "planted" ["vineyard", "plot"] (sp_planted CV CP) := by
  refine T.d_planted.ok sc_planted (fun vs H Q E h => ?_) (fun f cdv A outer s H vs Q E hr h => ?_)
  · obtain ⟨G, a, pa, v, p, rfl, _⟩ := h
    rfl
  · obtain ⟨G, a, pa, v, p, rfl, sg, hV, hP, q⟩ := h
    refine ⟨_, (pss_cons (ps_if (pt_not (pt_val (pe_callN (ok_may_be_plot T) (hr.mono (by decide)) rfl (pa_cons (pv 0) (pa_cons (pv 1) pa_nil)))))
(pss_one (ps_ret (pe_const rfl T.g_NOT_AS_TOLD)))
pss_nil)
(pss_cons (ps_if (pt_cmpR op_eq (pe_callB call_len_seq (by rfl) T.b_len boot_len (pa_cons (pe_fld (pv 0) rfl) pa_nil)) (pe_const rfl T.g_MOST_PLOTS) (nomark _))
(pss_one (ps_ret (pe_const rfl T.g_FULL)))
pss_nil)
(pss_cons (ps_expr (pe_bm PySem.F.plainAttrs_list PySem.F.slot_list_append PySem.F.type_list_append mt_append (pe_fld (pv 0) rfl) (pa_cons (pv 1) pa_nil)))
(pss_one (ps_ret (pe_op op_sub (pe_callB call_len_seq (by rfl) T.b_len boot_len (pa_cons (pe_fld (pv 0) rfl) pa_nil)) pe_int)))))), ?_⟩
    have hv := hV.at
    unfold Uw50.step at q
    dsimp only at q
    refine ⟨_, rfl, _, rfl, a, pa, v, p, rfl, hv, hP, _, rfl, ?_⟩
    unfold plotOk
    by_cases c1 : p.loads < 1 ∨ Uw50.LOADS < p.loads ∨ 1 < p.colour ∨ v.days ≤ p.day ∨ Uw50.SPREAD < p.spread ∨ Uw50.MOST < p.worth ∨ Uw50.MOST < p.less
    · rw [if_pos c1] at q
      rw [decide_eq_true c1]
      exact iteT (q H sg (fun _ _ _ _ h => h) hV)
    rw [if_neg c1] at q
    rw [decide_eq_false c1]
    refine iteF ?_
    obtain ⟨ok, dx, r, ps, qs, g1, g2, g3, h1, h2, h3, h4, h5⟩ := hV
    have F : ∀ H' : Hp, H' a = some (.ins CV dx (vineF v r ps)) → FieldAt K H' a "plots" (.ref ps) := fun H' h => ⟨CV, dx, _, h, T.c_Vineyard, T.n_Vineyard_plots, lk_past (by decide +kernel) (lk_past (by decide +kernel) (lk_past (by decide +kernel) (lk_past (by decide +kernel) (lk_past (by decide +kernel) (lk_past (by decide +kernel) lk_here)))))⟩
    have hcl : (qs.map fun x => V.ref x.1).length = v.count := by
      rw [List.length_map, plots_len h3]
    have hp4 := ok.p4
    refine ⟨_, rfl, ?_⟩
    apply fldV (F H h1)
    refine ⟨ps, _, rfl, .inl (SqLof h4), rfl, _, rfl, ?_⟩
    rw [hcl]
    by_cases c2 : v.count = 4
    · rw [if_pos (by unfold Uw50.PLOTS; omega)] at q
      exact iteD (show V.int ((v.count : Nat) : Int) = V.int 4 by rw [c2]; rfl) (q H sg (fun _ _ _ _ h => h) ⟨ok, dx, r, ps, qs, g1, g2, g3, h1, h2, h3, h4, h5⟩)
    have hct : v.count < 4 := by
      unfold Uw50.Vine.count at c2 ⊢
      omega
    rw [if_neg (by unfold Uw50.PLOTS; omega)] at q
    refine iteDN (fun z => c2 (N_inj (b := 4) z)) ?_
    refine ⟨_, rfl, ?_⟩
    apply fldV (F H h1)
    refine ⟨.inl ⟨rfl, _, SqLof h4⟩, _, rfl, ps, _, _, rfl, rfl, h4, ?_, ?_⟩
    · rw [hcl]
      exact Nat.lt_of_lt_of_le hct (by decide)
    have keep : SameI H (upd H ps (.lst ((qs.map fun x => V.ref x.1) ++ [.ref pa]))) := fun b C dx fs hb => (upd_ne (ne_of hb h4 (by intro z; cases z))).trans hb
    have hPok : POk p := by
      unfold Uw50.LOADS Uw50.MOST at c1
      exact ⟨by omega, by omega, by omega, by omega⟩
    have ok2 : VOk { v with plots := v.plots ++ [p] } := ⟨ok.d1, ok.d4, by
      show (v.plots ++ [p]).length ≤ 4
      rw [List.length_append]
      unfold Uw50.Vine.count at hct
      show v.plots.length + 1 ≤ 4
      omega, fun x hx => by
        rcases List.mem_append.mp hx with h | h
        · exact ok.pl x h
        · obtain rfl := List.mem_singleton.mp h
          exact hPok, ok.hands, ok.press, ok.store, ok.crew, ok.nd, ok.rd⟩
    have hV2 : VineG CV CP G (upd H ps (.lst ((qs.map fun x => V.ref x.1) ++ [.ref pa]))) a { v with plots := v.plots ++ [p] } := by
      refine ⟨ok2, dx, r, ps, qs ++ [(pa, p)], g1, g2, g3, keep _ _ _ _ h1, (upd_ne g3).trans h2, ?_, ?_, fun x hx => ?_⟩
      · rw [List.map_append, h3]
        rfl
      · rw [upd_same, List.map_append]
        rfl
      · rcases List.mem_append.mp hx with h | h
        · obtain ⟨dq, hq⟩ := h5 x h
          exact ⟨dq, keep _ _ _ _ hq⟩
        · obtain rfl := List.mem_singleton.mp h
          obtain ⟨dq, hq⟩ := hP
          exact ⟨dq, keep _ _ _ _ hq⟩
    have hS : Same G (upd H ps (.lst ((qs.map fun x => V.ref x.1) ++ [.ref pa]))) := sm_mut sg g2
    have q2 := q _ hS keep hV2
    have ha2 := keep _ _ _ _ h1
    have hps2 : (upd H ps (.lst ((qs.map fun x => V.ref x.1) ++ [.ref pa]))) ps = some (.lst ((qs.map fun x => V.ref x.1) ++ [.ref pa])) := upd_same
    generalize upd H ps (.lst ((qs.map fun x => V.ref x.1) ++ [.ref pa])) = H2 at q2 ha2 hps2 ⊢
    refine ⟨_, rfl, ?_⟩
    apply fldV (F H2 ha2)
    refine ⟨ps, _, rfl, .inl (SqLof hps2), _, _, rfl, rfl, qv q2 (congrArg V.int ?_)⟩
    rw [List.length_append, hcl]
    show ((v.count + 1 : Nat) : Int) - 1 = ((v.count : Nat) : Int)
    omega
def chg : Nat → List Nat → Option Uw50.Call
  | 0, [n, h, p, s, c] => some (.begins n h p s c)
  | 1, [d, y] => some (.rain d y)
  | 2, [g, k, d, s, w, m] => some (.plot ⟨g, k, d, s, w, m⟩)
  | _, _ => none
def sp_changed (CV CP CL : Addr) : Sp := fun vs H Q _ => ∃ (G : Hp) (L b : Addr) (v : Uw50.Vine) (k : Nat) (l : List Nat) (c : Uw50.Call), vs = [.ref L, N k, .ref b] ∧ LineG CV CP CL G H L v ∧ H b = some (.lst (Ns l)) ∧ chg k l = some c ∧
  ∀ H', LineG CV CP CL G H' L (Uw50.step v c).1 → Q (.int (Uw50.step v c).2.v) H'
theorem chg_cases {k : Nat} {l : List Nat} {c : Uw50.Call} (h : chg k l = some c) : (k = 0 ∧ ∃ n h p s w, l = [n, h, p, s, w] ∧ c = .begins n h p s w) ∨ (k = 1 ∧ ∃ d y, l = [d, y] ∧ c = .rain d y) ∨ (k = 2 ∧ ∃ g k d s w m, l = [g, k, d, s, w, m] ∧ c = .plot ⟨g, k, d, s, w, m⟩) := by
  unfold chg at h
  split at h
  · exact .inl ⟨rfl, _, _, _, _, _, rfl, (Option.some.inj h).symm⟩
  · exact .inr (.inl ⟨rfl, _, _, rfl, (Option.some.inj h).symm⟩)
  · exact .inr (.inr ⟨rfl, _, _, _, _, _, _, rfl, (Option.some.inj h).symm⟩)
  · cases h
theorem ok_changed (T : Txt K mg CV CP CF CL) : Keeps P w K mg base 4 "changed" ["line", "call", "values"] (sp_changed CV CP CL) := by
  refine T.d_changed.ok sc_changed (fun vs H Q E h => ?_) (fun f cdv A outer s H vs Q E hr h => ?_)
  · obtain ⟨G, L, b, v, k, l, c, rfl, _⟩ := h
    rfl
  · obtain ⟨G, L, b, v, k, l, c, rfl, hL, hb, hc, q⟩ := h
    refine ⟨_, (pss_cons (ps_if (pt_cmpR op_eq (pv 1) (pe_const rfl T.g_BEGINS) (nomark _))
(pss_one (ps_ret (pe_callN (ok_begun T) (hr.mono (by decide)) rfl (pa_cons (pv 0) (pa_cons (pe_ix ix_list (pv 2) pe_int (fun _ _ => rfl)) (pa_cons (pe_slice sl_list (pv 2) (po_some pe_int) (po_some pe_int)) (pa_cons (pe_ix ix_list (pv 2) pe_int (fun _ _ => rfl)) pa_nil)))))))
pss_nil)
(pss_cons (ps_if (pt_cmpR op_eq (pv 1) (pe_const rfl T.g_RAIN) (nomark _))
(pss_one (ps_ret (pe_callN (ok_rained T) (hr.mono (by decide)) rfl (pa_cons (pe_fld (pv 0) rfl) (pa_cons (pe_ix ix_list (pv 2) pe_int (fun _ _ => rfl)) (pa_cons (pe_ix ix_list (pv 2) pe_int (fun _ _ => rfl)) pa_nil))))))
pss_nil)
(pss_cons (ps_set (i := 3) sc_changed.nd rfl (Or.inl rfl) (pe_makeN (ok_Plot_init T) (hr.mono (by decide)) rfl (pa_cons (pe_ix ix_list (pv 2) pe_int (fun _ _ => rfl)) (pa_cons (pe_ix ix_list (pv 2) pe_int (fun _ _ => rfl)) (pa_cons (pe_ix ix_list (pv 2) pe_int (fun _ _ => rfl)) (pa_cons (pe_ix ix_list (pv 2) pe_int (fun _ _ => rfl)) (pa_cons (pe_ix ix_list (pv 2) pe_int (fun _ _ => rfl)) (pa_cons (pe_ix ix_list (pv 2) pe_int (fun _ _ => rfl)) pa_nil))))))))
(pss_one (ps_ret (pe_callN (ok_planted T) (hr.mono (by decide)) rfl (pa_cons (pe_fld (pv 0) rfl) (pa_cons (pv 3) pa_nil)))))))), ?_⟩
    rcases chg_cases hc with ⟨rfl, n, h, p, s', w', rfl, rfl⟩ | ⟨rfl, d, y, rfl, rfl⟩ | ⟨rfl, g, k, d, s', w', m, rfl, rfl⟩
    · refine ⟨_, rfl, rfl, _, rfl, iteD rfl ?_⟩
      refine ⟨_, rfl, _, rfl, b, _, _, _, rfl, rfl, SqLof hb, atI_nat (j := 0) rfl, _, rfl, _, rfl, _, rfl, b, _, rfl, SqLof hb, fun u hu => ?_⟩
      have e1 := sm_new (o := .lst (cutV (Ns [n, h, p, s', w']) (some 1) (some 4))) hu
      refine ⟨_, rfl, b, _, _, _, rfl, rfl, SqLof (e1 _ _ hb), atI_nat (j := 4) rfl, G, L, u, v, n, h, p, s', w', rfl, hL.mono e1, upd_same, q⟩
    · refine ⟨_, rfl, rfl, _, rfl, iteDN (by intro z; injection z with z; exact absurd z (by decide)) ⟨_, rfl, rfl, _, rfl, iteD rfl ?_⟩⟩
      obtain ⟨dl, a, F, h1, hV⟩ := hL.field T
      refine ⟨_, rfl, ?_⟩
      apply fldV (F)
      refine ⟨_, rfl, b, _, _, _, rfl, rfl, SqLof hb, atI_nat (j := 0) rfl, _, rfl, b, _, _, _, rfl, rfl, SqLof hb, atI_nat (j := 1) rfl, G, a, v, d, y, rfl, hL.same, hV, fun H2 s2 k2 hV2 => q _ ⟨s2, hL.new, dl, a, k2 _ _ _ _ h1, hV2⟩⟩
    · refine ⟨_, rfl, rfl, _, rfl, iteDN (by intro z; injection z with z; exact absurd z (by decide)) ⟨_, rfl, rfl, _, rfl, iteDN (by intro z; injection z with z; exact absurd z (by decide)) ?_⟩⟩
      refine ⟨_, rfl, b, _, _, _, rfl, rfl, SqLof hb, atI_nat (j := 0) rfl, _, rfl, b, _, _, _, rfl, rfl, SqLof hb, atI_nat (j := 1) rfl, _, rfl, b, _, _, _, rfl, rfl, SqLof hb, atI_nat (j := 2) rfl, _, rfl, b, _, _, _, rfl, rfl, SqLof hb, atI_nat (j := 3) rfl, _, rfl, b, _, _, _, rfl, rfl, SqLof hb, atI_nat (j := 4) rfl, _, rfl, b, _, _, _, rfl, rfl, SqLof hb, atI_nat (j := 5) rfl, fun x dx hx hdx _ => ⟨x, dx, _, _, _, _, _, _, rfl, upd_same, rfl, ?_⟩⟩
      have e1 : Same H (upd (upd (upd H dx (.own x)) x (.ins CP dx [])) x (.ins CP dx [("loads", N g), ("colour", N k), ("best_day", N d), ("beside", N s'), ("worth", N w'), ("less", N m)])) := sm_mut (made hx hdx) hx
      have hx2 : (upd (upd (upd H dx (.own x)) x (.ins CP dx [])) x (.ins CP dx [("loads", N g), ("colour", N k), ("best_day", N d), ("beside", N s'), ("worth", N w'), ("less", N m)])) x = some (.ins CP dx [("loads", N g), ("colour", N k), ("best_day", N d), ("beside", N s'), ("worth", N w'), ("less", N m)]) := upd_same
      generalize upd (upd (upd H dx (.own x)) x (.ins CP dx [])) x (.ins CP dx [("loads", N g), ("colour", N k), ("best_day", N d), ("beside", N s'), ("worth", N w'), ("less", N m)]) = H1 at e1 hx2 ⊢
      obtain ⟨dl, a, F, h1, hV⟩ := (hL.mono e1).field T
      refine ⟨_, rfl, ?_⟩
      apply fldV (F)
      exact ⟨_, rfl, G, a, x, v, ⟨g, k, d, s', w', m⟩, rfl, hL.same.trans e1, hV, ⟨dx, hx2⟩, fun H2 s2 k2 hV2 => q _ ⟨s2, hL.new, dl, a, k2 _ _ _ _ h1, hV2⟩⟩
end
end Vh

set_option Elab.async false
set_option linter.all false
set_option maxRecDepth 100000
set_option maxHeartbeats 4000000
namespace Vh
/-! ### a line of calls read, call by call -/
abbrev Zs (l : List Nat) : List Int := l.map fun n : Nat => (n : Int)
theorem Zs_app (l c : List Nat) : Zs (l ++ c) = Zs l ++ Zs c := List.map_append ..
def rowN : List Nat → Option (List Nat × List Nat)
  | [] => none
  | n :: r => if n ≤ r.length then some (r.take n, r.drop n) else none
def rowsN : Nat → List Nat → Option (List (List Nat) × List Nat)
  | 0, r => some ([], r)
  | k + 1, r => match rowN r with
    | none => none
    | some (x, s) => match rowsN k s with
      | none => none
      | some (xs, t) => some (x :: xs, t)
theorem row_Z : ∀ l : List Nat, PyFlat.row (Zs l) = (rowN l).map fun x => (Zs x.1, Zs x.2)
  | [] => rfl
  | n :: r => by
    show (if 0 ≤ (n : Int) ∧ (n : Int).toNat ≤ (Zs r).length then some ((Zs r).take (n : Int).toNat, (Zs r).drop (n : Int).toNat) else none) = Option.map _ (if n ≤ r.length then some (r.take n, r.drop n) else none)
    rw [Int.toNat_natCast, List.length_map]
    by_cases h : n ≤ r.length
    · rw [if_pos ⟨Int.natCast_nonneg n, h⟩, if_pos h]
      show some _ = some ((r.take n).map fun n : Nat => (n : Int), (r.drop n).map fun n : Nat => (n : Int))
      rw [List.map_take, List.map_drop]
    · rw [if_neg (fun z => h z.2), if_neg h]
      rfl
theorem rows_Z : ∀ (k : Nat) (l : List Nat), PyFlat.rows k (Zs l) = (rowsN k l).map fun x => (x.1.map Zs, Zs x.2)
  | 0, l => rfl
  | k + 1, l => by
    rw [PyFlat.rows, rowsN, row_Z]
    cases rowN l with
    | none => rfl
    | some x =>
      obtain ⟨x, s⟩ := x
      show (match PyFlat.rows k (Zs s) with | none => none | some (xs, t) => some (Zs x :: xs, t)) = Option.map _ (match rowsN k s with | none => none | some (xs, t) => some (x :: xs, t))
      rw [rows_Z k s]
      cases rowsN k s with
      | none => rfl
      | some y => rfl
def callZ (p : Nat) (vals : List Nat) (rs : List (List Nat)) : List (List Int) := ((p : Int) :: Zs vals) :: rs.map Zs
theorem calls_nil (f : Nat) : PyFlat.calls PyUw50.shape f (Zs []) = some [] := by
  cases f <;> rfl
theorem calls_step {f p : Nat} {r : List Nat} {raw : List (List (List Int))} (h : PyFlat.calls PyUw50.shape f (Zs (p :: r)) = some raw) :
    ∃ f' n k rs t raw', PyUw50.shape (p : Int) = some (n, k) ∧ n ≤ r.length ∧ rowsN k (r.drop n) = some (rs, t) ∧ PyFlat.calls PyUw50.shape f' (Zs t) = some raw' ∧ raw = callZ p (r.take n) rs :: raw' := by
  cases f with
  | zero => cases h
  | succ f =>
    have h1 : (match PyFlat.call PyUw50.shape ((p : Int) :: Zs r) with | none => none | some (c, t) => match PyFlat.calls PyUw50.shape f t with | none => none | some cs => some (c :: cs)) = some raw := h
    have h2 : PyFlat.call PyUw50.shape ((p : Int) :: Zs r) = match PyUw50.shape (p : Int) with
      | none => none
      | some (n, k) => if (Zs r).length < n then none else match PyFlat.rows k ((Zs r).drop n) with
        | none => none
        | some (xs, t) => some (((p : Int) :: (Zs r).take n) :: xs, t) := rfl
    rw [h2] at h1
    cases hs : PyUw50.shape (p : Int) with
    | none =>
      rw [hs] at h1
      cases h1
    | some nk =>
      obtain ⟨n, k⟩ := nk
      rw [hs] at h1
      dsimp only at h1
      by_cases hn : (Zs r).length < n
      · rw [if_pos hn] at h1
        cases h1
      · rw [if_neg hn, ← List.map_drop, rows_Z] at h1
        rw [List.length_map] at hn
        cases hr : rowsN k (r.drop n) with
        | none =>
          rw [hr] at h1
          cases h1
        | some y =>
          obtain ⟨rs, t⟩ := y
          rw [hr] at h1
          dsimp only [Option.map] at h1
          cases hc : PyFlat.calls PyUw50.shape f (Zs t) with
          | none =>
            rw [hc] at h1
            cases h1
          | some raw' =>
            rw [hc] at h1
            refine ⟨f, n, k, rs, t, raw', rfl, by omega, hr, hc, ?_⟩
            have h3 := Option.some.inj h1
            rw [← h3, ← List.map_take]
            rfl
theorem rowsN_len : ∀ (k : Nat) (l : List Nat) (rs : List (List Nat)) (t : List Nat), rowsN k l = some (rs, t) → rs.length = k
  | 0, l, rs, t, h => by
    have h1 := Option.some.inj h
    injection h1 with h1 h2
    rw [← h1]
    rfl
  | k + 1, l, rs, t, h => by
    rw [rowsN] at h
    cases hr : rowN l with
    | none =>
      rw [hr] at h
      cases h
    | some x =>
      rw [hr] at h
      obtain ⟨x, s⟩ := x
      dsimp only at h
      cases hq : rowsN k s with
      | none =>
        rw [hq] at h
        cases h
      | some y =>
        rw [hq] at h
        obtain ⟨xs, t'⟩ := y
        have h1 := Option.some.inj h
        injection h1 with h1 h2
        rw [← h1, List.length_cons, rowsN_len k s xs t' hq]
theorem shape_cases {p n k : Nat} (h : PyUw50.shape (p : Int) = some (n, k)) : (p = 0 ∧ n = 5 ∧ k = 0) ∨ (p = 1 ∧ n = 2 ∧ k = 0) ∨ (p = 2 ∧ n = 6 ∧ k = 0) ∨ (p = 3 ∧ n = 0 ∧ k = 0) ∨ (p = 4 ∧ n = 0 ∧ k = 2) ∨ (p = 5 ∧ n = 0 ∧ k = 1) ∨ (p = 6 ∧ n = 1 ∧ k = 2) ∨ (p = 7 ∧ n = 0 ∧ k = 2) := by
  have key : ∀ (m : Nat) (a b : Nat), (p : Int) = (m : Int) → some (a, b) = some (n, k) → p = m ∧ n = a ∧ k = b := fun m a b h1 h2 => by
    injection h2 with h2
    injection h2 with h2 h3
    exact ⟨Int.ofNat.inj h1, h2.symm, h3.symm⟩
  unfold PyUw50.shape at h
  by_cases c0 : (p : Int) = 0
  · rw [if_pos c0] at h
    exact .inl (key 0 _ _ c0 h)
  rw [if_neg c0] at h
  by_cases c1 : (p : Int) = 1
  · rw [if_pos c1] at h
    exact .inr (.inl (key 1 _ _ c1 h))
  rw [if_neg c1] at h
  by_cases c2 : (p : Int) = 2
  · rw [if_pos c2] at h
    exact .inr (.inr (.inl (key 2 _ _ c2 h)))
  rw [if_neg c2] at h
  by_cases c3 : (p : Int) = 3
  · rw [if_pos c3] at h
    exact .inr (.inr (.inr (.inl (key 3 _ _ c3 h))))
  rw [if_neg c3] at h
  by_cases c4 : (p : Int) = 4
  · rw [if_pos c4] at h
    exact .inr (.inr (.inr (.inr (.inl (key 4 _ _ c4 h)))))
  rw [if_neg c4] at h
  by_cases c5 : (p : Int) = 5
  · rw [if_pos c5] at h
    exact .inr (.inr (.inr (.inr (.inr (.inl (key 5 _ _ c5 h))))))
  rw [if_neg c5] at h
  by_cases c6 : (p : Int) = 6
  · rw [if_pos c6] at h
    exact .inr (.inr (.inr (.inr (.inr (.inr (.inl (key 6 _ _ c6 h)))))))
  rw [if_neg c6] at h
  by_cases c7 : (p : Int) = 7
  · rw [if_pos c7] at h
    exact .inr (.inr (.inr (.inr (.inr (.inr (.inr (key 7 _ _ c7 h)))))))
  rw [if_neg c7] at h
  cases h
def ask : Nat → List Nat → List (List Nat) → Option Uw50.Call
  | 3, [], [] => some .best
  | 4, [], [l, c] => some (.check l c)
  | 5, [], [l] => some (.press l)
  | 6, [t], [l, c] => some (.goes t l c)
  | 7, [], [l, c] => some (.nights l c)
  | _, _, _ => none
def callFrom (p : Nat) (vals : List Nat) (rs : List (List Nat)) : Option Uw50.Call := if p ≤ 2 then chg p vals else ask p vals rs
theorem callOf_Z {l : List Nat} (h : ∀ x ∈ l, x < 2 ^ 32) : Uw50Neutral.callOf (Zs l) = Uw50Neutral.callIn l := by
  have h1 : (Zs l).all Uw50Neutral.nat = true := by
    rw [List.all_eq_true]
    intro x hx
    obtain ⟨n, hn, rfl⟩ := List.mem_map.mp hx
    have h2 := h n hn
    unfold Uw50Neutral.nat
    rw [Bool.and_eq_true]
    exact ⟨decide_eq_true (Int.natCast_nonneg n), decide_eq_true (by omega)⟩
  unfold Uw50Neutral.callOf
  rw [h1, if_neg (by intro z; cases z), List.map_map]
  have h3 : (Int.toNat ∘ fun n : Nat => (n : Int)) = id := by
    funext n
    exact Int.toNat_natCast n
  rw [h3, List.map_id]
theorem len0 {α : Type} {l : List α} (h : l.length = 0) : l = [] := List.eq_nil_of_length_eq_zero h
theorem len1 {α : Type} {l : List α} (h : l.length = 1) : ∃ a, l = [a] := List.length_eq_one_iff.mp h
theorem lenS {α : Type} {l : List α} {n : Nat} (h : l.length = n + 1) : ∃ a r, l = a :: r ∧ r.length = n := by
  cases l with
  | nil => cases h
  | cons a r => exact ⟨a, r, rfl, Nat.succ.inj h⟩
theorem inside_rows {p n k : Nat} {vals : List Nat} {rs : List (List Nat)} (hs : PyUw50.shape (p : Int) = some (n, k)) (hk : rs.length = k) (h : PyInside.call PyUw50.bound (callZ p vals rs) = true) : ∀ r ∈ rs, r.length ≤ 8 := by
  have two : ∀ (q : Nat) (l c : List Nat), rs = [l, c] → (PyUw50.bound (q : Int)).2 = [(0, 4294967295, 0, 8), (0, 4294967295, 0, 8)] → p = q → ∀ r ∈ rs, r.length ≤ 8 := fun q l c e hb hq r hr => by
    subst e hq
    have h1 : (PyInside.each (PyUw50.bound (p : Int)).1 (Zs vals) && PyInside.lists (PyUw50.bound (p : Int)).2 [Zs l, Zs c]) = true := h
    rw [hb, Bool.and_eq_true] at h1
    have h2 := h1.2
    simp only [PyInside.lists, Bool.and_eq_true, decide_eq_true_eq, List.length_map] at h2
    rcases List.mem_cons.mp hr with rfl | hr
    · exact h2.1.1.2
    · obtain rfl := List.mem_singleton.mp hr
      exact h2.2.1.1.2
  have nil : k = 0 → ∀ r ∈ rs, r.length ≤ 8 := fun e r hr => by
    rw [e] at hk
    rw [len0 hk] at hr
    cases hr
  rcases shape_cases hs with ⟨rfl, rfl, e⟩ | ⟨rfl, rfl, e⟩ | ⟨rfl, rfl, e⟩ | ⟨rfl, rfl, e⟩ | ⟨rfl, rfl, e⟩ | ⟨rfl, rfl, e⟩ | ⟨rfl, rfl, e⟩ | ⟨rfl, rfl, e⟩
  · exact nil e
  · exact nil e
  · exact nil e
  · exact nil e
  · rw [e] at hk
    obtain ⟨l, r, rfl, hr⟩ := lenS hk
    obtain ⟨c, rfl⟩ := len1 hr
    exact two 4 l c rfl rfl rfl
  · rw [e] at hk
    obtain ⟨l, rfl⟩ := len1 hk
    intro r hr
    obtain rfl := List.mem_singleton.mp hr
    have h1 : (PyInside.each (PyUw50.bound ((5 : Nat) : Int)).1 (Zs vals) && PyInside.lists (PyUw50.bound ((5 : Nat) : Int)).2 [Zs r]) = true := h
    rw [show (PyUw50.bound ((5 : Nat) : Int)).2 = [(0, 4294967295, 0, 8)] from rfl, Bool.and_eq_true] at h1
    have h2 := h1.2
    simp only [PyInside.lists, Bool.and_eq_true, decide_eq_true_eq, List.length_map] at h2
    exact h2.1.1.2
  · rw [e] at hk
    obtain ⟨l, r, rfl, hr⟩ := lenS hk
    obtain ⟨c, rfl⟩ := len1 hr
    exact two 6 l c rfl rfl rfl
  · rw [e] at hk
    obtain ⟨l, r, rfl, hr⟩ := lenS hk
    obtain ⟨c, rfl⟩ := len1 hr
    exact two 7 l c rfl rfl rfl
theorem step_call {p n k : Nat} {vals : List Nat} {rs : List (List Nat)} (hs : PyUw50.shape (p : Int) = some (n, k)) (hv : vals.length = n) (hk : rs.length = k) (h8 : ∀ r ∈ rs, r.length ≤ 8) (hb : ∀ x ∈ vals, x < 2 ^ 32) (hb2 : ∀ r ∈ rs, ∀ x ∈ r, x < 2 ^ 32) :
    ∃ c, callFrom p vals rs = some c ∧ ∀ s, Uw50Neutral.step s ((PyUw50.whole (callZ p vals rs)).headD []) = ((Uw50.step s c).1, Uw50Neutral.out (Uw50.step s c).2) := by
  have fin : ∀ (l : List Nat) (c : Uw50.Call), (∀ x ∈ l, x < 2 ^ 32) → (PyUw50.whole (callZ p vals rs)).headD [] = Zs l → Uw50Neutral.callIn l = some c → ∀ s, Uw50Neutral.step s ((PyUw50.whole (callZ p vals rs)).headD []) = ((Uw50.step s c).1, Uw50Neutral.out (Uw50.step s c).2) := fun l c h1 h2 h3 s => by
    unfold Uw50Neutral.step
    rw [h2, callOf_Z h1, h3]
  have two : ∀ (l c : List Nat), l.length ≤ 8 → c.length ≤ 8 → l.length ≤ 8 ∧ l.length ≤ (l ++ c).length ∧ (l ++ c).length ≤ l.length + 8 := fun l c h1 h2 => by
    rw [List.length_append]
    omega
  rcases shape_cases hs with ⟨rfl, rfl, e⟩ | ⟨rfl, rfl, e⟩ | ⟨rfl, rfl, e⟩ | ⟨rfl, rfl, e⟩ | ⟨rfl, rfl, e⟩ | ⟨rfl, rfl, e⟩ | ⟨rfl, rfl, e⟩ | ⟨rfl, rfl, e⟩
  · rw [e] at hk
    obtain rfl := len0 hk
    obtain ⟨a, r1, rfl, hr1⟩ := lenS hv
    obtain ⟨b, r2, rfl, hr2⟩ := lenS hr1
    obtain ⟨c, r3, rfl, hr3⟩ := lenS hr2
    obtain ⟨d, r4, rfl, hr4⟩ := lenS hr3
    obtain ⟨f, rfl⟩ := len1 hr4
    refine ⟨.begins a b c d f, rfl, fin (0 :: [a, b, c, d, f]) _ (fun x hx => ?_) rfl rfl⟩
    rcases List.mem_cons.mp hx with rfl | hx
    · decide
    · exact hb x hx
  · rw [e] at hk
    obtain rfl := len0 hk
    obtain ⟨a, r, rfl, hr⟩ := lenS hv
    obtain ⟨b, rfl⟩ := len1 hr
    refine ⟨.rain a b, rfl, fin (1 :: [a, b]) _ (fun x hx => ?_) rfl rfl⟩
    rcases List.mem_cons.mp hx with rfl | hx
    · decide
    · exact hb x hx
  · rw [e] at hk
    obtain rfl := len0 hk
    obtain ⟨a, r1, rfl, hr1⟩ := lenS hv
    obtain ⟨b, r2, rfl, hr2⟩ := lenS hr1
    obtain ⟨c, r3, rfl, hr3⟩ := lenS hr2
    obtain ⟨d, r4, rfl, hr4⟩ := lenS hr3
    obtain ⟨f, r5, rfl, hr5⟩ := lenS hr4
    obtain ⟨g, rfl⟩ := len1 hr5
    refine ⟨.plot ⟨a, b, c, d, f, g⟩, rfl, fin (2 :: [a, b, c, d, f, g]) _ (fun x hx => ?_) rfl rfl⟩
    rcases List.mem_cons.mp hx with rfl | hx
    · decide
    · exact hb x hx
  · rw [e] at hk
    obtain rfl := len0 hk
    obtain rfl := len0 hv
    refine ⟨.best, rfl, fin [3] _ (fun x hx => ?_) rfl rfl⟩
    obtain rfl := List.mem_singleton.mp hx
    decide
  · rw [e] at hk
    obtain rfl := len0 hv
    obtain ⟨l, r, rfl, hr⟩ := lenS hk
    obtain ⟨c, rfl⟩ := len1 hr
    have hl := h8 l List.mem_cons_self
    have hc := h8 c (List.mem_cons_of_mem _ List.mem_cons_self)
    refine ⟨.check l c, rfl, fin (4 :: l.length :: (l ++ c)) _ (fun x hx => ?_) ?_ ?_⟩
    · rcases List.mem_cons.mp hx with rfl | hx
      · decide
      · rcases List.mem_cons.mp hx with rfl | hx
        · exact Nat.lt_of_le_of_lt hl (by decide)
        · rcases List.mem_append.mp hx with hx | hx
          · exact hb2 l List.mem_cons_self x hx
          · exact hb2 c (List.mem_cons_of_mem _ List.mem_cons_self) x hx
    · show [(4 : Int)] ++ [((Zs l).length : Int)] ++ Zs l ++ Zs c = (4 : Int) :: (l.length : Int) :: Zs (l ++ c)
      rw [List.length_map, Zs_app]
      rfl
    · show (if l.length ≤ 8 ∧ l.length ≤ (l ++ c).length ∧ (l ++ c).length ≤ l.length + 8 then some (Uw50.Call.check ((l ++ c).take l.length) ((l ++ c).drop l.length)) else none) = _
      rw [if_pos (two l c hl hc), List.take_left, List.drop_left]
  · rw [e] at hk
    obtain rfl := len0 hv
    obtain ⟨l, rfl⟩ := len1 hk
    have hl := h8 l List.mem_cons_self
    refine ⟨.press l, rfl, fin (5 :: l) _ (fun x hx => ?_) rfl ?_⟩
    · rcases List.mem_cons.mp hx with rfl | hx
      · decide
      · exact hb2 l List.mem_cons_self x hx
    · show (if l.length ≤ 8 then some (Uw50.Call.press l) else none) = _
      rw [if_pos hl]
  · rw [e] at hk
    obtain ⟨t, rfl⟩ := len1 hv
    obtain ⟨l, r, rfl, hr⟩ := lenS hk
    obtain ⟨c, rfl⟩ := len1 hr
    have hl := h8 l List.mem_cons_self
    have hc := h8 c (List.mem_cons_of_mem _ List.mem_cons_self)
    refine ⟨.goes t l c, rfl, fin (6 :: t :: l.length :: (l ++ c)) _ (fun x hx => ?_) ?_ ?_⟩
    · rcases List.mem_cons.mp hx with rfl | hx
      · decide
      · rcases List.mem_cons.mp hx with rfl | hx
        · exact hb x List.mem_cons_self
        · rcases List.mem_cons.mp hx with rfl | hx
          · exact Nat.lt_of_le_of_lt hl (by decide)
          · rcases List.mem_append.mp hx with hx | hx
            · exact hb2 l List.mem_cons_self x hx
            · exact hb2 c (List.mem_cons_of_mem _ List.mem_cons_self) x hx
    · show [(6 : Int)] ++ [(t : Int)] ++ [((Zs l).length : Int)] ++ Zs l ++ Zs c = (6 : Int) :: (t : Int) :: (l.length : Int) :: Zs (l ++ c)
      rw [List.length_map, Zs_app]
      rfl
    · show (if l.length ≤ 8 ∧ l.length ≤ (l ++ c).length ∧ (l ++ c).length ≤ l.length + 8 then some (Uw50.Call.goes t ((l ++ c).take l.length) ((l ++ c).drop l.length)) else none) = _
      rw [if_pos (two l c hl hc), List.take_left, List.drop_left]
  · rw [e] at hk
    obtain rfl := len0 hv
    obtain ⟨l, r, rfl, hr⟩ := lenS hk
    obtain ⟨c, rfl⟩ := len1 hr
    have hl := h8 l List.mem_cons_self
    have hc := h8 c (List.mem_cons_of_mem _ List.mem_cons_self)
    refine ⟨.nights l c, rfl, fin (7 :: l.length :: (l ++ c)) _ (fun x hx => ?_) ?_ ?_⟩
    · rcases List.mem_cons.mp hx with rfl | hx
      · decide
      · rcases List.mem_cons.mp hx with rfl | hx
        · exact Nat.lt_of_le_of_lt hl (by decide)
        · rcases List.mem_append.mp hx with hx | hx
          · exact hb2 l List.mem_cons_self x hx
          · exact hb2 c (List.mem_cons_of_mem _ List.mem_cons_self) x hx
    · show [(7 : Int)] ++ [((Zs l).length : Int)] ++ Zs l ++ Zs c = (7 : Int) :: (l.length : Int) :: Zs (l ++ c)
      rw [List.length_map, Zs_app]
      rfl
    · show (if l.length ≤ 8 ∧ l.length ≤ (l ++ c).length ∧ (l ++ c).length ≤ l.length + 8 then some (Uw50.Call.nights ((l ++ c).take l.length) ((l ++ c).drop l.length)) else none) = _
      rw [if_pos (two l c hl hc), List.take_left, List.drop_left]
/-- what is answered from a state on -/
def play (v : Uw50.Vine) (raw : List (List (List Int))) : List Int := PyFlat.told (PyFlat.played (fun s c => Uw50Neutral.step s (c.headD [])) v (raw.map PyUw50.whole))
theorem play_cons {v : Uw50.Vine} {c : List (List Int)} {raw : List (List (List Int))} {x : Uw50.Call} (h : ∀ s, Uw50Neutral.step s ((PyUw50.whole c).headD []) = ((Uw50.step s x).1, Uw50Neutral.out (Uw50.step s x).2)) :
    play v (c :: raw) = (((Uw50Neutral.out (Uw50.step v x).2).length : Nat) : Int) :: (Uw50Neutral.out (Uw50.step v x).2 ++ play (Uw50.step v x).1 raw) := by
  unfold play
  rw [List.map_cons, PyFlat.played, h v]
  rfl
theorem answers_play {ns : List Int} {raw : List (List (List Int))} (h : PyFlat.calls PyUw50.shape ns.length ns = some raw) : PyUw50.answers ns = play Uw50.init raw := by
  unfold PyUw50.answers PyUw50.calls
  rw [h]
  rfl
theorem asked_of {ns : List Int} (h : PyUw50.answers_asked ns = true) : ∃ raw, PyFlat.calls PyUw50.shape ns.length ns = some raw ∧ (∀ c ∈ raw, PyInside.call PyUw50.bound c = true) ∧ (PyUw50.answers ns).length ≤ 10000000 := by
  unfold PyUw50.answers_asked at h
  cases hr : PyFlat.calls PyUw50.shape ns.length ns with
  | none =>
    rw [hr] at h
    cases h
  | some raw =>
    rw [hr] at h
    simp only [Bool.and_eq_true] at h
    refine ⟨raw, rfl, fun c hc => ?_, of_decide_eq_true h.2⟩
    exact List.all_eq_true.mp h.1.1.2 c hc
end Vh

set_option Elab.async false
set_option linter.all false
set_option maxRecDepth 100000
set_option maxHeartbeats 4000000
namespace Vh
open PySem PySem.Spec PyProof.Rows L2 VhM
theorem ask_cases {k : Nat} {l : List Nat} {rs : List (List Nat)} {c : Uw50.Call} (h : ask k l rs = some c) :
    (k = 3 ∧ c = .best) ∨ (k = 4 ∧ ∃ p q, rs = [p, q] ∧ c = .check p q) ∨ (k = 5 ∧ ∃ p, rs = [p] ∧ c = .press p) ∨ (k = 6 ∧ ∃ t p q, l = [t] ∧ rs = [p, q] ∧ c = .goes t p q) ∨ (k = 7 ∧ ∃ p q, rs = [p, q] ∧ c = .nights p q) := by
  unfold ask at h
  split at h
  · exact .inl ⟨rfl, (Option.some.inj h).symm⟩
  · exact .inr (.inl ⟨rfl, _, _, rfl, (Option.some.inj h).symm⟩)
  · exact .inr (.inr (.inl ⟨rfl, _, rfl, (Option.some.inj h).symm⟩))
  · exact .inr (.inr (.inr (.inl ⟨rfl, _, _, _, rfl, rfl, (Option.some.inj h).symm⟩)))
  · exact .inr (.inr (.inr (.inr ⟨rfl, _, _, rfl, (Option.some.inj h).symm⟩)))
  · cases h
theorem rows1 {H : Hp} {p : Addr} {l : List Nat} (h : RowsAt H p [l]) : ∃ a, H p = some (.lst [.ref a]) ∧ H a = some (.lst (Ns l)) := by
  obtain ⟨ps, h1, h2, h3⟩ := h
  cases ps with
  | nil => cases h1
  | cons x r =>
    cases r with
    | cons y r => cases h1
    | nil =>
      obtain rfl : x.2 = l := by injection h1
      exact ⟨x.1, h2, h3 x List.mem_cons_self⟩
theorem rows2 {H : Hp} {p : Addr} {l c : List Nat} (h : RowsAt H p [l, c]) : ∃ a b, H p = some (.lst [.ref a, .ref b]) ∧ H a = some (.lst (Ns l)) ∧ H b = some (.lst (Ns c)) := by
  obtain ⟨ps, h1, h2, h3⟩ := h
  cases ps with
  | nil => cases h1
  | cons x r =>
    cases r with
    | nil => cases h1
    | cons y r =>
      cases r with
      | cons z r => cases h1
      | nil =>
        injection h1 with h4 h5
        injection h5 with h5
        subst h4 h5
        exact ⟨x.1, y.1, h2, h3 x List.mem_cons_self, h3 y (List.mem_cons_of_mem _ List.mem_cons_self)⟩
theorem press_step (v : Uw50.Vine) (l : List Nat) : (Uw50.step v (.press l)).2 = pressAns v l ∧ (Uw50.step v (.press l)).1 = v := by
  unfold Uw50.step pressAns
  dsimp only
  by_cases h : v.told l = false
  · rw [if_pos h, if_pos h]
    exact ⟨rfl, rfl⟩
  · rw [if_neg h, if_neg h]
    exact ⟨rfl, rfl⟩
theorem goes_step (v : Uw50.Vine) (t : Nat) (l c : List Nat) : (Uw50.step v (.goes t l c)).2 = goesAns v t l c ∧ (Uw50.step v (.goes t l c)).1 = v := by
  unfold Uw50.step goesAns
  dsimp only
  by_cases h : v.told l = false ∨ v.coloured c = false
  · rw [if_pos h, if_pos h]
    exact ⟨rfl, rfl⟩
  · rw [if_neg h, if_neg h]
    by_cases h2 : v.days < t
    · rw [if_pos h2, if_pos h2]
      exact ⟨rfl, rfl⟩
    · rw [if_neg h2, if_neg h2]
      exact ⟨rfl, rfl⟩
theorem ask_stays {k : Nat} {l : List Nat} {rs : List (List Nat)} {c : Uw50.Call} (h : ask k l rs = some c) (v : Uw50.Vine) : (Uw50.step v c).1 = v := by
  rcases ask_cases h with ⟨_, rfl⟩ | ⟨_, p, q, _, rfl⟩ | ⟨_, p, _, rfl⟩ | ⟨_, t, p, q, _, _, rfl⟩ | ⟨_, p, q, _, rfl⟩
  · rfl
  · rfl
  · exact (press_step v p).2
  · exact (goes_step v t p q).2
  · rfl
theorem chg_out {k : Nat} {l : List Nat} {c : Uw50.Call} (h : chg k l = some c) (v : Uw50.Vine) : outV (Uw50.step v c).2 = [.int (Uw50.step v c).2.v] := by
  rcases chg_cases h with ⟨_, n, h, p, s, w, _, rfl⟩ | ⟨_, d, y, _, rfl⟩ | ⟨_, g, k, d, s, w, m, _, rfl⟩
  · unfold Uw50.step
    dsimp only
    split <;> rfl
  · unfold Uw50.step
    dsimp only
    split <;> rfl
  · unfold Uw50.step
    dsimp only
    split
    · rfl
    · split <;> rfl
theorem out_V (a : Uw50.Ans) : outV a = (Uw50Neutral.out a).map V.int := by
  unfold outV Uw50Neutral.out
  rw [List.map_cons, List.map_map]
  rfl
theorem drop_cons {α : Type} {l : List α} {p : Nat} {n : α} {r : List α} (h : l.drop p = n :: r) : l[p]? = some n ∧ l.drop (p + 1) = r ∧ p < l.length := by
  have h1 : l[p]? = some n := by
    have h2 : (l.drop p)[0]? = some n := by rw [h]; rfl
    rw [List.getElem?_drop] at h2
    exact h2
  refine ⟨h1, ?_, (List.getElem?_eq_some_iff.mp h1).1⟩
  rw [← List.drop_drop, h]
  rfl
theorem cut_mid (l : List Nat) (i n : Nat) (h : i + n ≤ l.length) : cutV (Ns l) (some (i : Int)) (some ((i + n : Nat) : Int)) = Ns ((l.drop i).take n) := by
  unfold cutV
  rw [show HT.sIx (Ns l).length 0 (some (i : Int)) = min i (Ns l).length from HT.sIx_nat _ _ i, show HT.sIx (Ns l).length (Ns l).length (some ((i + n : Nat) : Int)) = min (i + n) (Ns l).length from HT.sIx_nat _ _ (i + n), Ns_len, Nat.min_eq_left h, Nat.min_eq_left (by omega), Nat.add_sub_cancel_left]
  show ((l.map N).drop i).take n = ((l.drop i).take n).map N
  rw [List.map_take, List.map_drop]
/-- G, the line and a list that G knows: the list changes -/
theorem LineG.found {CV CP CL : Addr} {G H : Hp} {L p : Addr} {v : Uw50.Vine} {xs : List V} {ys : List V} (h : LineG CV CP CL G H L v) (hp : G p = some (.lst xs)) : LineG CV CP CL (upd G p (.lst ys)) (upd H p (.lst ys)) L v := by
  obtain ⟨sg, ng, dl, a, hl, ok, dx, r, ps, qs, g1, g2, g3, h1, h2, h3, h4, h5⟩ := h
  have hH := sg _ _ hp
  have nl : L ≠ p := fun z => by
    rw [z, hp] at ng
    cases ng
  have nr : r ≠ p := fun z => by
    rw [z, hp] at g1
    cases g1
  have nps : ps ≠ p := fun z => by
    rw [z, hp] at g2
    cases g2
  refine ⟨fun b o hb => ?_, (upd_ne nl).trans ng, dl, a, (upd_ne nl).trans hl, ok, dx, r, ps, qs, (upd_ne nr).trans g1, (upd_ne nps).trans g2, g3, (upd_ne (ne_of h1 hH (by intro z; cases z))).trans h1, (upd_ne nr).trans h2, h3, (upd_ne nps).trans h4, fun x hx => ?_⟩
  · by_cases c : b = p
    · subst c
      rw [upd_same] at hb ⊢
      exact hb
    · rw [upd_ne c] at hb ⊢
      exact sg _ _ hb
  · obtain ⟨d, hq⟩ := h5 x hx
    exact ⟨d, (upd_ne (ne_of hq hH (by intro z; cases z))).trans hq⟩
/-- a list is made, and from then on known to G -/
theorem LineG.made {CV CP CL : Addr} {G H : Hp} {L p : Addr} {v : Uw50.Vine} {ys : List V} (h : LineG CV CP CL G H L v) (hp : H p = none) : LineG CV CP CL (upd G p (.lst ys)) (upd H p (.lst ys)) L v := by
  obtain ⟨sg, ng, dl, a, hl, ok, dx, r, ps, qs, g1, g2, g3, h1, h2, h3, h4, h5⟩ := h
  have nl : L ≠ p := ne_of_none hl hp
  have nr : r ≠ p := ne_of_none h2 hp
  have nps : ps ≠ p := ne_of_none h4 hp
  refine ⟨fun b o hb => ?_, (upd_ne nl).trans ng, dl, a, (upd_ne nl).trans hl, ok, dx, r, ps, qs, (upd_ne nr).trans g1, (upd_ne nps).trans g2, g3, (upd_ne (ne_of_none h1 hp)).trans h1, (upd_ne nr).trans h2, h3, (upd_ne nps).trans h4, fun x hx => ?_⟩
  · by_cases c : b = p
    · subst c
      rw [upd_same] at hb ⊢
      exact hb
    · rw [upd_ne c] at hb ⊢
      exact sg _ _ hb
  · obtain ⟨d, hq⟩ := h5 x hx
    exact ⟨d, (upd_ne (ne_of_none hq hp)).trans hq⟩
section
variable {P : Program} {w : World} {K : PySem.W.Frag} {mg : Str → Option Value} {base : Heap} {CV CP CF CL : Addr}
def sp_asked (CV CP : Addr) : Sp := fun vs H Q _ => ∃ (a b rr : Addr) (v : Uw50.Vine) (k : Nat) (l : List Nat) (rs : List (List Nat)) (c : Uw50.Call), vs = [.ref a, N k, .ref b, .ref rr] ∧ VineAt CV CP H a v ∧ H b = some (.lst (Ns l)) ∧ RowsAt H rr rs ∧ ask k l rs = some c ∧ (∀ r ∈ rs, r.length ≤ 8) ∧
  ∀ H' p, H p = none → Same H H' → H' p = some (.lst (outV (Uw50.step v c).2)) → Q (.ref p) H'
theorem kNe {a b : Nat} (h : ¬ a = b) : ¬ N a = N b := fun z => h (N_inj z)
theorem ok_asked (T : Txt K mg CV CP CF CL) : Keeps P w K mg base 7 "asked" ["vineyard", "call", "values", "rows"] (sp_asked CV CP) := by
  refine T.d_asked.ok sc_asked (fun vs H Q E h => ?_) (fun f cdv A outer s H vs Q E hr h => ?_)
  · obtain ⟨a, b, rr, v, k, l, rs, c, rfl, _⟩ := h
    rfl
  · obtain ⟨a, b, rr, v, k, l, rs, c, rfl, hv, hb, hR, hc, h8, q⟩ := h
    refine ⟨_, (pss_cons (ps_if (pt_cmpR op_eq (pv 1) (pe_const rfl T.g_BEST) (nomark _))
(pss_one (ps_ret (pe_callN (ok_best_told T) (hr.mono (by decide)) rfl (pa_cons (pv 0) pa_nil))))
pss_nil)
(pss_cons (ps_if (pt_cmpR op_eq (pv 1) (pe_const rfl T.g_CHECK) (nomark _))
(pss_one (ps_ret (pe_callN (ok_check_told T) (hr.mono (by decide)) rfl (pa_cons (pv 0) (pa_cons (pe_ix ix_list (pv 3) pe_int (fun _ _ => rfl)) (pa_cons (pe_ix ix_list (pv 3) pe_int (fun _ _ => rfl)) pa_nil))))))
pss_nil)
(pss_cons (ps_if (pt_cmpR op_eq (pv 1) (pe_const rfl T.g_PRESS) (nomark _))
(pss_one (ps_ret (pe_callN (ok_press_told T) (hr.mono (by decide)) rfl (pa_cons (pv 0) (pa_cons (pe_ix ix_list (pv 3) pe_int (fun _ _ => rfl)) pa_nil)))))
pss_nil)
(pss_cons (ps_if (pt_cmpR op_eq (pv 1) (pe_const rfl T.g_GOES) (nomark _))
(pss_one (ps_ret (pe_callN (ok_goes_told T) (hr.mono (by decide)) rfl (pa_cons (pv 0) (pa_cons (pe_ix ix_list (pv 2) pe_int (fun _ _ => rfl)) (pa_cons (pe_ix ix_list (pv 3) pe_int (fun _ _ => rfl)) (pa_cons (pe_ix ix_list (pv 3) pe_int (fun _ _ => rfl)) pa_nil)))))))
pss_nil)
(pss_one (ps_ret (pe_callN (ok_nights_told T) (hr.mono (by decide)) rfl (pa_cons (pv 0) (pa_cons (pe_ix ix_list (pv 3) pe_int (fun _ _ => rfl)) (pa_cons (pe_ix ix_list (pv 3) pe_int (fun _ _ => rfl)) pa_nil)))))))))), ?_⟩
    rcases ask_cases hc with ⟨rfl, rfl⟩ | ⟨rfl, x, y, rfl, rfl⟩ | ⟨rfl, x, rfl, rfl⟩ | ⟨rfl, t, x, y, rfl, rfl, rfl⟩ | ⟨rfl, x, y, rfl, rfl⟩
    · exact ⟨_, rfl, rfl, _, rfl, iteD rfl ⟨_, rfl, a, v, rfl, hv, q⟩⟩
    · obtain ⟨la, ca, h1, h2, h3⟩ := rows2 hR
      have z1 := h8 x List.mem_cons_self
      have z2 := h8 y (List.mem_cons_of_mem _ List.mem_cons_self)
      refine ⟨_, rfl, rfl, _, rfl, iteDN (kNe (b := 3) (by decide)) ⟨_, rfl, rfl, _, rfl, iteD rfl ?_⟩⟩
      exact ⟨_, rfl, _, rfl, rr, _, _, _, rfl, rfl, SqLof h1, two0, _, rfl, rr, _, _, _, rfl, rfl, SqLof h1, two1, a, la, ca, v, x, y, rfl, hv, h2, by omega, h3, by omega, q⟩
    · obtain ⟨la, h1, h2⟩ := rows1 hR
      have z1 := h8 x List.mem_cons_self
      refine ⟨_, rfl, rfl, _, rfl, iteDN (kNe (b := 3) (by decide)) ⟨_, rfl, rfl, _, rfl, iteDN (kNe (b := 4) (by decide)) ⟨_, rfl, rfl, _, rfl, iteD rfl ?_⟩⟩⟩
      rw [(press_step v x).1] at q
      exact ⟨_, rfl, _, rfl, rr, _, _, _, rfl, rfl, SqLof h1, atI_nat (j := 0) rfl, a, la, v, x, rfl, hv, h2, by omega, q⟩
    · obtain ⟨la, ca, h1, h2, h3⟩ := rows2 hR
      have z1 := h8 x List.mem_cons_self
      have z2 := h8 y (List.mem_cons_of_mem _ List.mem_cons_self)
      refine ⟨_, rfl, rfl, _, rfl, iteDN (kNe (b := 3) (by decide)) ⟨_, rfl, rfl, _, rfl, iteDN (kNe (b := 4) (by decide)) ⟨_, rfl, rfl, _, rfl, iteDN (kNe (b := 5) (by decide)) ⟨_, rfl, rfl, _, rfl, iteD rfl ?_⟩⟩⟩⟩
      rw [(goes_step v t x y).1] at q
      exact ⟨_, rfl, _, rfl, b, _, _, _, rfl, rfl, SqLof hb, atI_nat (j := 0) rfl, _, rfl, rr, _, _, _, rfl, rfl, SqLof h1, two0, _, rfl, rr, _, _, _, rfl, rfl, SqLof h1, two1, a, la, ca, v, t, x, y, rfl, hv, h2, by omega, h3, by omega, q⟩
    · obtain ⟨la, ca, h1, h2, h3⟩ := rows2 hR
      have z1 := h8 x List.mem_cons_self
      have z2 := h8 y (List.mem_cons_of_mem _ List.mem_cons_self)
      refine ⟨_, rfl, rfl, _, rfl, iteDN (kNe (b := 3) (by decide)) ⟨_, rfl, rfl, _, rfl, iteDN (kNe (b := 4) (by decide)) ⟨_, rfl, rfl, _, rfl, iteDN (kNe (b := 5) (by decide)) ⟨_, rfl, rfl, _, rfl, iteDN (kNe (b := 6) (by decide)) ?_⟩⟩⟩⟩
      exact ⟨_, rfl, _, rfl, rr, _, _, _, rfl, rfl, SqLof h1, two0, _, rfl, rr, _, _, _, rfl, rfl, SqLof h1, two1, a, la, ca, v, x, y, rfl, hv, h2, by omega, h3, by omega, q⟩
def sp_answered (CV CP CL : Addr) : Sp := fun vs H Q _ => ∃ (G : Hp) (L b rr : Addr) (v : Uw50.Vine) (k : Nat) (l : List Nat) (rs : List (List Nat)) (c : Uw50.Call), vs = [.ref L, N k, .ref b, .ref rr] ∧ LineG CV CP CL G H L v ∧ H b = some (.lst (Ns l)) ∧ RowsAt H rr rs ∧ callFrom k l rs = some c ∧ (∀ r ∈ rs, r.length ≤ 8) ∧
  ∀ H' p, G p = none → LineG CV CP CL G H' L (Uw50.step v c).1 → H' p = some (.lst (outV (Uw50.step v c).2)) → Q (.ref p) H'
theorem ok_answered (T : Txt K mg CV CP CF CL) : Keeps P w K mg base 8 "answered" ["line", "call", "values", "rows"] (sp_answered CV CP CL) := by
  refine T.d_answered.ok sc_answered (fun vs H Q E h => ?_) (fun f cdv A outer s H vs Q E hr h => ?_)
  · obtain ⟨G, L, b, rr, v, k, l, rs, c, rfl, _⟩ := h
    rfl
  · obtain ⟨G, L, b, rr, v, k, l, rs, c, rfl, hL, hb, hR, hc, h8, q⟩ := h
    refine ⟨_, (pss_cons (ps_if (pt_cmpR op_le (pv 1) (pe_const rfl T.g_PLOT) (nomark _))
(pss_one (ps_ret (pe_lst (pa_cons (pe_callN (ok_changed T) (hr.mono (by decide)) rfl (pa_cons (pv 0) (pa_cons (pv 1) (pa_cons (pv 2) pa_nil)))) pa_nil))))
pss_nil)
(pss_one (ps_ret (pe_callN (ok_asked T) (hr.mono (by decide)) rfl (pa_cons (pe_fld (pv 0) rfl) (pa_cons (pv 1) (pa_cons (pv 2) (pa_cons (pv 3) pa_nil)))))))), ?_⟩
    unfold callFrom at hc
    refine ⟨_, rfl, _, _, rfl, rfl, _, rfl, ite2 (fun c1 => ?_) (fun c1 => ?_)⟩
    · have d1 : (k : Int) ≤ 2 := of_decide_eq_true c1
      rw [if_pos (by omega)] at hc
      refine ⟨_, rfl, _, rfl, _, rfl, G, L, b, v, k, l, c, rfl, hL, hb, hc, fun H1 hL1 => ⟨by show 1 ≤ sizeLine; decide, fun p hp => q _ p (hL1.same.free hp) (hL1.mono (sm_new hp)) (upd_same.trans ?_)⟩⟩
      rw [chg_out hc]
    · have d1 : ¬ (k : Int) ≤ 2 := fun h => c1 (decide_eq_true h)
      rw [if_neg (by omega)] at hc
      obtain ⟨dl, a, F, h1, hV⟩ := hL.field T
      refine ⟨_, rfl, ?_⟩
      apply fldV (F)
      refine ⟨_, rfl, _, rfl, _, rfl, a, b, rr, v, k, l, rs, c, rfl, hV.at, hb, hR, hc, h8, fun H1 p hp e1 h2 => q _ p (hL.same.free hp) ?_ h2⟩
      rw [ask_stays hc]
      exact hL.mono e1
def sp_rows_from (K : PySem.W.Frag) : Sp := fun vs H Q _ => ∃ (a : Addr) (cs : List Nat) (pl many : Nat) (rs : List (List Nat)) (t : List Nat), vs = [.ref a, N pl, N many] ∧ SqL K H a (Ns cs) ∧ many ≤ 2 ∧ pl ≤ cs.length ∧ rowsN many (cs.drop pl) = some (rs, t) ∧
  ∀ H' p x pl', Same H H' → H' p = some (.tup [.ref x, N pl']) → RowsAt H' x rs → pl ≤ pl' → pl' ≤ cs.length → cs.drop pl' = t → Q (.ref p) H'
theorem ok_rows_from (T : Txt K mg CV CP CF CL) : Keeps P w K mg base 1 "rows_from" ["calls", "place", "many"] (sp_rows_from K) := by
  refine T.d_rows_from.ok sc_rows_from (fun vs H Q E h => ?_) (fun f cdv A outer s H vs Q E hr h => ?_)
  · obtain ⟨a, cs, pl, many, rs, t, rfl, _⟩ := h
    rfl
  · obtain ⟨a, cs, pl, many, rs, t, rfl, hS, hm, hpl, hrows, q⟩ := h
    refine ⟨_, (pss_cons (ps_set (i := 3) sc_rows_from.nd rfl (Or.inl rfl) (pe_lst pa_nil))
(pss_cons (ps_for PassesOwn.never rfl (pi_range1 (by rfl) T.b_range (pa_cons (pv 2) pa_nil)) (pg_name (i := 4) sc_rows_from.nd rfl (Or.inl rfl))
(pss_cons (ps_set (i := 5) sc_rows_from.nd rfl (Or.inl rfl) (pe_op op_add (pe_op op_add (pv 1) pe_int) (pe_ix ix_list (pv 0) (pv 1) (fun _ _ => rfl))))
(pss_cons (ps_expr (pe_bm PySem.F.plainAttrs_list PySem.F.slot_list_append PySem.F.type_list_append mt_append (pv 3) (pa_cons (pe_slice sl_list (pv 0) (po_some (pe_op op_add (pv 1) pe_int)) (po_some (pv 5))) pa_nil)))
(pss_one (ps_set (i := 1) sc_rows_from.nd rfl (Or.inl rfl) (pv 5))))))
(pss_one (ps_ret (pe_tup (pa_cons (pv 3) (pa_cons (pv 1) pa_nil))))))), ?_⟩
    refine ⟨Nat.zero_le _, fun f0 hf0 => ?_⟩
    refine ⟨_, rfl, _, rfl, by omega, by omega, for_range (lo := 0) (n := many) (fun i σ H1 => ∃ (p1 : Nat) (x y : Option V) (ps : List (Addr × List Nat)) (rs2 : List (List Nat)), σ = [some (.ref a), some (N p1), some (N many), some (.ref f0), x, y] ∧ Same H H1 ∧ H1 f0 = some (.lst (ps.map fun x => .ref x.1)) ∧ (∀ x ∈ ps, H1 x.1 = some (.lst (Ns x.2)) ∧ x.1 ≠ f0) ∧
      ps.map (·.2) ++ rs2 = rs ∧ ps.length = i ∧ rowsN (many - i) (cs.drop p1) = some (rs2, t) ∧ pl ≤ p1 ∧ p1 ≤ cs.length) ⟨pl, _, _, [], rs, rfl, sm_new hf0, upd_same, fun x hx => (by cases hx), rfl, rfl, hrows, Nat.le_refl _, hpl⟩ ?_ ?_⟩
    · rintro i σ H1 hi ⟨p1, x1, y1, ps, rs2, rfl, e1, h1, h2, h3, h4, h5, h6, h7⟩
      have hj : many - i = (many - (i + 1)) + 1 := by omega
      rw [hj, rowsN] at h5
      cases hd : cs.drop p1 with
      | nil =>
        rw [hd] at h5
        cases h5
      | cons n r =>
        rw [hd, rowN] at h5
        obtain ⟨g1, g2, g3⟩ := drop_cons hd
        by_cases hn : n ≤ r.length
        · rw [if_pos hn] at h5
          dsimp only at h5
          cases hq : rowsN (many - (i + 1)) (r.drop n) with
          | none =>
            rw [hq] at h5
            cases h5
          | some z =>
            obtain ⟨xs, t2⟩ := z
            rw [hq] at h5
            have h8 := Option.some.inj h5
            injection h8 with h8 h9
            subst h8 h9
            have hrl : r.length = cs.length - (p1 + 1) := by
              rw [← g2, List.length_drop]
            have hle : p1 + 1 + n ≤ cs.length := by omega
            have eb : V.int ((p1 : Int) + 1 + (n : Int)) = N (p1 + 1 + n) := congrArg V.int (by omega)
            -- behind = place + 1 + calls[place]
            refine ⟨_, rfl, _, _, rfl, rfl, _, rfl, _, rfl, a, _, _, _, rfl, rfl, e1.seq hS, Ns_at g1, _, _, rfl, rfl, ?_⟩
            -- found.append(calls[place + 1:behind])
            refine ⟨_, rfl, .inl ⟨rfl, _, SqLof h1⟩, _, rfl, _, rfl, _, _, rfl, rfl, _, rfl, _, rfl, _, rfl, a, _, rfl, e1.seq hS, fun u hu => ?_⟩
            have hcut : cutV (Ns cs) (some ((p1 : Int) + 1)) (some ((p1 : Int) + 1 + (n : Int))) = Ns (r.take n) := by
              rw [← g2, ← cut_mid cs (p1 + 1) n hle]
              rfl
            have hnu : u ≠ f0 := (ne_of_none h1 hu).symm
            refine ⟨f0, _, _, rfl, rfl, (upd_ne hnu.symm).trans h1, ?_, ?_⟩
            · rw [List.length_map, h4]
              exact Nat.lt_of_lt_of_le (by omega : i < 2) (by decide)
            -- place = behind
            refine ⟨_, rfl, p1 + 1 + n, some (.int (0 + (i : Int))), some (.int ((p1 : Int) + 1 + (n : Int))), ps ++ [(u, r.take n)], xs, ?_, sm_mut (e1.trans (sm_new hu)) hf0, ?_, fun x hx => ?_, ?_, ?_, ?_, by omega, hle⟩
            · rw [← eb]
              rfl
            · rw [upd_same, List.map_append]
              rfl
            · rcases List.mem_append.mp hx with hx | hx
              · obtain ⟨k1, k2⟩ := h2 x hx
                exact ⟨(upd_ne k2).trans ((upd_ne (ne_of_none k1 hu)).trans k1), k2⟩
              · obtain rfl := List.mem_singleton.mp hx
                refine ⟨(upd_ne hnu).trans (upd_same.trans ?_), hnu⟩
                show some (HO.lst (cutV (Ns cs) (some ((p1 : Int) + 1)) (some ((p1 : Int) + 1 + (n : Int))))) = _
                rw [hcut]
            · rw [← h3, List.map_append, List.append_assoc]
              rfl
            · rw [List.length_append, h4]
              rfl
            · rw [← hq, ← g2, List.drop_drop]
        · rw [if_neg hn] at h5
          cases h5
    · rintro σ H1 ⟨p1, x1, y1, ps, rs2, rfl, e1, h1, h2, h3, h4, h5, h6, h7⟩
      rw [Nat.sub_self, rowsN] at h5
      have h8 := Option.some.inj h5
      injection h8 with h8 h9
      subst h8
      rw [List.append_nil] at h3
      refine ⟨_, rfl, _, rfl, by show 2 ≤ sizeLine; decide, fun p hp => q _ p f0 p1 (e1.trans (sm_new hp)) upd_same ⟨ps, h3, (sm_new hp) _ _ h1, fun x hx => (sm_new hp) _ _ (h2 x hx).1⟩ h6 h7 h9⟩
end
end Vh

set_option Elab.async false
set_option linter.all false
set_option maxRecDepth 100000
set_option maxHeartbeats 4000000
namespace Vh
open PySem PySem.Spec PyProof.Rows L2 VhM
theorem rowN_mem {l : List Nat} {r t : List Nat} (h : rowN l = some (r, t)) : (∀ x ∈ r, x ∈ l) ∧ ∀ x ∈ t, x ∈ l := by
  cases l with
  | nil => cases h
  | cons n s =>
    rw [rowN] at h
    by_cases c : n ≤ s.length
    · rw [if_pos c] at h
      have h1 := Option.some.inj h
      injection h1 with h1 h2
      subst h1 h2
      exact ⟨fun x hx => List.mem_cons_of_mem _ (List.mem_of_mem_take hx), fun x hx => List.mem_cons_of_mem _ (List.mem_of_mem_drop hx)⟩
    · rw [if_neg c] at h
      cases h
theorem rowsN_mem : ∀ (k : Nat) (l : List Nat) (rs : List (List Nat)) (t : List Nat), rowsN k l = some (rs, t) → ∀ r ∈ rs, ∀ x ∈ r, x ∈ l
  | 0, l, rs, t, h, r, hr => by
    have h1 := Option.some.inj h
    injection h1 with h1 h2
    subst h1
    cases hr
  | k + 1, l, rs, t, h, r, hr => by
    rw [rowsN] at h
    cases hw : rowN l with
    | none =>
      rw [hw] at h
      cases h
    | some x =>
      rw [hw] at h
      obtain ⟨x, s⟩ := x
      dsimp only at h
      obtain ⟨m1, m2⟩ := rowN_mem hw
      cases hq : rowsN k s with
      | none =>
        rw [hq] at h
        cases h
      | some y =>
        rw [hq] at h
        obtain ⟨xs, t'⟩ := y
        have h1 := Option.some.inj h
        injection h1 with h1 h2
        subst h1
        rcases List.mem_cons.mp hr with rfl | hr
        · exact m1
        · exact fun z hz => m2 z (rowsN_mem k s xs t' hq r hr z hz)
theorem tab_at {q n k : Nat} (h : PyUw50.shape (q : Int) = some (n, k)) : atI (([5, 2, 6, 0, 0, 0, 1, 0] : List Int).map V.int) (q : Int) = some (N n) ∧ atI (([0, 0, 0, 0, 2, 1, 2, 2] : List Int).map V.int) (q : Int) = some (N k) ∧ k ≤ 2 := by
  rcases shape_cases h with ⟨rfl, rfl, rfl⟩ | ⟨rfl, rfl, rfl⟩ | ⟨rfl, rfl, rfl⟩ | ⟨rfl, rfl, rfl⟩ | ⟨rfl, rfl, rfl⟩ | ⟨rfl, rfl, rfl⟩ | ⟨rfl, rfl, rfl⟩ | ⟨rfl, rfl, rfl⟩
  · exact ⟨atI_nat (j := 0) rfl, atI_nat (j := 0) rfl, by decide⟩
  · exact ⟨atI_nat (j := 1) rfl, atI_nat (j := 1) rfl, by decide⟩
  · exact ⟨atI_nat (j := 2) rfl, atI_nat (j := 2) rfl, by decide⟩
  · exact ⟨atI_nat (j := 3) rfl, atI_nat (j := 3) rfl, by decide⟩
  · exact ⟨atI_nat (j := 4) rfl, atI_nat (j := 4) rfl, by decide⟩
  · exact ⟨atI_nat (j := 5) rfl, atI_nat (j := 5) rfl, by decide⟩
  · exact ⟨atI_nat (j := 6) rfl, atI_nat (j := 6) rfl, by decide⟩
  · exact ⟨atI_nat (j := 7) rfl, atI_nat (j := 7) rfl, by decide⟩
/-- between two turns of the loop over the calls -/
def LoopInv (H0 : Hp) (CV CP CL : Addr) (cs : List Nat) (a x p : Addr) (m : Nat) (σ : L2.St) (H1 : Hp) : Prop :=
  ∃ (G : Hp) (pl : Nat) (v : Uw50.Vine) (f : Nat) (raw : List (List (List Int))) (acc : List Int) (x4 x5 x6 x7 x8 : Option V), m = cs.length - pl ∧ σ = [some (.ref a), some (.ref x), some (.ref p), some (N pl), x4, x5, x6, x7, x8] ∧
    Same H0 G ∧ G p = some (.lst (acc.map V.int)) ∧ LineG CV CP CL G H1 x v ∧ pl ≤ cs.length ∧ PyFlat.calls PyUw50.shape f (Zs (cs.drop pl)) = some raw ∧ (∀ c ∈ raw, PyInside.call PyUw50.bound c = true) ∧ PyUw50.answers (Zs cs) = acc ++ play v raw
section
variable {P : Program} {w : World} {K : PySem.W.Frag} {mg : Str → Option Value} {base : Heap} {CV CP CF CL : Addr}
def sp_answers (K : PySem.W.Frag) : Sp := fun vs H Q _ => ∃ (a : Addr) (cs : List Nat), vs = [.ref a] ∧ SqL K H a (Ns cs) ∧ (∀ x ∈ cs, x < 2 ^ 32) ∧ PyUw50.answers_asked (Zs cs) = true ∧
  ∀ H' p, H' p = some (.lst ((PyUw50.answers (Zs cs)).map V.int)) → Q (.ref p) H'
theorem ok_answers {f : Addr} {fd : FuncData} (F : Fun K "answers" "answers" s_answers f fd) (T : Txt K mg CV CP CF CL) : FnOk P w K mg base CX0 9 f fd ["calls"] (sp_answers K) := by
  refine F.ok sc_answers (fun vs H Q E h => ?_) (fun cdv A outer s H vs Q E hr h => ?_)
  · obtain ⟨a, cs, rfl, _⟩ := h
    rfl
  · obtain ⟨a, cs, rfl, hS, hb, hask, q⟩ := h
    obtain ⟨raw0, hraw0, hin0, hshort⟩ := asked_of hask
    obtain ⟨a_NUMBERS, g_NUMBERS, hN⟩ := T.g_NUMBERS
    obtain ⟨a_ROWS, g_ROWS, hR⟩ := T.g_ROWS
    refine ⟨_, (pss_cons (ps_set (i := 1) sc_answers.nd rfl (Or.inl rfl) (pe_makeN0 (ok_Line_init T) (hr.mono (by decide)) rfl))
(pss_cons (ps_set (i := 2) sc_answers.nd rfl (Or.inl rfl) (pe_lst pa_nil))
(pss_cons (ps_set (i := 3) sc_answers.nd rfl (Or.inl rfl) pe_int)
(pss_cons (ps_while PassesOwn.never (pt_cmpR op_lt (pv 3) (pe_callB call_len_seq (by rfl) T.b_len boot_len (pa_cons (pv 0) pa_nil)) (nomark _))
(pss_cons (ps_set (i := 4) sc_answers.nd rfl (Or.inl rfl) (pe_ix ix_list (pv 0) (pv 3) (fun _ _ => rfl)))
(pss_cons (ps_set (i := 5) sc_answers.nd rfl (Or.inl rfl) (pe_op op_add (pe_op op_add (pv 3) pe_int) (pe_ix ix_tup (pe_glob (v := .ref a_NUMBERS) rfl g_NUMBERS rfl) (pv 4) (fun _ _ => rfl))))
(pss_cons (ps_asg (pe_callN (ok_rows_from T) (hr.mono (by decide)) rfl (pa_cons (pv 0) (pa_cons (pv 5) (pa_cons (pe_ix ix_tup (pe_glob (v := .ref a_ROWS) rfl g_ROWS rfl) (pv 4) (fun _ _ => rfl)) pa_nil)))) (pg_tup rfl (pgs_cons (pg_name (i := 6) sc_answers.nd rfl (Or.inl rfl)) (pgs_cons (pg_name (i := 7) sc_answers.nd rfl (Or.inl rfl)) pgs_nil))))
(pss_cons (ps_set (i := 8) sc_answers.nd rfl (Or.inl rfl) (pe_callN (ok_answered T) (hr.mono (by decide)) rfl (pa_cons (pv 1) (pa_cons (pv 4) (pa_cons (pe_slice sl_list (pv 0) (po_some (pe_op op_add (pv 3) pe_int)) (po_some (pv 5))) (pa_cons (pv 6) pa_nil))))))
(pss_cons (ps_expr (pe_bm PySem.F.plainAttrs_list PySem.F.slot_list_append PySem.F.type_list_append mt_append (pv 2) (pa_cons (pe_callB call_len_seq (by rfl) T.b_len boot_len (pa_cons (pv 8) pa_nil)) pa_nil)))
(pss_cons (ps_expr (pe_bm PySem.F.plainAttrs_list PySem.F.slot_list_extend PySem.F.type_list_extend mt_extend (pv 2) (pa_cons (pv 8) pa_nil)))
(pss_one (ps_set (i := 3) sc_answers.nd rfl (Or.inl rfl) (pv 7))))))))))
(pss_one (ps_ret (pv 2))))))), ?_⟩
    -- line = Line()
    intro x dx hx hdx _
    have e1 : Same H (upd (upd H dx (.own x)) x (.ins CL dx [])) := made hx hdx
    refine ⟨x, dx, rfl, upd_same, fun H2 k2 hLn => ⟨rfl, ?_⟩⟩
    have s2 : Same H H2 := fun b o hbo => k2 _ _ (e1 _ _ hbo) (ne_of_none hbo hx)
    obtain ⟨dl, av, hl, hV⟩ := hLn
    have hL2 : LineG CV CP CL H H2 x (vine0 1 0 0 0 0) := ⟨s2, hx, dl, av, hl, hV.less e1⟩
    -- found = []
    refine ⟨Nat.zero_le _, fun p hp => ?_⟩
    have hp0 : H p = none := s2.free hp
    refine ⟨LoopInv H CV CP CL cs a x p, ⟨cs.length - 0, upd H p (.lst []), 0, Uw50.init, (Zs cs).length, raw0, [], _, _, _, _, _, rfl, rfl, sm_new hp0, upd_same, hL2.made hp, Nat.zero_le _, hraw0, hin0, answers_play hraw0⟩, ?_⟩
    rintro m σ H1 ⟨G, pl, v, f', raw, acc, x4, x5, x6, x7, x8, rfl, rfl, hHG, hGp, hL, hpl, hcalls, hin, hans⟩
    have hSG := hHG.seq hS
    have hS1 := hL.same.seq hSG
    refine ⟨_, rfl, _, rfl, a, _, rfl, .inl hS1, _, _, rfl, rfl, _, rfl, ?_⟩
    rw [Ns_len]
    by_cases hlt : pl < cs.length
    · refine iteD (Int.ofNat_lt.mpr hlt) ?_
      refine ⟨fun σ' H' => ∃ m', m' < cs.length - pl ∧ LoopInv H CV CP CL cs a x p m' σ' H', fun _ _ h => h, ?_⟩
      cases hd : cs.drop pl with
      | nil =>
        have h1 := congrArg List.length hd
        rw [List.length_drop] at h1
        exact absurd h1 (by show ¬ cs.length - pl = 0; omega)
      | cons qn r =>
        obtain ⟨g1, g2, g3⟩ := drop_cons hd
        rw [hd] at hcalls
        obtain ⟨f2, n, k, rs, t, raw', hsh, hn, hrows, hcalls', rfl⟩ := calls_step hcalls
        have hkl := rowsN_len _ _ _ _ hrows
        have h8 := inside_rows hsh hkl (hin _ List.mem_cons_self)
        have hvl : (r.take n).length = n := by
          rw [List.length_take]
          omega
        have hrm : ∀ z ∈ r, z < 2 ^ 32 := fun z hz => hb z (by
          rw [← g2] at hz
          exact List.mem_of_mem_drop hz)
        obtain ⟨c, hcf, hstep⟩ := step_call hsh hvl hkl h8 (fun z hz => hrm z (List.mem_of_mem_take hz)) (fun r2 hr2 z hz => hrm z (List.mem_of_mem_drop (rowsN_mem _ _ _ _ hrows r2 hr2 z hz)))
        obtain ⟨at1, at2, hk2⟩ := tab_at hsh
        have hrl : r.length = cs.length - (pl + 1) := by
          rw [← g2, List.length_drop]
        have hle : pl + 1 + n ≤ cs.length := by omega
        have eat : V.int ((pl : Int) + 1 + (n : Int)) = N (pl + 1 + n) := congrArg V.int (by omega)
        have hplay := play_cons (v := v) (raw := raw') hstep
        rw [hplay] at hans
        have hlen : acc.length + 1 + (Uw50Neutral.out (Uw50.step v c).2).length ≤ 10000000 := by
          have h1 := congrArg List.length hans
          rw [List.length_append, List.length_cons, List.length_append] at h1
          omega
        -- call = calls[place]
        refine ⟨_, rfl, _, rfl, a, _, _, _, rfl, rfl, hS1, Ns_at g1, ?_⟩
        -- at = place + 1 + NUMBERS[call]
        refine ⟨_, rfl, _, _, rfl, rfl, _, rfl, a_NUMBERS, _, _, _, rfl, rfl, hN _, at1, _, _, rfl, rfl, ?_⟩
        -- rows, behind = rows_from(calls, at, ROWS[call])
        refine ⟨_, rfl, _, rfl, _, rfl, a_ROWS, _, _, _, rfl, rfl, hR _, at2, a, cs, pl + 1 + n, k, rs, t, ?_, hS1, hk2, hle, ?_, fun H2 tp xr pl' e2 htp hxr j1 j2 j3 => ?_⟩
        · show [V.ref a, V.int ((pl : Int) + 1 + (n : Int)), N k] = [V.ref a, N (pl + 1 + n), N k]
          rw [eat]
        · rw [← hrows, ← g2, List.drop_drop]
        refine ⟨tp, _, rfl, SqTof htp, rfl, _, _, rfl, _, _, rfl, rfl, ?_⟩
        have hL3 := hL.mono e2
        -- numbers = answered(line, call, calls[place + 1:at], rows)
        refine ⟨_, rfl, _, rfl, _, rfl, _, rfl, _, _, rfl, rfl, _, rfl, _, rfl, _, rfl, a, _, rfl, hL3.same.seq hSG, fun u hu => ?_⟩
        have e3 := sm_new (o := .lst (cutV (Ns cs) (some ((pl : Int) + 1)) (some ((pl : Int) + 1 + (n : Int))))) hu
        have hcut : cutV (Ns cs) (some ((pl : Int) + 1)) (some ((pl : Int) + 1 + (n : Int))) = Ns (r.take n) := by
          rw [← g2, ← cut_mid cs (pl + 1) n hle]
          rfl
        refine ⟨_, rfl, G, x, u, xr, v, qn, r.take n, rs, c, rfl, hL3.mono e3, upd_same.trans (congrArg (fun z => some (HO.lst z)) hcut), hxr.mono e3, hcf, h8, fun H4 pn hpn hL4 hH4 => ?_⟩
        have hp4 := hL4.same _ _ hGp
        have hne : pn ≠ p := fun z => by
          rw [z, hGp] at hpn
          cases hpn
        have hol : (outV (Uw50.step v c).2).length = (Uw50Neutral.out (Uw50.step v c).2).length := by
          rw [out_V, List.length_map]
        -- found.append(len(numbers)); found.extend(numbers)
        refine ⟨_, rfl, .inl ⟨rfl, _, SqLof hp4⟩, _, rfl, pn, _, rfl, .inl (SqLof hH4), p, _, _, rfl, rfl, hp4, ?_, ?_⟩
        · rw [List.length_map]
          exact Nat.lt_of_le_of_lt (by omega : acc.length ≤ 10000000) (by decide)
        refine ⟨_, rfl, .inl ⟨rfl, _, SqLof upd_same⟩, _, rfl, p, pn, _, _, rfl, rfl, upd_same, (upd_ne hne).trans hH4, ?_, ?_⟩
        · rw [List.length_append, List.length_map, hol]
          show acc.length + 1 + (Uw50Neutral.out (Uw50.step v c).2).length ≤ sizeLine
          exact Nat.le_trans hlen (by decide)
        -- place = behind
        rw [upd_upd]
        have hacc : (acc ++ ((((Uw50Neutral.out (Uw50.step v c).2).length : Nat) : Int) :: Uw50Neutral.out (Uw50.step v c).2)).map V.int = acc.map V.int ++ [V.int (((outV (Uw50.step v c).2).length : Nat) : Int)] ++ outV (Uw50.step v c).2 := by
          rw [hol, out_V, List.map_append, List.map_cons, List.append_assoc]
          rfl
        refine ⟨_, rfl, cs.length - pl', by omega, upd G p (.lst (acc.map V.int ++ [V.int (((outV (Uw50.step v c).2).length : Nat) : Int)] ++ outV (Uw50.step v c).2)), pl', (Uw50.step v c).1, f2, raw', acc ++ ((((Uw50Neutral.out (Uw50.step v c).2).length : Nat) : Int) :: Uw50Neutral.out (Uw50.step v c).2), _, _, _, _, _, rfl, rfl, ?_, ?_, hL4.found hGp, j2, ?_, fun z hz => hin z (List.mem_cons_of_mem _ hz), ?_⟩
        · exact sm_mut hHG hp0
        · rw [hacc]
          exact upd_same
        · rw [j3]
          exact hcalls'
        · rw [hans, List.append_assoc]
          rfl
    · refine iteDN (fun z => hlt (Int.ofNat_lt.mp z)) ?_
      have hd : cs.drop pl = [] := List.drop_eq_nil_of_le (by omega)
      rw [hd, calls_nil] at hcalls
      obtain rfl := Option.some.inj hcalls
      have hfin : PyUw50.answers (Zs cs) = acc := by
        rw [hans]
        exact List.append_nil _
      refine ⟨_, rfl, q H1 p ?_⟩
      rw [hfin]
      exact hL.same _ _ hGp
end
end Vh

set_option Elab.async false
set_option linter.all false
set_option maxRecDepth 100000
set_option maxHeartbeats 8000000
namespace Vh
open PySem PySem.Spec PyProof.Rows L2
/-! ### what the top has written -/
theorem txt_mk {K : PySem.W.Frag} {h : Heap} {mg : Str → Option Value} {CF CV CP CL fi_Found fi_Vineyard fi_Plot fi_Line tp_NUMBERS tp_ROWS f_days_off f_worth_on f_first_wrong_plot f_loads_on f_picked_by f_first_full_day f_loads_picked f_days_picked f_earned f_kept_behind f_first_spoilt f_course f_right_ones f_rows_of f_all_plans f_all_colours f_is_better f_is_as_good f_with_plan f_best_of f_goes_on f_plans_from f_colours_from f_found_told f_may_begin f_may_be_plot f_is_plan f_are_colours f_against_plan f_against f_best_told f_check_told f_press_told f_goes_told f_nights_told f_begun f_rained f_planted f_changed f_asked f_answered f_rows_from f_answers : Addr} (X : K.In h) (G : h.Ns mainGlobals mg)
    {oc1 kV1 dc1 pm1 cd1 ct1 : Value} {od1 an1 : Option Addr} {sl1 : Array (Option Value)}
    {oc2 kV2 dc2 pm2 cd2 ct2 : Value} {od2 an2 : Option Addr} {sl2 : Array (Option Value)}
    {oc3 kV3 dc3 pm3 cd3 ct3 : Value} {od3 an3 : Option Addr} {sl3 : Array (Option Value)}
    {oc4 kV4 dc4 pm4 cd4 ct4 : Value} {od4 an4 : Option Addr} {sl4 : Array (Option Value)}
    {t_SPOILS : Tok}
    {t_TOO_FULL : Tok}
    {t_KEPT_AT_END : Tok}
    {t_MOST_DAYS : Tok}
    {t_MOST_PLOTS : Tok}
    {t_MOST_LOADS : Tok}
    {t_MOST_COST : Tok}
    {t_MOST_OF_PLOT : Tok}
    {t_MOST_BESIDE : Tok}
    {t_MOST_WORTH : Tok}
    {t_NO_PLAN : Tok}
    {t_NO_DAY_asking : Tok}
    {t_WRONG_PLOT : Tok}
    {t_FULL_DAY : Tok}
    {t_NONE_THERE : Tok}
    {t_BEGINS : Tok}
    {t_RAIN : Tok}
    {t_PLOT : Tok}
    {t_BEST : Tok}
    {t_CHECK : Tok}
    {t_PRESS : Tok}
    {t_GOES : Tok}
    {t_NOT_AS_TOLD : Tok}
    {t_NO_DAY_harvests : Tok}
    {t_FULL : Tok}
    {t_NUMBERS_0 t_NUMBERS_1 t_NUMBERS_2 t_NUMBERS_3 t_NUMBERS_4 t_NUMBERS_5 t_NUMBERS_6 t_NUMBERS_7 : Tok} {dc_NUMBERS : Option Addr} {sl_NUMBERS : Array (Option Value)} {n_NUMBERS : Nat}
    {t_ROWS_0 t_ROWS_1 t_ROWS_2 t_ROWS_3 t_ROWS_4 t_ROWS_5 t_ROWS_6 t_ROWS_7 : Tok} {dc_ROWS : Option Addr} {sl_ROWS : Array (Option Value)} {n_ROWS : Nat}
    {oc5 kV5 dc5 pm5 cd5 ct5 : Value} {od5 an5 : Option Addr} {sl5 : Array (Option Value)}
    {oc6 kV6 dc6 pm6 cd6 ct6 : Value} {od6 an6 : Option Addr} {sl6 : Array (Option Value)}
    {oc7 kV7 dc7 pm7 cd7 ct7 : Value} {od7 an7 : Option Addr} {sl7 : Array (Option Value)}
    {oc8 kV8 dc8 pm8 cd8 ct8 : Value} {od8 an8 : Option Addr} {sl8 : Array (Option Value)}
    {oc9 kV9 dc9 pm9 cd9 ct9 : Value} {od9 an9 : Option Addr} {sl9 : Array (Option Value)}
    {oc10 kV10 dc10 pm10 cd10 ct10 : Value} {od10 an10 : Option Addr} {sl10 : Array (Option Value)}
    {oc11 kV11 dc11 pm11 cd11 ct11 : Value} {od11 an11 : Option Addr} {sl11 : Array (Option Value)}
    {oc12 kV12 dc12 pm12 cd12 ct12 : Value} {od12 an12 : Option Addr} {sl12 : Array (Option Value)}
    {oc13 kV13 dc13 pm13 cd13 ct13 : Value} {od13 an13 : Option Addr} {sl13 : Array (Option Value)}
    {oc14 kV14 dc14 pm14 cd14 ct14 : Value} {od14 an14 : Option Addr} {sl14 : Array (Option Value)}
    {oc15 kV15 dc15 pm15 cd15 ct15 : Value} {od15 an15 : Option Addr} {sl15 : Array (Option Value)}
    {oc16 kV16 dc16 pm16 cd16 ct16 : Value} {od16 an16 : Option Addr} {sl16 : Array (Option Value)}
    {oc17 kV17 dc17 pm17 cd17 ct17 : Value} {od17 an17 : Option Addr} {sl17 : Array (Option Value)}
    {oc18 kV18 dc18 pm18 cd18 ct18 : Value} {od18 an18 : Option Addr} {sl18 : Array (Option Value)}
    {oc19 kV19 dc19 pm19 cd19 ct19 : Value} {od19 an19 : Option Addr} {sl19 : Array (Option Value)}
    {oc20 kV20 dc20 pm20 cd20 ct20 : Value} {od20 an20 : Option Addr} {sl20 : Array (Option Value)}
    {oc21 kV21 dc21 pm21 cd21 ct21 : Value} {od21 an21 : Option Addr} {sl21 : Array (Option Value)}
    {oc22 kV22 dc22 pm22 cd22 ct22 : Value} {od22 an22 : Option Addr} {sl22 : Array (Option Value)}
    {oc23 kV23 dc23 pm23 cd23 ct23 : Value} {od23 an23 : Option Addr} {sl23 : Array (Option Value)}
    {oc24 kV24 dc24 pm24 cd24 ct24 : Value} {od24 an24 : Option Addr} {sl24 : Array (Option Value)}
    {oc25 kV25 dc25 pm25 cd25 ct25 : Value} {od25 an25 : Option Addr} {sl25 : Array (Option Value)}
    {oc26 kV26 dc26 pm26 cd26 ct26 : Value} {od26 an26 : Option Addr} {sl26 : Array (Option Value)}
    {oc27 kV27 dc27 pm27 cd27 ct27 : Value} {od27 an27 : Option Addr} {sl27 : Array (Option Value)}
    {oc28 kV28 dc28 pm28 cd28 ct28 : Value} {od28 an28 : Option Addr} {sl28 : Array (Option Value)}
    {oc29 kV29 dc29 pm29 cd29 ct29 : Value} {od29 an29 : Option Addr} {sl29 : Array (Option Value)}
    {oc30 kV30 dc30 pm30 cd30 ct30 : Value} {od30 an30 : Option Addr} {sl30 : Array (Option Value)}
    {oc31 kV31 dc31 pm31 cd31 ct31 : Value} {od31 an31 : Option Addr} {sl31 : Array (Option Value)}
    {oc32 kV32 dc32 pm32 cd32 ct32 : Value} {od32 an32 : Option Addr} {sl32 : Array (Option Value)}
    {oc33 kV33 dc33 pm33 cd33 ct33 : Value} {od33 an33 : Option Addr} {sl33 : Array (Option Value)}
    {oc34 kV34 dc34 pm34 cd34 ct34 : Value} {od34 an34 : Option Addr} {sl34 : Array (Option Value)}
    {oc35 kV35 dc35 pm35 cd35 ct35 : Value} {od35 an35 : Option Addr} {sl35 : Array (Option Value)}
    {oc36 kV36 dc36 pm36 cd36 ct36 : Value} {od36 an36 : Option Addr} {sl36 : Array (Option Value)}
    {oc37 kV37 dc37 pm37 cd37 ct37 : Value} {od37 an37 : Option Addr} {sl37 : Array (Option Value)}
    {oc38 kV38 dc38 pm38 cd38 ct38 : Value} {od38 an38 : Option Addr} {sl38 : Array (Option Value)}
    {oc39 kV39 dc39 pm39 cd39 ct39 : Value} {od39 an39 : Option Addr} {sl39 : Array (Option Value)}
    {oc40 kV40 dc40 pm40 cd40 ct40 : Value} {od40 an40 : Option Addr} {sl40 : Array (Option Value)}
    {oc41 kV41 dc41 pm41 cd41 ct41 : Value} {od41 an41 : Option Addr} {sl41 : Array (Option Value)}
    {oc42 kV42 dc42 pm42 cd42 ct42 : Value} {od42 an42 : Option Addr} {sl42 : Array (Option Value)}
    {oc43 kV43 dc43 pm43 cd43 ct43 : Value} {od43 an43 : Option Addr} {sl43 : Array (Option Value)}
    {oc44 kV44 dc44 pm44 cd44 ct44 : Value} {od44 an44 : Option Addr} {sl44 : Array (Option Value)}
    {oc45 kV45 dc45 pm45 cd45 ct45 : Value} {od45 an45 : Option Addr} {sl45 : Array (Option Value)}
    {oc46 kV46 dc46 pm46 cd46 ct46 : Value} {od46 an46 : Option Addr} {sl46 : Array (Option Value)}
    {oc47 kV47 dc47 pm47 cd47 ct47 : Value} {od47 an47 : Option Addr} {sl47 : Array (Option Value)}
    (aC_Found : PySem.W.nsIn K mainGlobals "Found" = some (some (.ref CF)))
    (aC_Vineyard : PySem.W.nsIn K mainGlobals "Vineyard" = some (some (.ref CV)))
    (aC_Plot : PySem.W.nsIn K mainGlobals "Plot" = some (some (.ref CP)))
    (aC_Line : PySem.W.nsIn K mainGlobals "Line" = some (some (.ref CL)))
    (i_Found : PySem.W.findIn K (.ref CF) "__init__" = some (some (.ref fi_Found)))
    (j_Found : PySem.W.isFn K (.ref fi_Found) = true)
    (l_Found_init : K.lookup fi_Found = some ⟨oc1, od1, .func (PySem.W.fnOf "__init__" "Found.__init__" (defArgs s_Found_init) (defBody s_Found_init) (defScope s_Found_init) .none kV1 dc1 pm1 an1 cd1 ct1), sl1⟩)
    (c_Found_init : PySem.W.codeIn K cd1 "Found.__init__" = true)
    (k_Found_init : PySem.W.keepIn K (.ref fi_Found) = true)
    (pg_Found : PySem.W.plainGet K CF Str.empty = true)
    (hd_Found : PySem.W.hasDictIn K CF = true)
    (po_Found : PySem.W.plainOver K CF = true)
    (sa_Found : PySem.W.findIn K (.ref CF) "__setattr__" = some (some (.builtin "object.__setattr__")))
    (mk_Found : PySem.W.makesIn K CF = true)
    (kc_Found : PySem.W.keepIn K (.ref CF) = true)
    (n_Found_leaves : PySem.W.findIn K (.ref CF) "leaves" = some none)
    (n_Found_days : PySem.W.findIn K (.ref CF) "days" = some none)
    (n_Found_many : PySem.W.findIn K (.ref CF) "many" = some none)
    (n_Found_plan : PySem.W.findIn K (.ref CF) "plan" = some none)
    (n_Found_colours : PySem.W.findIn K (.ref CF) "colours" = some none)
    (i_Vineyard : PySem.W.findIn K (.ref CV) "__init__" = some (some (.ref fi_Vineyard)))
    (j_Vineyard : PySem.W.isFn K (.ref fi_Vineyard) = true)
    (l_Vineyard_init : K.lookup fi_Vineyard = some ⟨oc2, od2, .func (PySem.W.fnOf "__init__" "Vineyard.__init__" (defArgs s_Vineyard_init) (defBody s_Vineyard_init) (defScope s_Vineyard_init) .none kV2 dc2 pm2 an2 cd2 ct2), sl2⟩)
    (c_Vineyard_init : PySem.W.codeIn K cd2 "Vineyard.__init__" = true)
    (k_Vineyard_init : PySem.W.keepIn K (.ref fi_Vineyard) = true)
    (pg_Vineyard : PySem.W.plainGet K CV Str.empty = true)
    (hd_Vineyard : PySem.W.hasDictIn K CV = true)
    (po_Vineyard : PySem.W.plainOver K CV = true)
    (sa_Vineyard : PySem.W.findIn K (.ref CV) "__setattr__" = some (some (.builtin "object.__setattr__")))
    (mk_Vineyard : PySem.W.makesIn K CV = true)
    (kc_Vineyard : PySem.W.keepIn K (.ref CV) = true)
    (n_Vineyard_days : PySem.W.findIn K (.ref CV) "days" = some none)
    (n_Vineyard_most_picked : PySem.W.findIn K (.ref CV) "most_picked" = some none)
    (n_Vineyard_most_pressed : PySem.W.findIn K (.ref CV) "most_pressed" = some none)
    (n_Vineyard_most_kept : PySem.W.findIn K (.ref CV) "most_kept" = some none)
    (n_Vineyard_cost : PySem.W.findIn K (.ref CV) "cost" = some none)
    (n_Vineyard_rain : PySem.W.findIn K (.ref CV) "rain" = some none)
    (n_Vineyard_plots : PySem.W.findIn K (.ref CV) "plots" = some none)
    (i_Plot : PySem.W.findIn K (.ref CP) "__init__" = some (some (.ref fi_Plot)))
    (j_Plot : PySem.W.isFn K (.ref fi_Plot) = true)
    (l_Plot_init : K.lookup fi_Plot = some ⟨oc3, od3, .func (PySem.W.fnOf "__init__" "Plot.__init__" (defArgs s_Plot_init) (defBody s_Plot_init) (defScope s_Plot_init) .none kV3 dc3 pm3 an3 cd3 ct3), sl3⟩)
    (c_Plot_init : PySem.W.codeIn K cd3 "Plot.__init__" = true)
    (k_Plot_init : PySem.W.keepIn K (.ref fi_Plot) = true)
    (pg_Plot : PySem.W.plainGet K CP Str.empty = true)
    (hd_Plot : PySem.W.hasDictIn K CP = true)
    (po_Plot : PySem.W.plainOver K CP = true)
    (sa_Plot : PySem.W.findIn K (.ref CP) "__setattr__" = some (some (.builtin "object.__setattr__")))
    (mk_Plot : PySem.W.makesIn K CP = true)
    (kc_Plot : PySem.W.keepIn K (.ref CP) = true)
    (n_Plot_loads : PySem.W.findIn K (.ref CP) "loads" = some none)
    (n_Plot_colour : PySem.W.findIn K (.ref CP) "colour" = some none)
    (n_Plot_best_day : PySem.W.findIn K (.ref CP) "best_day" = some none)
    (n_Plot_beside : PySem.W.findIn K (.ref CP) "beside" = some none)
    (n_Plot_worth : PySem.W.findIn K (.ref CP) "worth" = some none)
    (n_Plot_less : PySem.W.findIn K (.ref CP) "less" = some none)
    (i_Line : PySem.W.findIn K (.ref CL) "__init__" = some (some (.ref fi_Line)))
    (j_Line : PySem.W.isFn K (.ref fi_Line) = true)
    (l_Line_init : K.lookup fi_Line = some ⟨oc4, od4, .func (PySem.W.fnOf "__init__" "Line.__init__" (defArgs s_Line_init) (defBody s_Line_init) (defScope s_Line_init) .none kV4 dc4 pm4 an4 cd4 ct4), sl4⟩)
    (c_Line_init : PySem.W.codeIn K cd4 "Line.__init__" = true)
    (k_Line_init : PySem.W.keepIn K (.ref fi_Line) = true)
    (pg_Line : PySem.W.plainGet K CL Str.empty = true)
    (hd_Line : PySem.W.hasDictIn K CL = true)
    (po_Line : PySem.W.plainOver K CL = true)
    (sa_Line : PySem.W.findIn K (.ref CL) "__setattr__" = some (some (.builtin "object.__setattr__")))
    (mk_Line : PySem.W.makesIn K CL = true)
    (kc_Line : PySem.W.keepIn K (.ref CL) = true)
    (n_Line_vineyard : PySem.W.findIn K (.ref CL) "vineyard" = some none)
    (b_len : PySem.W.nsIn K mainGlobals "len" = some none)
    (b_sum : PySem.W.nsIn K mainGlobals "sum" = some none)
    (b_all : PySem.W.nsIn K mainGlobals "all" = some none)
    (b_abs : PySem.W.nsIn K mainGlobals "abs" = some none)
    (b_range : PySem.W.nsIn K mainGlobals "range" = some none)
    (b_zip : PySem.W.nsIn K mainGlobals "zip" = some none)
    (b_enumerate : PySem.W.nsIn K mainGlobals "enumerate" = some none)
    (g_SPOILS : PySem.W.nsIn K mainGlobals "SPOILS" = some (some (.int (-8) t_SPOILS)))
    (g_TOO_FULL : PySem.W.nsIn K mainGlobals "TOO_FULL" = some (some (.int (-9) t_TOO_FULL)))
    (g_KEPT_AT_END : PySem.W.nsIn K mainGlobals "KEPT_AT_END" = some (some (.int (-10) t_KEPT_AT_END)))
    (g_MOST_DAYS : PySem.W.nsIn K mainGlobals "MOST_DAYS" = some (some (.int (4) t_MOST_DAYS)))
    (g_MOST_PLOTS : PySem.W.nsIn K mainGlobals "MOST_PLOTS" = some (some (.int (4) t_MOST_PLOTS)))
    (g_MOST_LOADS : PySem.W.nsIn K mainGlobals "MOST_LOADS" = some (some (.int (1000) t_MOST_LOADS)))
    (g_MOST_COST : PySem.W.nsIn K mainGlobals "MOST_COST" = some (some (.int (100000) t_MOST_COST)))
    (g_MOST_OF_PLOT : PySem.W.nsIn K mainGlobals "MOST_OF_PLOT" = some (some (.int (100) t_MOST_OF_PLOT)))
    (g_MOST_BESIDE : PySem.W.nsIn K mainGlobals "MOST_BESIDE" = some (some (.int (3) t_MOST_BESIDE)))
    (g_MOST_WORTH : PySem.W.nsIn K mainGlobals "MOST_WORTH" = some (some (.int (1000) t_MOST_WORTH)))
    (g_NO_PLAN : PySem.W.nsIn K mainGlobals "NO_PLAN" = some (some (.int (-1) t_NO_PLAN)))
    (g_NO_DAY_asking : PySem.W.nsIn K mainGlobals "NO_DAY_asking" = some (some (.int (-2) t_NO_DAY_asking)))
    (g_WRONG_PLOT : PySem.W.nsIn K mainGlobals "WRONG_PLOT" = some (some (.int (-6) t_WRONG_PLOT)))
    (g_FULL_DAY : PySem.W.nsIn K mainGlobals "FULL_DAY" = some (some (.int (-7) t_FULL_DAY)))
    (g_NONE_THERE : PySem.W.nsIn K mainGlobals "NONE_THERE" = some (some (.int (-11) t_NONE_THERE)))
    (g_BEGINS : PySem.W.nsIn K mainGlobals "BEGINS" = some (some (.int (0) t_BEGINS)))
    (g_RAIN : PySem.W.nsIn K mainGlobals "RAIN" = some (some (.int (1) t_RAIN)))
    (g_PLOT : PySem.W.nsIn K mainGlobals "PLOT" = some (some (.int (2) t_PLOT)))
    (g_BEST : PySem.W.nsIn K mainGlobals "BEST" = some (some (.int (3) t_BEST)))
    (g_CHECK : PySem.W.nsIn K mainGlobals "CHECK" = some (some (.int (4) t_CHECK)))
    (g_PRESS : PySem.W.nsIn K mainGlobals "PRESS" = some (some (.int (5) t_PRESS)))
    (g_GOES : PySem.W.nsIn K mainGlobals "GOES" = some (some (.int (6) t_GOES)))
    (g_NOT_AS_TOLD : PySem.W.nsIn K mainGlobals "NOT_AS_TOLD" = some (some (.int (-1) t_NOT_AS_TOLD)))
    (g_NO_DAY_harvests : PySem.W.nsIn K mainGlobals "NO_DAY_harvests" = some (some (.int (-2) t_NO_DAY_harvests)))
    (g_FULL : PySem.W.nsIn K mainGlobals "FULL" = some (some (.int (-5) t_FULL)))
    (g_NUMBERS : PySem.W.nsIn K mainGlobals "NUMBERS" = some (some (.ref tp_NUMBERS)))
    (o_NUMBERS : K.lookup tp_NUMBERS = some ⟨.type "tuple", dc_NUMBERS, .seq #[.int 5 t_NUMBERS_0, .int 2 t_NUMBERS_1, .int 6 t_NUMBERS_2, .int 0 t_NUMBERS_3, .int 0 t_NUMBERS_4, .int 0 t_NUMBERS_5, .int 1 t_NUMBERS_6, .int 0 t_NUMBERS_7] n_NUMBERS, sl_NUMBERS⟩)
    (g_ROWS : PySem.W.nsIn K mainGlobals "ROWS" = some (some (.ref tp_ROWS)))
    (o_ROWS : K.lookup tp_ROWS = some ⟨.type "tuple", dc_ROWS, .seq #[.int 0 t_ROWS_0, .int 0 t_ROWS_1, .int 0 t_ROWS_2, .int 0 t_ROWS_3, .int 2 t_ROWS_4, .int 1 t_ROWS_5, .int 2 t_ROWS_6, .int 2 t_ROWS_7] n_ROWS, sl_ROWS⟩)
    (a_days_off : PySem.W.nsIn K mainGlobals "days_off" = some (some (.ref f_days_off)))
    (l_days_off : K.lookup f_days_off = some ⟨oc5, od5, .func (PySem.W.fnOf "days_off" "days_off" (defArgs s_days_off) (defBody s_days_off) (defScope s_days_off) .none kV5 dc5 pm5 an5 cd5 ct5), sl5⟩)
    (c_days_off : PySem.W.codeIn K cd5 "days_off" = true)
    (k_days_off : PySem.W.keepIn K (.ref f_days_off) = true)
    (a_worth_on : PySem.W.nsIn K mainGlobals "worth_on" = some (some (.ref f_worth_on)))
    (l_worth_on : K.lookup f_worth_on = some ⟨oc6, od6, .func (PySem.W.fnOf "worth_on" "worth_on" (defArgs s_worth_on) (defBody s_worth_on) (defScope s_worth_on) .none kV6 dc6 pm6 an6 cd6 ct6), sl6⟩)
    (c_worth_on : PySem.W.codeIn K cd6 "worth_on" = true)
    (k_worth_on : PySem.W.keepIn K (.ref f_worth_on) = true)
    (a_first_wrong_plot : PySem.W.nsIn K mainGlobals "first_wrong_plot" = some (some (.ref f_first_wrong_plot)))
    (l_first_wrong_plot : K.lookup f_first_wrong_plot = some ⟨oc7, od7, .func (PySem.W.fnOf "first_wrong_plot" "first_wrong_plot" (defArgs s_first_wrong_plot) (defBody s_first_wrong_plot) (defScope s_first_wrong_plot) .none kV7 dc7 pm7 an7 cd7 ct7), sl7⟩)
    (c_first_wrong_plot : PySem.W.codeIn K cd7 "first_wrong_plot" = true)
    (k_first_wrong_plot : PySem.W.keepIn K (.ref f_first_wrong_plot) = true)
    (a_loads_on : PySem.W.nsIn K mainGlobals "loads_on" = some (some (.ref f_loads_on)))
    (l_loads_on : K.lookup f_loads_on = some ⟨oc8, od8, .func (PySem.W.fnOf "loads_on" "loads_on" (defArgs s_loads_on) (defBody s_loads_on) (defScope s_loads_on) .none kV8 dc8 pm8 an8 cd8 ct8), sl8⟩)
    (c_loads_on : PySem.W.codeIn K cd8 "loads_on" = true)
    (k_loads_on : PySem.W.keepIn K (.ref f_loads_on) = true)
    (a_picked_by : PySem.W.nsIn K mainGlobals "picked_by" = some (some (.ref f_picked_by)))
    (l_picked_by : K.lookup f_picked_by = some ⟨oc9, od9, .func (PySem.W.fnOf "picked_by" "picked_by" (defArgs s_picked_by) (defBody s_picked_by) (defScope s_picked_by) .none kV9 dc9 pm9 an9 cd9 ct9), sl9⟩)
    (c_picked_by : PySem.W.codeIn K cd9 "picked_by" = true)
    (k_picked_by : PySem.W.keepIn K (.ref f_picked_by) = true)
    (a_first_full_day : PySem.W.nsIn K mainGlobals "first_full_day" = some (some (.ref f_first_full_day)))
    (l_first_full_day : K.lookup f_first_full_day = some ⟨oc10, od10, .func (PySem.W.fnOf "first_full_day" "first_full_day" (defArgs s_first_full_day) (defBody s_first_full_day) (defScope s_first_full_day) .none kV10 dc10 pm10 an10 cd10 ct10), sl10⟩)
    (c_first_full_day : PySem.W.codeIn K cd10 "first_full_day" = true)
    (k_first_full_day : PySem.W.keepIn K (.ref f_first_full_day) = true)
    (a_loads_picked : PySem.W.nsIn K mainGlobals "loads_picked" = some (some (.ref f_loads_picked)))
    (l_loads_picked : K.lookup f_loads_picked = some ⟨oc11, od11, .func (PySem.W.fnOf "loads_picked" "loads_picked" (defArgs s_loads_picked) (defBody s_loads_picked) (defScope s_loads_picked) .none kV11 dc11 pm11 an11 cd11 ct11), sl11⟩)
    (c_loads_picked : PySem.W.codeIn K cd11 "loads_picked" = true)
    (k_loads_picked : PySem.W.keepIn K (.ref f_loads_picked) = true)
    (a_days_picked : PySem.W.nsIn K mainGlobals "days_picked" = some (some (.ref f_days_picked)))
    (l_days_picked : K.lookup f_days_picked = some ⟨oc12, od12, .func (PySem.W.fnOf "days_picked" "days_picked" (defArgs s_days_picked) (defBody s_days_picked) (defScope s_days_picked) .none kV12 dc12 pm12 an12 cd12 ct12), sl12⟩)
    (c_days_picked : PySem.W.codeIn K cd12 "days_picked" = true)
    (k_days_picked : PySem.W.keepIn K (.ref f_days_picked) = true)
    (a_earned : PySem.W.nsIn K mainGlobals "earned" = some (some (.ref f_earned)))
    (l_earned : K.lookup f_earned = some ⟨oc13, od13, .func (PySem.W.fnOf "earned" "earned" (defArgs s_earned) (defBody s_earned) (defScope s_earned) .none kV13 dc13 pm13 an13 cd13 ct13), sl13⟩)
    (c_earned : PySem.W.codeIn K cd13 "earned" = true)
    (k_earned : PySem.W.keepIn K (.ref f_earned) = true)
    (a_kept_behind : PySem.W.nsIn K mainGlobals "kept_behind" = some (some (.ref f_kept_behind)))
    (l_kept_behind : K.lookup f_kept_behind = some ⟨oc14, od14, .func (PySem.W.fnOf "kept_behind" "kept_behind" (defArgs s_kept_behind) (defBody s_kept_behind) (defScope s_kept_behind) .none kV14 dc14 pm14 an14 cd14 ct14), sl14⟩)
    (c_kept_behind : PySem.W.codeIn K cd14 "kept_behind" = true)
    (k_kept_behind : PySem.W.keepIn K (.ref f_kept_behind) = true)
    (a_first_spoilt : PySem.W.nsIn K mainGlobals "first_spoilt" = some (some (.ref f_first_spoilt)))
    (l_first_spoilt : K.lookup f_first_spoilt = some ⟨oc15, od15, .func (PySem.W.fnOf "first_spoilt" "first_spoilt" (defArgs s_first_spoilt) (defBody s_first_spoilt) (defScope s_first_spoilt) .none kV15 dc15 pm15 an15 cd15 ct15), sl15⟩)
    (c_first_spoilt : PySem.W.codeIn K cd15 "first_spoilt" = true)
    (k_first_spoilt : PySem.W.keepIn K (.ref f_first_spoilt) = true)
    (a_course : PySem.W.nsIn K mainGlobals "course" = some (some (.ref f_course)))
    (l_course : K.lookup f_course = some ⟨oc16, od16, .func (PySem.W.fnOf "course" "course" (defArgs s_course) (defBody s_course) (defScope s_course) .none kV16 dc16 pm16 an16 cd16 ct16), sl16⟩)
    (c_course : PySem.W.codeIn K cd16 "course" = true)
    (k_course : PySem.W.keepIn K (.ref f_course) = true)
    (a_right_ones : PySem.W.nsIn K mainGlobals "right_ones" = some (some (.ref f_right_ones)))
    (l_right_ones : K.lookup f_right_ones = some ⟨oc17, od17, .func (PySem.W.fnOf "right_ones" "right_ones" (defArgs s_right_ones) (defBody s_right_ones) (defScope s_right_ones) .none kV17 dc17 pm17 an17 cd17 ct17), sl17⟩)
    (c_right_ones : PySem.W.codeIn K cd17 "right_ones" = true)
    (k_right_ones : PySem.W.keepIn K (.ref f_right_ones) = true)
    (a_rows_of : PySem.W.nsIn K mainGlobals "rows_of" = some (some (.ref f_rows_of)))
    (l_rows_of : K.lookup f_rows_of = some ⟨oc18, od18, .func (PySem.W.fnOf "rows_of" "rows_of" (defArgs s_rows_of) (defBody s_rows_of) (defScope s_rows_of) .none kV18 dc18 pm18 an18 cd18 ct18), sl18⟩)
    (c_rows_of : PySem.W.codeIn K cd18 "rows_of" = true)
    (k_rows_of : PySem.W.keepIn K (.ref f_rows_of) = true)
    (a_all_plans : PySem.W.nsIn K mainGlobals "all_plans" = some (some (.ref f_all_plans)))
    (l_all_plans : K.lookup f_all_plans = some ⟨oc19, od19, .func (PySem.W.fnOf "all_plans" "all_plans" (defArgs s_all_plans) (defBody s_all_plans) (defScope s_all_plans) .none kV19 dc19 pm19 an19 cd19 ct19), sl19⟩)
    (c_all_plans : PySem.W.codeIn K cd19 "all_plans" = true)
    (k_all_plans : PySem.W.keepIn K (.ref f_all_plans) = true)
    (a_all_colours : PySem.W.nsIn K mainGlobals "all_colours" = some (some (.ref f_all_colours)))
    (l_all_colours : K.lookup f_all_colours = some ⟨oc20, od20, .func (PySem.W.fnOf "all_colours" "all_colours" (defArgs s_all_colours) (defBody s_all_colours) (defScope s_all_colours) .none kV20 dc20 pm20 an20 cd20 ct20), sl20⟩)
    (c_all_colours : PySem.W.codeIn K cd20 "all_colours" = true)
    (k_all_colours : PySem.W.keepIn K (.ref f_all_colours) = true)
    (a_is_better : PySem.W.nsIn K mainGlobals "is_better" = some (some (.ref f_is_better)))
    (l_is_better : K.lookup f_is_better = some ⟨oc21, od21, .func (PySem.W.fnOf "is_better" "is_better" (defArgs s_is_better) (defBody s_is_better) (defScope s_is_better) .none kV21 dc21 pm21 an21 cd21 ct21), sl21⟩)
    (c_is_better : PySem.W.codeIn K cd21 "is_better" = true)
    (k_is_better : PySem.W.keepIn K (.ref f_is_better) = true)
    (a_is_as_good : PySem.W.nsIn K mainGlobals "is_as_good" = some (some (.ref f_is_as_good)))
    (l_is_as_good : K.lookup f_is_as_good = some ⟨oc22, od22, .func (PySem.W.fnOf "is_as_good" "is_as_good" (defArgs s_is_as_good) (defBody s_is_as_good) (defScope s_is_as_good) .none kV22 dc22 pm22 an22 cd22 ct22), sl22⟩)
    (c_is_as_good : PySem.W.codeIn K cd22 "is_as_good" = true)
    (k_is_as_good : PySem.W.keepIn K (.ref f_is_as_good) = true)
    (a_with_plan : PySem.W.nsIn K mainGlobals "with_plan" = some (some (.ref f_with_plan)))
    (l_with_plan : K.lookup f_with_plan = some ⟨oc23, od23, .func (PySem.W.fnOf "with_plan" "with_plan" (defArgs s_with_plan) (defBody s_with_plan) (defScope s_with_plan) .none kV23 dc23 pm23 an23 cd23 ct23), sl23⟩)
    (c_with_plan : PySem.W.codeIn K cd23 "with_plan" = true)
    (k_with_plan : PySem.W.keepIn K (.ref f_with_plan) = true)
    (a_best_of : PySem.W.nsIn K mainGlobals "best_of" = some (some (.ref f_best_of)))
    (l_best_of : K.lookup f_best_of = some ⟨oc24, od24, .func (PySem.W.fnOf "best_of" "best_of" (defArgs s_best_of) (defBody s_best_of) (defScope s_best_of) .none kV24 dc24 pm24 an24 cd24 ct24), sl24⟩)
    (c_best_of : PySem.W.codeIn K cd24 "best_of" = true)
    (k_best_of : PySem.W.keepIn K (.ref f_best_of) = true)
    (a_goes_on : PySem.W.nsIn K mainGlobals "goes_on" = some (some (.ref f_goes_on)))
    (l_goes_on : K.lookup f_goes_on = some ⟨oc25, od25, .func (PySem.W.fnOf "goes_on" "goes_on" (defArgs s_goes_on) (defBody s_goes_on) (defScope s_goes_on) .none kV25 dc25 pm25 an25 cd25 ct25), sl25⟩)
    (c_goes_on : PySem.W.codeIn K cd25 "goes_on" = true)
    (k_goes_on : PySem.W.keepIn K (.ref f_goes_on) = true)
    (a_plans_from : PySem.W.nsIn K mainGlobals "plans_from" = some (some (.ref f_plans_from)))
    (l_plans_from : K.lookup f_plans_from = some ⟨oc26, od26, .func (PySem.W.fnOf "plans_from" "plans_from" (defArgs s_plans_from) (defBody s_plans_from) (defScope s_plans_from) .none kV26 dc26 pm26 an26 cd26 ct26), sl26⟩)
    (c_plans_from : PySem.W.codeIn K cd26 "plans_from" = true)
    (k_plans_from : PySem.W.keepIn K (.ref f_plans_from) = true)
    (a_colours_from : PySem.W.nsIn K mainGlobals "colours_from" = some (some (.ref f_colours_from)))
    (l_colours_from : K.lookup f_colours_from = some ⟨oc27, od27, .func (PySem.W.fnOf "colours_from" "colours_from" (defArgs s_colours_from) (defBody s_colours_from) (defScope s_colours_from) .none kV27 dc27 pm27 an27 cd27 ct27), sl27⟩)
    (c_colours_from : PySem.W.codeIn K cd27 "colours_from" = true)
    (k_colours_from : PySem.W.keepIn K (.ref f_colours_from) = true)
    (a_found_told : PySem.W.nsIn K mainGlobals "found_told" = some (some (.ref f_found_told)))
    (l_found_told : K.lookup f_found_told = some ⟨oc28, od28, .func (PySem.W.fnOf "found_told" "found_told" (defArgs s_found_told) (defBody s_found_told) (defScope s_found_told) .none kV28 dc28 pm28 an28 cd28 ct28), sl28⟩)
    (c_found_told : PySem.W.codeIn K cd28 "found_told" = true)
    (k_found_told : PySem.W.keepIn K (.ref f_found_told) = true)
    (a_may_begin : PySem.W.nsIn K mainGlobals "may_begin" = some (some (.ref f_may_begin)))
    (l_may_begin : K.lookup f_may_begin = some ⟨oc29, od29, .func (PySem.W.fnOf "may_begin" "may_begin" (defArgs s_may_begin) (defBody s_may_begin) (defScope s_may_begin) .none kV29 dc29 pm29 an29 cd29 ct29), sl29⟩)
    (c_may_begin : PySem.W.codeIn K cd29 "may_begin" = true)
    (k_may_begin : PySem.W.keepIn K (.ref f_may_begin) = true)
    (a_may_be_plot : PySem.W.nsIn K mainGlobals "may_be_plot" = some (some (.ref f_may_be_plot)))
    (l_may_be_plot : K.lookup f_may_be_plot = some ⟨oc30, od30, .func (PySem.W.fnOf "may_be_plot" "may_be_plot" (defArgs s_may_be_plot) (defBody s_may_be_plot) (defScope s_may_be_plot) .none kV30 dc30 pm30 an30 cd30 ct30), sl30⟩)
    (c_may_be_plot : PySem.W.codeIn K cd30 "may_be_plot" = true)
    (k_may_be_plot : PySem.W.keepIn K (.ref f_may_be_plot) = true)
    (a_is_plan : PySem.W.nsIn K mainGlobals "is_plan" = some (some (.ref f_is_plan)))
    (l_is_plan : K.lookup f_is_plan = some ⟨oc31, od31, .func (PySem.W.fnOf "is_plan" "is_plan" (defArgs s_is_plan) (defBody s_is_plan) (defScope s_is_plan) .none kV31 dc31 pm31 an31 cd31 ct31), sl31⟩)
    (c_is_plan : PySem.W.codeIn K cd31 "is_plan" = true)
    (k_is_plan : PySem.W.keepIn K (.ref f_is_plan) = true)
    (a_are_colours : PySem.W.nsIn K mainGlobals "are_colours" = some (some (.ref f_are_colours)))
    (l_are_colours : K.lookup f_are_colours = some ⟨oc32, od32, .func (PySem.W.fnOf "are_colours" "are_colours" (defArgs s_are_colours) (defBody s_are_colours) (defScope s_are_colours) .none kV32 dc32 pm32 an32 cd32 ct32), sl32⟩)
    (c_are_colours : PySem.W.codeIn K cd32 "are_colours" = true)
    (k_are_colours : PySem.W.keepIn K (.ref f_are_colours) = true)
    (a_against_plan : PySem.W.nsIn K mainGlobals "against_plan" = some (some (.ref f_against_plan)))
    (l_against_plan : K.lookup f_against_plan = some ⟨oc33, od33, .func (PySem.W.fnOf "against_plan" "against_plan" (defArgs s_against_plan) (defBody s_against_plan) (defScope s_against_plan) .none kV33 dc33 pm33 an33 cd33 ct33), sl33⟩)
    (c_against_plan : PySem.W.codeIn K cd33 "against_plan" = true)
    (k_against_plan : PySem.W.keepIn K (.ref f_against_plan) = true)
    (a_against : PySem.W.nsIn K mainGlobals "against" = some (some (.ref f_against)))
    (l_against : K.lookup f_against = some ⟨oc34, od34, .func (PySem.W.fnOf "against" "against" (defArgs s_against) (defBody s_against) (defScope s_against) .none kV34 dc34 pm34 an34 cd34 ct34), sl34⟩)
    (c_against : PySem.W.codeIn K cd34 "against" = true)
    (k_against : PySem.W.keepIn K (.ref f_against) = true)
    (a_best_told : PySem.W.nsIn K mainGlobals "best_told" = some (some (.ref f_best_told)))
    (l_best_told : K.lookup f_best_told = some ⟨oc35, od35, .func (PySem.W.fnOf "best_told" "best_told" (defArgs s_best_told) (defBody s_best_told) (defScope s_best_told) .none kV35 dc35 pm35 an35 cd35 ct35), sl35⟩)
    (c_best_told : PySem.W.codeIn K cd35 "best_told" = true)
    (k_best_told : PySem.W.keepIn K (.ref f_best_told) = true)
    (a_check_told : PySem.W.nsIn K mainGlobals "check_told" = some (some (.ref f_check_told)))
    (l_check_told : K.lookup f_check_told = some ⟨oc36, od36, .func (PySem.W.fnOf "check_told" "check_told" (defArgs s_check_told) (defBody s_check_told) (defScope s_check_told) .none kV36 dc36 pm36 an36 cd36 ct36), sl36⟩)
    (c_check_told : PySem.W.codeIn K cd36 "check_told" = true)
    (k_check_told : PySem.W.keepIn K (.ref f_check_told) = true)
    (a_press_told : PySem.W.nsIn K mainGlobals "press_told" = some (some (.ref f_press_told)))
    (l_press_told : K.lookup f_press_told = some ⟨oc37, od37, .func (PySem.W.fnOf "press_told" "press_told" (defArgs s_press_told) (defBody s_press_told) (defScope s_press_told) .none kV37 dc37 pm37 an37 cd37 ct37), sl37⟩)
    (c_press_told : PySem.W.codeIn K cd37 "press_told" = true)
    (k_press_told : PySem.W.keepIn K (.ref f_press_told) = true)
    (a_goes_told : PySem.W.nsIn K mainGlobals "goes_told" = some (some (.ref f_goes_told)))
    (l_goes_told : K.lookup f_goes_told = some ⟨oc38, od38, .func (PySem.W.fnOf "goes_told" "goes_told" (defArgs s_goes_told) (defBody s_goes_told) (defScope s_goes_told) .none kV38 dc38 pm38 an38 cd38 ct38), sl38⟩)
    (c_goes_told : PySem.W.codeIn K cd38 "goes_told" = true)
    (k_goes_told : PySem.W.keepIn K (.ref f_goes_told) = true)
    (a_nights_told : PySem.W.nsIn K mainGlobals "nights_told" = some (some (.ref f_nights_told)))
    (l_nights_told : K.lookup f_nights_told = some ⟨oc39, od39, .func (PySem.W.fnOf "nights_told" "nights_told" (defArgs s_nights_told) (defBody s_nights_told) (defScope s_nights_told) .none kV39 dc39 pm39 an39 cd39 ct39), sl39⟩)
    (c_nights_told : PySem.W.codeIn K cd39 "nights_told" = true)
    (k_nights_told : PySem.W.keepIn K (.ref f_nights_told) = true)
    (a_begun : PySem.W.nsIn K mainGlobals "begun" = some (some (.ref f_begun)))
    (l_begun : K.lookup f_begun = some ⟨oc40, od40, .func (PySem.W.fnOf "begun" "begun" (defArgs s_begun) (defBody s_begun) (defScope s_begun) .none kV40 dc40 pm40 an40 cd40 ct40), sl40⟩)
    (c_begun : PySem.W.codeIn K cd40 "begun" = true)
    (k_begun : PySem.W.keepIn K (.ref f_begun) = true)
    (a_rained : PySem.W.nsIn K mainGlobals "rained" = some (some (.ref f_rained)))
    (l_rained : K.lookup f_rained = some ⟨oc41, od41, .func (PySem.W.fnOf "rained" "rained" (defArgs s_rained) (defBody s_rained) (defScope s_rained) .none kV41 dc41 pm41 an41 cd41 ct41), sl41⟩)
    (c_rained : PySem.W.codeIn K cd41 "rained" = true)
    (k_rained : PySem.W.keepIn K (.ref f_rained) = true)
    (a_planted : PySem.W.nsIn K mainGlobals "planted" = some (some (.ref f_planted)))
    (l_planted : K.lookup f_planted = some ⟨oc42, od42, .func (PySem.W.fnOf "planted" "planted" (defArgs s_planted) (defBody s_planted) (defScope s_planted) .none kV42 dc42 pm42 an42 cd42 ct42), sl42⟩)
    (c_planted : PySem.W.codeIn K cd42 "planted" = true)
    (k_planted : PySem.W.keepIn K (.ref f_planted) = true)
    (a_changed : PySem.W.nsIn K mainGlobals "changed" = some (some (.ref f_changed)))
    (l_changed : K.lookup f_changed = some ⟨oc43, od43, .func (PySem.W.fnOf "changed" "changed" (defArgs s_changed) (defBody s_changed) (defScope s_changed) .none kV43 dc43 pm43 an43 cd43 ct43), sl43⟩)
    (c_changed : PySem.W.codeIn K cd43 "changed" = true)
    (k_changed : PySem.W.keepIn K (.ref f_changed) = true)
    (a_asked : PySem.W.nsIn K mainGlobals "asked" = some (some (.ref f_asked)))
    (l_asked : K.lookup f_asked = some ⟨oc44, od44, .func (PySem.W.fnOf "asked" "asked" (defArgs s_asked) (defBody s_asked) (defScope s_asked) .none kV44 dc44 pm44 an44 cd44 ct44), sl44⟩)
    (c_asked : PySem.W.codeIn K cd44 "asked" = true)
    (k_asked : PySem.W.keepIn K (.ref f_asked) = true)
    (a_answered : PySem.W.nsIn K mainGlobals "answered" = some (some (.ref f_answered)))
    (l_answered : K.lookup f_answered = some ⟨oc45, od45, .func (PySem.W.fnOf "answered" "answered" (defArgs s_answered) (defBody s_answered) (defScope s_answered) .none kV45 dc45 pm45 an45 cd45 ct45), sl45⟩)
    (c_answered : PySem.W.codeIn K cd45 "answered" = true)
    (k_answered : PySem.W.keepIn K (.ref f_answered) = true)
    (a_rows_from : PySem.W.nsIn K mainGlobals "rows_from" = some (some (.ref f_rows_from)))
    (l_rows_from : K.lookup f_rows_from = some ⟨oc46, od46, .func (PySem.W.fnOf "rows_from" "rows_from" (defArgs s_rows_from) (defBody s_rows_from) (defScope s_rows_from) .none kV46 dc46 pm46 an46 cd46 ct46), sl46⟩)
    (c_rows_from : PySem.W.codeIn K cd46 "rows_from" = true)
    (k_rows_from : PySem.W.keepIn K (.ref f_rows_from) = true)
    (a_answers : PySem.W.nsIn K mainGlobals "answers" = some (some (.ref f_answers)))
    (l_answers : K.lookup f_answers = some ⟨oc47, od47, .func (PySem.W.fnOf "answers" "answers" (defArgs s_answers) (defBody s_answers) (defScope s_answers) .none kV47 dc47 pm47 an47 cd47 ct47), sl47⟩)
    (c_answers : PySem.W.codeIn K cd47 "answers" = true)
    (k_answers : PySem.W.keepIn K (.ref f_answers) = true) :
    Txt K mg CV CP CF CL :=
  ⟨⟨pg_Found, hd_Found, po_Found, sa_Found⟩,
  n_Found_leaves,
  n_Found_days,
  n_Found_many,
  n_Found_plan,
  n_Found_colours,
  clsAt_mk (st := s_Found_init) l_Found_init c_Found_init k_Found_init ⟨mk_Found, i_Found, j_Found, kc_Found⟩ (PySem.W.mg_of X G aC_Found) (fun _ _ _ _ _ _ us hl => match us, hl with | [_, _, _, _, _, _], _ => rfl),
  ⟨pg_Vineyard, hd_Vineyard, po_Vineyard, sa_Vineyard⟩,
  n_Vineyard_days,
  n_Vineyard_most_picked,
  n_Vineyard_most_pressed,
  n_Vineyard_most_kept,
  n_Vineyard_cost,
  n_Vineyard_rain,
  n_Vineyard_plots,
  clsAt_mk (st := s_Vineyard_init) l_Vineyard_init c_Vineyard_init k_Vineyard_init ⟨mk_Vineyard, i_Vineyard, j_Vineyard, kc_Vineyard⟩ (PySem.W.mg_of X G aC_Vineyard) (fun _ _ _ _ _ _ us hl => match us, hl with | [_, _, _, _, _, _], _ => rfl),
  ⟨pg_Plot, hd_Plot, po_Plot, sa_Plot⟩,
  n_Plot_loads,
  n_Plot_colour,
  n_Plot_best_day,
  n_Plot_beside,
  n_Plot_worth,
  n_Plot_less,
  clsAt_mk (st := s_Plot_init) l_Plot_init c_Plot_init k_Plot_init ⟨mk_Plot, i_Plot, j_Plot, kc_Plot⟩ (PySem.W.mg_of X G aC_Plot) (fun _ _ _ _ _ _ us hl => match us, hl with | [_, _, _, _, _, _, _], _ => rfl),
  ⟨pg_Line, hd_Line, po_Line, sa_Line⟩,
  n_Line_vineyard,
  clsAt_mk (st := s_Line_init) l_Line_init c_Line_init k_Line_init ⟨mk_Line, i_Line, j_Line, kc_Line⟩ (PySem.W.mg_of X G aC_Line) (fun _ _ _ _ _ _ us hl => match us, hl with | [_], _ => rfl),
  PySem.W.mg_none_of X G b_len,
  PySem.W.mg_none_of X G b_sum,
  PySem.W.mg_none_of X G b_all,
  PySem.W.mg_none_of X G b_abs,
  PySem.W.mg_none_of X G b_range,
  PySem.W.mg_none_of X G b_zip,
  PySem.W.mg_none_of X G b_enumerate,
  ⟨_, PySem.W.mg_of X G g_SPOILS⟩,
  ⟨_, PySem.W.mg_of X G g_TOO_FULL⟩,
  ⟨_, PySem.W.mg_of X G g_KEPT_AT_END⟩,
  ⟨_, PySem.W.mg_of X G g_MOST_DAYS⟩,
  ⟨_, PySem.W.mg_of X G g_MOST_PLOTS⟩,
  ⟨_, PySem.W.mg_of X G g_MOST_LOADS⟩,
  ⟨_, PySem.W.mg_of X G g_MOST_COST⟩,
  ⟨_, PySem.W.mg_of X G g_MOST_OF_PLOT⟩,
  ⟨_, PySem.W.mg_of X G g_MOST_BESIDE⟩,
  ⟨_, PySem.W.mg_of X G g_MOST_WORTH⟩,
  ⟨_, PySem.W.mg_of X G g_NO_PLAN⟩,
  ⟨_, PySem.W.mg_of X G g_NO_DAY_asking⟩,
  ⟨_, PySem.W.mg_of X G g_WRONG_PLOT⟩,
  ⟨_, PySem.W.mg_of X G g_FULL_DAY⟩,
  ⟨_, PySem.W.mg_of X G g_NONE_THERE⟩,
  ⟨_, PySem.W.mg_of X G g_BEGINS⟩,
  ⟨_, PySem.W.mg_of X G g_RAIN⟩,
  ⟨_, PySem.W.mg_of X G g_PLOT⟩,
  ⟨_, PySem.W.mg_of X G g_BEST⟩,
  ⟨_, PySem.W.mg_of X G g_CHECK⟩,
  ⟨_, PySem.W.mg_of X G g_PRESS⟩,
  ⟨_, PySem.W.mg_of X G g_GOES⟩,
  ⟨_, PySem.W.mg_of X G g_NOT_AS_TOLD⟩,
  ⟨_, PySem.W.mg_of X G g_NO_DAY_harvests⟩,
  ⟨_, PySem.W.mg_of X G g_FULL⟩,
  ⟨tp_NUMBERS, PySem.W.mg_of X G g_NUMBERS, conT_of o_NUMBERS (by show 8 ≤ sizeLine; decide) (.cons ⟨_, rfl⟩ (.cons ⟨_, rfl⟩ (.cons ⟨_, rfl⟩ (.cons ⟨_, rfl⟩ (.cons ⟨_, rfl⟩ (.cons ⟨_, rfl⟩ (.cons ⟨_, rfl⟩ (.cons ⟨_, rfl⟩ (.nil)))))))))⟩,
  ⟨tp_ROWS, PySem.W.mg_of X G g_ROWS, conT_of o_ROWS (by show 8 ≤ sizeLine; decide) (.cons ⟨_, rfl⟩ (.cons ⟨_, rfl⟩ (.cons ⟨_, rfl⟩ (.cons ⟨_, rfl⟩ (.cons ⟨_, rfl⟩ (.cons ⟨_, rfl⟩ (.cons ⟨_, rfl⟩ (.cons ⟨_, rfl⟩ (.nil)))))))))⟩,
  defAt_mk (st := s_days_off) l_days_off c_days_off k_days_off (PySem.W.mg_of X G a_days_off) (fun _ _ _ _ _ _ us hl => match us, hl with | [_, _], _ => rfl),
  defAt_mk (st := s_worth_on) l_worth_on c_worth_on k_worth_on (PySem.W.mg_of X G a_worth_on) (fun _ _ _ _ _ _ us hl => match us, hl with | [_, _], _ => rfl),
  defAt_mk (st := s_first_wrong_plot) l_first_wrong_plot c_first_wrong_plot k_first_wrong_plot (PySem.W.mg_of X G a_first_wrong_plot) (fun _ _ _ _ _ _ us hl => match us, hl with | [_, _], _ => rfl),
  defAt_mk (st := s_loads_on) l_loads_on c_loads_on k_loads_on (PySem.W.mg_of X G a_loads_on) (fun _ _ _ _ _ _ us hl => match us, hl with | [_, _, _, _], _ => rfl),
  defAt_mk (st := s_picked_by) l_picked_by c_picked_by k_picked_by (PySem.W.mg_of X G a_picked_by) (fun _ _ _ _ _ _ us hl => match us, hl with | [_, _], _ => rfl),
  defAt_mk (st := s_first_full_day) l_first_full_day c_first_full_day k_first_full_day (PySem.W.mg_of X G a_first_full_day) (fun _ _ _ _ _ _ us hl => match us, hl with | [_, _], _ => rfl),
  defAt_mk (st := s_loads_picked) l_loads_picked c_loads_picked k_loads_picked (PySem.W.mg_of X G a_loads_picked) (fun _ _ _ _ _ _ us hl => match us, hl with | [_], _ => rfl),
  defAt_mk (st := s_days_picked) l_days_picked c_days_picked k_days_picked (PySem.W.mg_of X G a_days_picked) (fun _ _ _ _ _ _ us hl => match us, hl with | [_], _ => rfl),
  defAt_mk (st := s_earned) l_earned c_earned k_earned (PySem.W.mg_of X G a_earned) (fun _ _ _ _ _ _ us hl => match us, hl with | [_, _], _ => rfl),
  defAt_mk (st := s_kept_behind) l_kept_behind c_kept_behind k_kept_behind (PySem.W.mg_of X G a_kept_behind) (fun _ _ _ _ _ _ us hl => match us, hl with | [_, _, _, _], _ => rfl),
  defAt_mk (st := s_first_spoilt) l_first_spoilt c_first_spoilt k_first_spoilt (PySem.W.mg_of X G a_first_spoilt) (fun _ _ _ _ _ _ us hl => match us, hl with | [_, _, _], _ => rfl),
  defAt_mk (st := s_course) l_course c_course k_course (PySem.W.mg_of X G a_course) (fun _ _ _ _ _ _ us hl => match us, hl with | [_, _, _], _ => rfl),
  defAt_mk (st := s_right_ones) l_right_ones c_right_ones k_right_ones (PySem.W.mg_of X G a_right_ones) (fun _ _ _ _ _ _ us hl => match us, hl with | [_, _, _], _ => rfl),
  defAt_mk (st := s_rows_of) l_rows_of c_rows_of k_rows_of (PySem.W.mg_of X G a_rows_of) (fun _ _ _ _ _ _ us hl => match us, hl with | [_, _], _ => rfl),
  defAt_mk (st := s_all_plans) l_all_plans c_all_plans k_all_plans (PySem.W.mg_of X G a_all_plans) (fun _ _ _ _ _ _ us hl => match us, hl with | [_], _ => rfl),
  defAt_mk (st := s_all_colours) l_all_colours c_all_colours k_all_colours (PySem.W.mg_of X G a_all_colours) (fun _ _ _ _ _ _ us hl => match us, hl with | [_], _ => rfl),
  defAt_mk (st := s_is_better) l_is_better c_is_better k_is_better (PySem.W.mg_of X G a_is_better) (fun _ _ _ _ _ _ us hl => match us, hl with | [_, _, _], _ => rfl),
  defAt_mk (st := s_is_as_good) l_is_as_good c_is_as_good k_is_as_good (PySem.W.mg_of X G a_is_as_good) (fun _ _ _ _ _ _ us hl => match us, hl with | [_, _, _], _ => rfl),
  defAt_mk (st := s_with_plan) l_with_plan c_with_plan k_with_plan (PySem.W.mg_of X G a_with_plan) (fun _ _ _ _ _ _ us hl => match us, hl with | [_, _, _, _], _ => rfl),
  defAt_mk (st := s_best_of) l_best_of c_best_of k_best_of (PySem.W.mg_of X G a_best_of) (fun _ _ _ _ _ _ us hl => match us, hl with | [_, _, _], _ => rfl),
  defAt_mk (st := s_goes_on) l_goes_on c_goes_on k_goes_on (PySem.W.mg_of X G a_goes_on) (fun _ _ _ _ _ _ us hl => match us, hl with | [_, _, _], _ => rfl),
  defAt_mk (st := s_plans_from) l_plans_from c_plans_from k_plans_from (PySem.W.mg_of X G a_plans_from) (fun _ _ _ _ _ _ us hl => match us, hl with | [_, _, _], _ => rfl),
  defAt_mk (st := s_colours_from) l_colours_from c_colours_from k_colours_from (PySem.W.mg_of X G a_colours_from) (fun _ _ _ _ _ _ us hl => match us, hl with | [_, _, _], _ => rfl),
  defAt_mk (st := s_found_told) l_found_told c_found_told k_found_told (PySem.W.mg_of X G a_found_told) (fun _ _ _ _ _ _ us hl => match us, hl with | [_, _], _ => rfl),
  defAt_mk (st := s_may_begin) l_may_begin c_may_begin k_may_begin (PySem.W.mg_of X G a_may_begin) (fun _ _ _ _ _ _ us hl => match us, hl with | [_, _, _], _ => rfl),
  defAt_mk (st := s_may_be_plot) l_may_be_plot c_may_be_plot k_may_be_plot (PySem.W.mg_of X G a_may_be_plot) (fun _ _ _ _ _ _ us hl => match us, hl with | [_, _], _ => rfl),
  defAt_mk (st := s_is_plan) l_is_plan c_is_plan k_is_plan (PySem.W.mg_of X G a_is_plan) (fun _ _ _ _ _ _ us hl => match us, hl with | [_, _], _ => rfl),
  defAt_mk (st := s_are_colours) l_are_colours c_are_colours k_are_colours (PySem.W.mg_of X G a_are_colours) (fun _ _ _ _ _ _ us hl => match us, hl with | [_, _], _ => rfl),
  defAt_mk (st := s_against_plan) l_against_plan c_against_plan k_against_plan (PySem.W.mg_of X G a_against_plan) (fun _ _ _ _ _ _ us hl => match us, hl with | [_, _], _ => rfl),
  defAt_mk (st := s_against) l_against c_against k_against (PySem.W.mg_of X G a_against) (fun _ _ _ _ _ _ us hl => match us, hl with | [_, _, _], _ => rfl),
  defAt_mk (st := s_best_told) l_best_told c_best_told k_best_told (PySem.W.mg_of X G a_best_told) (fun _ _ _ _ _ _ us hl => match us, hl with | [_], _ => rfl),
  defAt_mk (st := s_check_told) l_check_told c_check_told k_check_told (PySem.W.mg_of X G a_check_told) (fun _ _ _ _ _ _ us hl => match us, hl with | [_, _, _], _ => rfl),
  defAt_mk (st := s_press_told) l_press_told c_press_told k_press_told (PySem.W.mg_of X G a_press_told) (fun _ _ _ _ _ _ us hl => match us, hl with | [_, _], _ => rfl),
  defAt_mk (st := s_goes_told) l_goes_told c_goes_told k_goes_told (PySem.W.mg_of X G a_goes_told) (fun _ _ _ _ _ _ us hl => match us, hl with | [_, _, _, _], _ => rfl),
  defAt_mk (st := s_nights_told) l_nights_told c_nights_told k_nights_told (PySem.W.mg_of X G a_nights_told) (fun _ _ _ _ _ _ us hl => match us, hl with | [_, _, _], _ => rfl),
  defAt_mk (st := s_begun) l_begun c_begun k_begun (PySem.W.mg_of X G a_begun) (fun _ _ _ _ _ _ us hl => match us, hl with | [_, _, _, _], _ => rfl),
  defAt_mk (st := s_rained) l_rained c_rained k_rained (PySem.W.mg_of X G a_rained) (fun _ _ _ _ _ _ us hl => match us, hl with | [_, _, _], _ => rfl),
  defAt_mk (st := s_planted) l_planted c_planted k_planted (PySem.W.mg_of X G a_planted) (fun _ _ _ _ _ _ us hl => match us, hl with | [_, _], _ => rfl),
  defAt_mk (st := s_changed) l_changed c_changed k_changed (PySem.W.mg_of X G a_changed) (fun _ _ _ _ _ _ us hl => match us, hl with | [_, _, _], _ => rfl),
  defAt_mk (st := s_asked) l_asked c_asked k_asked (PySem.W.mg_of X G a_asked) (fun _ _ _ _ _ _ us hl => match us, hl with | [_, _, _, _], _ => rfl),
  defAt_mk (st := s_answered) l_answered c_answered k_answered (PySem.W.mg_of X G a_answered) (fun _ _ _ _ _ _ us hl => match us, hl with | [_, _, _, _], _ => rfl),
  defAt_mk (st := s_rows_from) l_rows_from c_rows_from k_rows_from (PySem.W.mg_of X G a_rows_from) (fun _ _ _ _ _ _ us hl => match us, hl with | [_, _, _], _ => rfl),
  defAt_mk (st := s_answers) l_answers c_answers k_answers (PySem.W.mg_of X G a_answers) (fun _ _ _ _ _ _ us hl => match us, hl with | [_], _ => rfl)⟩
theorem all_mk {P : Program} {w : World} {fa : Addr} {K : PySem.W.Frag} {h : Heap} {mg : Str → Option Value} {CF CV CP CL fi_Found fi_Vineyard fi_Plot fi_Line tp_NUMBERS tp_ROWS f_days_off f_worth_on f_first_wrong_plot f_loads_on f_picked_by f_first_full_day f_loads_picked f_days_picked f_earned f_kept_behind f_first_spoilt f_course f_right_ones f_rows_of f_all_plans f_all_colours f_is_better f_is_as_good f_with_plan f_best_of f_goes_on f_plans_from f_colours_from f_found_told f_may_begin f_may_be_plot f_is_plan f_are_colours f_against_plan f_against f_best_told f_check_told f_press_told f_goes_told f_nights_told f_begun f_rained f_planted f_changed f_asked f_answered f_rows_from f_answers : Addr} (hfa : mg "answers" = some (.ref fa)) (X : K.In h) (G : h.Ns mainGlobals mg)
    {oc1 kV1 dc1 pm1 cd1 ct1 : Value} {od1 an1 : Option Addr} {sl1 : Array (Option Value)}
    {oc2 kV2 dc2 pm2 cd2 ct2 : Value} {od2 an2 : Option Addr} {sl2 : Array (Option Value)}
    {oc3 kV3 dc3 pm3 cd3 ct3 : Value} {od3 an3 : Option Addr} {sl3 : Array (Option Value)}
    {oc4 kV4 dc4 pm4 cd4 ct4 : Value} {od4 an4 : Option Addr} {sl4 : Array (Option Value)}
    {t_SPOILS : Tok}
    {t_TOO_FULL : Tok}
    {t_KEPT_AT_END : Tok}
    {t_MOST_DAYS : Tok}
    {t_MOST_PLOTS : Tok}
    {t_MOST_LOADS : Tok}
    {t_MOST_COST : Tok}
    {t_MOST_OF_PLOT : Tok}
    {t_MOST_BESIDE : Tok}
    {t_MOST_WORTH : Tok}
    {t_NO_PLAN : Tok}
    {t_NO_DAY_asking : Tok}
    {t_WRONG_PLOT : Tok}
    {t_FULL_DAY : Tok}
    {t_NONE_THERE : Tok}
    {t_BEGINS : Tok}
    {t_RAIN : Tok}
    {t_PLOT : Tok}
    {t_BEST : Tok}
    {t_CHECK : Tok}
    {t_PRESS : Tok}
    {t_GOES : Tok}
    {t_NOT_AS_TOLD : Tok}
    {t_NO_DAY_harvests : Tok}
    {t_FULL : Tok}
    {t_NUMBERS_0 t_NUMBERS_1 t_NUMBERS_2 t_NUMBERS_3 t_NUMBERS_4 t_NUMBERS_5 t_NUMBERS_6 t_NUMBERS_7 : Tok} {dc_NUMBERS : Option Addr} {sl_NUMBERS : Array (Option Value)} {n_NUMBERS : Nat}
    {t_ROWS_0 t_ROWS_1 t_ROWS_2 t_ROWS_3 t_ROWS_4 t_ROWS_5 t_ROWS_6 t_ROWS_7 : Tok} {dc_ROWS : Option Addr} {sl_ROWS : Array (Option Value)} {n_ROWS : Nat}
    {oc5 kV5 dc5 pm5 cd5 ct5 : Value} {od5 an5 : Option Addr} {sl5 : Array (Option Value)}
    {oc6 kV6 dc6 pm6 cd6 ct6 : Value} {od6 an6 : Option Addr} {sl6 : Array (Option Value)}
    {oc7 kV7 dc7 pm7 cd7 ct7 : Value} {od7 an7 : Option Addr} {sl7 : Array (Option Value)}
    {oc8 kV8 dc8 pm8 cd8 ct8 : Value} {od8 an8 : Option Addr} {sl8 : Array (Option Value)}
    {oc9 kV9 dc9 pm9 cd9 ct9 : Value} {od9 an9 : Option Addr} {sl9 : Array (Option Value)}
    {oc10 kV10 dc10 pm10 cd10 ct10 : Value} {od10 an10 : Option Addr} {sl10 : Array (Option Value)}
    {oc11 kV11 dc11 pm11 cd11 ct11 : Value} {od11 an11 : Option Addr} {sl11 : Array (Option Value)}
    {oc12 kV12 dc12 pm12 cd12 ct12 : Value} {od12 an12 : Option Addr} {sl12 : Array (Option Value)}
    {oc13 kV13 dc13 pm13 cd13 ct13 : Value} {od13 an13 : Option Addr} {sl13 : Array (Option Value)}
    {oc14 kV14 dc14 pm14 cd14 ct14 : Value} {od14 an14 : Option Addr} {sl14 : Array (Option Value)}
    {oc15 kV15 dc15 pm15 cd15 ct15 : Value} {od15 an15 : Option Addr} {sl15 : Array (Option Value)}
    {oc16 kV16 dc16 pm16 cd16 ct16 : Value} {od16 an16 : Option Addr} {sl16 : Array (Option Value)}
    {oc17 kV17 dc17 pm17 cd17 ct17 : Value} {od17 an17 : Option Addr} {sl17 : Array (Option Value)}
    {oc18 kV18 dc18 pm18 cd18 ct18 : Value} {od18 an18 : Option Addr} {sl18 : Array (Option Value)}
    {oc19 kV19 dc19 pm19 cd19 ct19 : Value} {od19 an19 : Option Addr} {sl19 : Array (Option Value)}
    {oc20 kV20 dc20 pm20 cd20 ct20 : Value} {od20 an20 : Option Addr} {sl20 : Array (Option Value)}
    {oc21 kV21 dc21 pm21 cd21 ct21 : Value} {od21 an21 : Option Addr} {sl21 : Array (Option Value)}
    {oc22 kV22 dc22 pm22 cd22 ct22 : Value} {od22 an22 : Option Addr} {sl22 : Array (Option Value)}
    {oc23 kV23 dc23 pm23 cd23 ct23 : Value} {od23 an23 : Option Addr} {sl23 : Array (Option Value)}
    {oc24 kV24 dc24 pm24 cd24 ct24 : Value} {od24 an24 : Option Addr} {sl24 : Array (Option Value)}
    {oc25 kV25 dc25 pm25 cd25 ct25 : Value} {od25 an25 : Option Addr} {sl25 : Array (Option Value)}
    {oc26 kV26 dc26 pm26 cd26 ct26 : Value} {od26 an26 : Option Addr} {sl26 : Array (Option Value)}
    {oc27 kV27 dc27 pm27 cd27 ct27 : Value} {od27 an27 : Option Addr} {sl27 : Array (Option Value)}
    {oc28 kV28 dc28 pm28 cd28 ct28 : Value} {od28 an28 : Option Addr} {sl28 : Array (Option Value)}
    {oc29 kV29 dc29 pm29 cd29 ct29 : Value} {od29 an29 : Option Addr} {sl29 : Array (Option Value)}
    {oc30 kV30 dc30 pm30 cd30 ct30 : Value} {od30 an30 : Option Addr} {sl30 : Array (Option Value)}
    {oc31 kV31 dc31 pm31 cd31 ct31 : Value} {od31 an31 : Option Addr} {sl31 : Array (Option Value)}
    {oc32 kV32 dc32 pm32 cd32 ct32 : Value} {od32 an32 : Option Addr} {sl32 : Array (Option Value)}
    {oc33 kV33 dc33 pm33 cd33 ct33 : Value} {od33 an33 : Option Addr} {sl33 : Array (Option Value)}
    {oc34 kV34 dc34 pm34 cd34 ct34 : Value} {od34 an34 : Option Addr} {sl34 : Array (Option Value)}
    {oc35 kV35 dc35 pm35 cd35 ct35 : Value} {od35 an35 : Option Addr} {sl35 : Array (Option Value)}
    {oc36 kV36 dc36 pm36 cd36 ct36 : Value} {od36 an36 : Option Addr} {sl36 : Array (Option Value)}
    {oc37 kV37 dc37 pm37 cd37 ct37 : Value} {od37 an37 : Option Addr} {sl37 : Array (Option Value)}
    {oc38 kV38 dc38 pm38 cd38 ct38 : Value} {od38 an38 : Option Addr} {sl38 : Array (Option Value)}
    {oc39 kV39 dc39 pm39 cd39 ct39 : Value} {od39 an39 : Option Addr} {sl39 : Array (Option Value)}
    {oc40 kV40 dc40 pm40 cd40 ct40 : Value} {od40 an40 : Option Addr} {sl40 : Array (Option Value)}
    {oc41 kV41 dc41 pm41 cd41 ct41 : Value} {od41 an41 : Option Addr} {sl41 : Array (Option Value)}
    {oc42 kV42 dc42 pm42 cd42 ct42 : Value} {od42 an42 : Option Addr} {sl42 : Array (Option Value)}
    {oc43 kV43 dc43 pm43 cd43 ct43 : Value} {od43 an43 : Option Addr} {sl43 : Array (Option Value)}
    {oc44 kV44 dc44 pm44 cd44 ct44 : Value} {od44 an44 : Option Addr} {sl44 : Array (Option Value)}
    {oc45 kV45 dc45 pm45 cd45 ct45 : Value} {od45 an45 : Option Addr} {sl45 : Array (Option Value)}
    {oc46 kV46 dc46 pm46 cd46 ct46 : Value} {od46 an46 : Option Addr} {sl46 : Array (Option Value)}
    {oc47 kV47 dc47 pm47 cd47 ct47 : Value} {od47 an47 : Option Addr} {sl47 : Array (Option Value)}
    (aC_Found : PySem.W.nsIn K mainGlobals "Found" = some (some (.ref CF)))
    (aC_Vineyard : PySem.W.nsIn K mainGlobals "Vineyard" = some (some (.ref CV)))
    (aC_Plot : PySem.W.nsIn K mainGlobals "Plot" = some (some (.ref CP)))
    (aC_Line : PySem.W.nsIn K mainGlobals "Line" = some (some (.ref CL)))
    (i_Found : PySem.W.findIn K (.ref CF) "__init__" = some (some (.ref fi_Found)))
    (j_Found : PySem.W.isFn K (.ref fi_Found) = true)
    (l_Found_init : K.lookup fi_Found = some ⟨oc1, od1, .func (PySem.W.fnOf "__init__" "Found.__init__" (defArgs s_Found_init) (defBody s_Found_init) (defScope s_Found_init) .none kV1 dc1 pm1 an1 cd1 ct1), sl1⟩)
    (c_Found_init : PySem.W.codeIn K cd1 "Found.__init__" = true)
    (k_Found_init : PySem.W.keepIn K (.ref fi_Found) = true)
    (pg_Found : PySem.W.plainGet K CF Str.empty = true)
    (hd_Found : PySem.W.hasDictIn K CF = true)
    (po_Found : PySem.W.plainOver K CF = true)
    (sa_Found : PySem.W.findIn K (.ref CF) "__setattr__" = some (some (.builtin "object.__setattr__")))
    (mk_Found : PySem.W.makesIn K CF = true)
    (kc_Found : PySem.W.keepIn K (.ref CF) = true)
    (n_Found_leaves : PySem.W.findIn K (.ref CF) "leaves" = some none)
    (n_Found_days : PySem.W.findIn K (.ref CF) "days" = some none)
    (n_Found_many : PySem.W.findIn K (.ref CF) "many" = some none)
    (n_Found_plan : PySem.W.findIn K (.ref CF) "plan" = some none)
    (n_Found_colours : PySem.W.findIn K (.ref CF) "colours" = some none)
    (i_Vineyard : PySem.W.findIn K (.ref CV) "__init__" = some (some (.ref fi_Vineyard)))
    (j_Vineyard : PySem.W.isFn K (.ref fi_Vineyard) = true)
    (l_Vineyard_init : K.lookup fi_Vineyard = some ⟨oc2, od2, .func (PySem.W.fnOf "__init__" "Vineyard.__init__" (defArgs s_Vineyard_init) (defBody s_Vineyard_init) (defScope s_Vineyard_init) .none kV2 dc2 pm2 an2 cd2 ct2), sl2⟩)
    (c_Vineyard_init : PySem.W.codeIn K cd2 "Vineyard.__init__" = true)
    (k_Vineyard_init : PySem.W.keepIn K (.ref fi_Vineyard) = true)
    (pg_Vineyard : PySem.W.plainGet K CV Str.empty = true)
    (hd_Vineyard : PySem.W.hasDictIn K CV = true)
    (po_Vineyard : PySem.W.plainOver K CV = true)
    (sa_Vineyard : PySem.W.findIn K (.ref CV) "__setattr__" = some (some (.builtin "object.__setattr__")))
    (mk_Vineyard : PySem.W.makesIn K CV = true)
    (kc_Vineyard : PySem.W.keepIn K (.ref CV) = true)
    (n_Vineyard_days : PySem.W.findIn K (.ref CV) "days" = some none)
    (n_Vineyard_most_picked : PySem.W.findIn K (.ref CV) "most_picked" = some none)
    (n_Vineyard_most_pressed : PySem.W.findIn K (.ref CV) "most_pressed" = some none)
    (n_Vineyard_most_kept : PySem.W.findIn K (.ref CV) "most_kept" = some none)
    (n_Vineyard_cost : PySem.W.findIn K (.ref CV) "cost" = some none)
    (n_Vineyard_rain : PySem.W.findIn K (.ref CV) "rain" = some none)
    (n_Vineyard_plots : PySem.W.findIn K (.ref CV) "plots" = some none)
    (i_Plot : PySem.W.findIn K (.ref CP) "__init__" = some (some (.ref fi_Plot)))
    (j_Plot : PySem.W.isFn K (.ref fi_Plot) = true)
    (l_Plot_init : K.lookup fi_Plot = some ⟨oc3, od3, .func (PySem.W.fnOf "__init__" "Plot.__init__" (defArgs s_Plot_init) (defBody s_Plot_init) (defScope s_Plot_init) .none kV3 dc3 pm3 an3 cd3 ct3), sl3⟩)
    (c_Plot_init : PySem.W.codeIn K cd3 "Plot.__init__" = true)
    (k_Plot_init : PySem.W.keepIn K (.ref fi_Plot) = true)
    (pg_Plot : PySem.W.plainGet K CP Str.empty = true)
    (hd_Plot : PySem.W.hasDictIn K CP = true)
    (po_Plot : PySem.W.plainOver K CP = true)
    (sa_Plot : PySem.W.findIn K (.ref CP) "__setattr__" = some (some (.builtin "object.__setattr__")))
    (mk_Plot : PySem.W.makesIn K CP = true)
    (kc_Plot : PySem.W.keepIn K (.ref CP) = true)
    (n_Plot_loads : PySem.W.findIn K (.ref CP) "loads" = some none)
    (n_Plot_colour : PySem.W.findIn K (.ref CP) "colour" = some none)
    (n_Plot_best_day : PySem.W.findIn K (.ref CP) "best_day" = some none)
    (n_Plot_beside : PySem.W.findIn K (.ref CP) "beside" = some none)
    (n_Plot_worth : PySem.W.findIn K (.ref CP) "worth" = some none)
    (n_Plot_less : PySem.W.findIn K (.ref CP) "less" = some none)
    (i_Line : PySem.W.findIn K (.ref CL) "__init__" = some (some (.ref fi_Line)))
    (j_Line : PySem.W.isFn K (.ref fi_Line) = true)
    (l_Line_init : K.lookup fi_Line = some ⟨oc4, od4, .func (PySem.W.fnOf "__init__" "Line.__init__" (defArgs s_Line_init) (defBody s_Line_init) (defScope s_Line_init) .none kV4 dc4 pm4 an4 cd4 ct4), sl4⟩)
    (c_Line_init : PySem.W.codeIn K cd4 "Line.__init__" = true)
    (k_Line_init : PySem.W.keepIn K (.ref fi_Line) = true)
    (pg_Line : PySem.W.plainGet K CL Str.empty = true)
    (hd_Line : PySem.W.hasDictIn K CL = true)
    (po_Line : PySem.W.plainOver K CL = true)
    (sa_Line : PySem.W.findIn K (.ref CL) "__setattr__" = some (some (.builtin "object.__setattr__")))
    (mk_Line : PySem.W.makesIn K CL = true)
    (kc_Line : PySem.W.keepIn K (.ref CL) = true)
    (n_Line_vineyard : PySem.W.findIn K (.ref CL) "vineyard" = some none)
    (b_len : PySem.W.nsIn K mainGlobals "len" = some none)
    (b_sum : PySem.W.nsIn K mainGlobals "sum" = some none)
    (b_all : PySem.W.nsIn K mainGlobals "all" = some none)
    (b_abs : PySem.W.nsIn K mainGlobals "abs" = some none)
    (b_range : PySem.W.nsIn K mainGlobals "range" = some none)
    (b_zip : PySem.W.nsIn K mainGlobals "zip" = some none)
    (b_enumerate : PySem.W.nsIn K mainGlobals "enumerate" = some none)
    (g_SPOILS : PySem.W.nsIn K mainGlobals "SPOILS" = some (some (.int (-8) t_SPOILS)))
    (g_TOO_FULL : PySem.W.nsIn K mainGlobals "TOO_FULL" = some (some (.int (-9) t_TOO_FULL)))
    (g_KEPT_AT_END : PySem.W.nsIn K mainGlobals "KEPT_AT_END" = some (some (.int (-10) t_KEPT_AT_END)))
    (g_MOST_DAYS : PySem.W.nsIn K mainGlobals "MOST_DAYS" = some (some (.int (4) t_MOST_DAYS)))
    (g_MOST_PLOTS : PySem.W.nsIn K mainGlobals "MOST_PLOTS" = some (some (.int (4) t_MOST_PLOTS)))
    (g_MOST_LOADS : PySem.W.nsIn K mainGlobals "MOST_LOADS" = some (some (.int (1000) t_MOST_LOADS)))
    (g_MOST_COST : PySem.W.nsIn K mainGlobals "MOST_COST" = some (some (.int (100000) t_MOST_COST)))
    (g_MOST_OF_PLOT : PySem.W.nsIn K mainGlobals "MOST_OF_PLOT" = some (some (.int (100) t_MOST_OF_PLOT)))
    (g_MOST_BESIDE : PySem.W.nsIn K mainGlobals "MOST_BESIDE" = some (some (.int (3) t_MOST_BESIDE)))
    (g_MOST_WORTH : PySem.W.nsIn K mainGlobals "MOST_WORTH" = some (some (.int (1000) t_MOST_WORTH)))
    (g_NO_PLAN : PySem.W.nsIn K mainGlobals "NO_PLAN" = some (some (.int (-1) t_NO_PLAN)))
    (g_NO_DAY_asking : PySem.W.nsIn K mainGlobals "NO_DAY_asking" = some (some (.int (-2) t_NO_DAY_asking)))
    (g_WRONG_PLOT : PySem.W.nsIn K mainGlobals "WRONG_PLOT" = some (some (.int (-6) t_WRONG_PLOT)))
    (g_FULL_DAY : PySem.W.nsIn K mainGlobals "FULL_DAY" = some (some (.int (-7) t_FULL_DAY)))
    (g_NONE_THERE : PySem.W.nsIn K mainGlobals "NONE_THERE" = some (some (.int (-11) t_NONE_THERE)))
    (g_BEGINS : PySem.W.nsIn K mainGlobals "BEGINS" = some (some (.int (0) t_BEGINS)))
    (g_RAIN : PySem.W.nsIn K mainGlobals "RAIN" = some (some (.int (1) t_RAIN)))
    (g_PLOT : PySem.W.nsIn K mainGlobals "PLOT" = some (some (.int (2) t_PLOT)))
    (g_BEST : PySem.W.nsIn K mainGlobals "BEST" = some (some (.int (3) t_BEST)))
    (g_CHECK : PySem.W.nsIn K mainGlobals "CHECK" = some (some (.int (4) t_CHECK)))
    (g_PRESS : PySem.W.nsIn K mainGlobals "PRESS" = some (some (.int (5) t_PRESS)))
    (g_GOES : PySem.W.nsIn K mainGlobals "GOES" = some (some (.int (6) t_GOES)))
    (g_NOT_AS_TOLD : PySem.W.nsIn K mainGlobals "NOT_AS_TOLD" = some (some (.int (-1) t_NOT_AS_TOLD)))
    (g_NO_DAY_harvests : PySem.W.nsIn K mainGlobals "NO_DAY_harvests" = some (some (.int (-2) t_NO_DAY_harvests)))
    (g_FULL : PySem.W.nsIn K mainGlobals "FULL" = some (some (.int (-5) t_FULL)))
    (g_NUMBERS : PySem.W.nsIn K mainGlobals "NUMBERS" = some (some (.ref tp_NUMBERS)))
    (o_NUMBERS : K.lookup tp_NUMBERS = some ⟨.type "tuple", dc_NUMBERS, .seq #[.int 5 t_NUMBERS_0, .int 2 t_NUMBERS_1, .int 6 t_NUMBERS_2, .int 0 t_NUMBERS_3, .int 0 t_NUMBERS_4, .int 0 t_NUMBERS_5, .int 1 t_NUMBERS_6, .int 0 t_NUMBERS_7] n_NUMBERS, sl_NUMBERS⟩)
    (g_ROWS : PySem.W.nsIn K mainGlobals "ROWS" = some (some (.ref tp_ROWS)))
    (o_ROWS : K.lookup tp_ROWS = some ⟨.type "tuple", dc_ROWS, .seq #[.int 0 t_ROWS_0, .int 0 t_ROWS_1, .int 0 t_ROWS_2, .int 0 t_ROWS_3, .int 2 t_ROWS_4, .int 1 t_ROWS_5, .int 2 t_ROWS_6, .int 2 t_ROWS_7] n_ROWS, sl_ROWS⟩)
    (a_days_off : PySem.W.nsIn K mainGlobals "days_off" = some (some (.ref f_days_off)))
    (l_days_off : K.lookup f_days_off = some ⟨oc5, od5, .func (PySem.W.fnOf "days_off" "days_off" (defArgs s_days_off) (defBody s_days_off) (defScope s_days_off) .none kV5 dc5 pm5 an5 cd5 ct5), sl5⟩)
    (c_days_off : PySem.W.codeIn K cd5 "days_off" = true)
    (k_days_off : PySem.W.keepIn K (.ref f_days_off) = true)
    (a_worth_on : PySem.W.nsIn K mainGlobals "worth_on" = some (some (.ref f_worth_on)))
    (l_worth_on : K.lookup f_worth_on = some ⟨oc6, od6, .func (PySem.W.fnOf "worth_on" "worth_on" (defArgs s_worth_on) (defBody s_worth_on) (defScope s_worth_on) .none kV6 dc6 pm6 an6 cd6 ct6), sl6⟩)
    (c_worth_on : PySem.W.codeIn K cd6 "worth_on" = true)
    (k_worth_on : PySem.W.keepIn K (.ref f_worth_on) = true)
    (a_first_wrong_plot : PySem.W.nsIn K mainGlobals "first_wrong_plot" = some (some (.ref f_first_wrong_plot)))
    (l_first_wrong_plot : K.lookup f_first_wrong_plot = some ⟨oc7, od7, .func (PySem.W.fnOf "first_wrong_plot" "first_wrong_plot" (defArgs s_first_wrong_plot) (defBody s_first_wrong_plot) (defScope s_first_wrong_plot) .none kV7 dc7 pm7 an7 cd7 ct7), sl7⟩)
    (c_first_wrong_plot : PySem.W.codeIn K cd7 "first_wrong_plot" = true)
    (k_first_wrong_plot : PySem.W.keepIn K (.ref f_first_wrong_plot) = true)
    (a_loads_on : PySem.W.nsIn K mainGlobals "loads_on" = some (some (.ref f_loads_on)))
    (l_loads_on : K.lookup f_loads_on = some ⟨oc8, od8, .func (PySem.W.fnOf "loads_on" "loads_on" (defArgs s_loads_on) (defBody s_loads_on) (defScope s_loads_on) .none kV8 dc8 pm8 an8 cd8 ct8), sl8⟩)
    (c_loads_on : PySem.W.codeIn K cd8 "loads_on" = true)
    (k_loads_on : PySem.W.keepIn K (.ref f_loads_on) = true)
    (a_picked_by : PySem.W.nsIn K mainGlobals "picked_by" = some (some (.ref f_picked_by)))
    (l_picked_by : K.lookup f_picked_by = some ⟨oc9, od9, .func (PySem.W.fnOf "picked_by" "picked_by" (defArgs s_picked_by) (defBody s_picked_by) (defScope s_picked_by) .none kV9 dc9 pm9 an9 cd9 ct9), sl9⟩)
    (c_picked_by : PySem.W.codeIn K cd9 "picked_by" = true)
    (k_picked_by : PySem.W.keepIn K (.ref f_picked_by) = true)
    (a_first_full_day : PySem.W.nsIn K mainGlobals "first_full_day" = some (some (.ref f_first_full_day)))
    (l_first_full_day : K.lookup f_first_full_day = some ⟨oc10, od10, .func (PySem.W.fnOf "first_full_day" "first_full_day" (defArgs s_first_full_day) (defBody s_first_full_day) (defScope s_first_full_day) .none kV10 dc10 pm10 an10 cd10 ct10), sl10⟩)
    (c_first_full_day : PySem.W.codeIn K cd10 "first_full_day" = true)
    (k_first_full_day : PySem.W.keepIn K (.ref f_first_full_day) = true)
    (a_loads_picked : PySem.W.nsIn K mainGlobals "loads_picked" = some (some (.ref f_loads_picked)))
    (l_loads_picked : K.lookup f_loads_picked = some ⟨oc11, od11, .func (PySem.W.fnOf "loads_picked" "loads_picked" (defArgs s_loads_picked) (defBody s_loads_picked) (defScope s_loads_picked) .none kV11 dc11 pm11 an11 cd11 ct11), sl11⟩)
    (c_loads_picked : PySem.W.codeIn K cd11 "loads_picked" = true)
    (k_loads_picked : PySem.W.keepIn K (.ref f_loads_picked) = true)
    (a_days_picked : PySem.W.nsIn K mainGlobals "days_picked" = some (some (.ref f_days_picked)))
    (l_days_picked : K.lookup f_days_picked = some ⟨oc12, od12, .func (PySem.W.fnOf "days_picked" "days_picked" (defArgs s_days_picked) (defBody s_days_picked) (defScope s_days_picked) .none kV12 dc12 pm12 an12 cd12 ct12), sl12⟩)
    (c_days_picked : PySem.W.codeIn K cd12 "days_picked" = true)
    (k_days_picked : PySem.W.keepIn K (.ref f_days_picked) = true)
    (a_earned : PySem.W.nsIn K mainGlobals "earned" = some (some (.ref f_earned)))
    (l_earned : K.lookup f_earned = some ⟨oc13, od13, .func (PySem.W.fnOf "earned" "earned" (defArgs s_earned) (defBody s_earned) (defScope s_earned) .none kV13 dc13 pm13 an13 cd13 ct13), sl13⟩)
    (c_earned : PySem.W.codeIn K cd13 "earned" = true)
    (k_earned : PySem.W.keepIn K (.ref f_earned) = true)
    (a_kept_behind : PySem.W.nsIn K mainGlobals "kept_behind" = some (some (.ref f_kept_behind)))
    (l_kept_behind : K.lookup f_kept_behind = some ⟨oc14, od14, .func (PySem.W.fnOf "kept_behind" "kept_behind" (defArgs s_kept_behind) (defBody s_kept_behind) (defScope s_kept_behind) .none kV14 dc14 pm14 an14 cd14 ct14), sl14⟩)
    (c_kept_behind : PySem.W.codeIn K cd14 "kept_behind" = true)
    (k_kept_behind : PySem.W.keepIn K (.ref f_kept_behind) = true)
    (a_first_spoilt : PySem.W.nsIn K mainGlobals "first_spoilt" = some (some (.ref f_first_spoilt)))
    (l_first_spoilt : K.lookup f_first_spoilt = some ⟨oc15, od15, .func (PySem.W.fnOf "first_spoilt" "first_spoilt" (defArgs s_first_spoilt) (defBody s_first_spoilt) (defScope s_first_spoilt) .none kV15 dc15 pm15 an15 cd15 ct15), sl15⟩)
    (c_first_spoilt : PySem.W.codeIn K cd15 "first_spoilt" = true)
    (k_first_spoilt : PySem.W.keepIn K (.ref f_first_spoilt) = true)
    (a_course : PySem.W.nsIn K mainGlobals "course" = some (some (.ref f_course)))
    (l_course : K.lookup f_course = some ⟨oc16, od16, .func (PySem.W.fnOf "course" "course" (defArgs s_course) (defBody s_course) (defScope s_course) .none kV16 dc16 pm16 an16 cd16 ct16), sl16⟩)
    (c_course : PySem.W.codeIn K cd16 "course" = true)
    (k_course : PySem.W.keepIn K (.ref f_course) = true)
    (a_right_ones : PySem.W.nsIn K mainGlobals "right_ones" = some (some (.ref f_right_ones)))
    (l_right_ones : K.lookup f_right_ones = some ⟨oc17, od17, .func (PySem.W.fnOf "right_ones" "right_ones" (defArgs s_right_ones) (defBody s_right_ones) (defScope s_right_ones) .none kV17 dc17 pm17 an17 cd17 ct17), sl17⟩)
    (c_right_ones : PySem.W.codeIn K cd17 "right_ones" = true)
    (k_right_ones : PySem.W.keepIn K (.ref f_right_ones) = true)
    (a_rows_of : PySem.W.nsIn K mainGlobals "rows_of" = some (some (.ref f_rows_of)))
    (l_rows_of : K.lookup f_rows_of = some ⟨oc18, od18, .func (PySem.W.fnOf "rows_of" "rows_of" (defArgs s_rows_of) (defBody s_rows_of) (defScope s_rows_of) .none kV18 dc18 pm18 an18 cd18 ct18), sl18⟩)
    (c_rows_of : PySem.W.codeIn K cd18 "rows_of" = true)
    (k_rows_of : PySem.W.keepIn K (.ref f_rows_of) = true)
    (a_all_plans : PySem.W.nsIn K mainGlobals "all_plans" = some (some (.ref f_all_plans)))
    (l_all_plans : K.lookup f_all_plans = some ⟨oc19, od19, .func (PySem.W.fnOf "all_plans" "all_plans" (defArgs s_all_plans) (defBody s_all_plans) (defScope s_all_plans) .none kV19 dc19 pm19 an19 cd19 ct19), sl19⟩)
    (c_all_plans : PySem.W.codeIn K cd19 "all_plans" = true)
    (k_all_plans : PySem.W.keepIn K (.ref f_all_plans) = true)
    (a_all_colours : PySem.W.nsIn K mainGlobals "all_colours" = some (some (.ref f_all_colours)))
    (l_all_colours : K.lookup f_all_colours = some ⟨oc20, od20, .func (PySem.W.fnOf "all_colours" "all_colours" (defArgs s_all_colours) (defBody s_all_colours) (defScope s_all_colours) .none kV20 dc20 pm20 an20 cd20 ct20), sl20⟩)
    (c_all_colours : PySem.W.codeIn K cd20 "all_colours" = true)
    (k_all_colours : PySem.W.keepIn K (.ref f_all_colours) = true)
    (a_is_better : PySem.W.nsIn K mainGlobals "is_better" = some (some (.ref f_is_better)))
    (l_is_better : K.lookup f_is_better = some ⟨oc21, od21, .func (PySem.W.fnOf "is_better" "is_better" (defArgs s_is_better) (defBody s_is_better) (defScope s_is_better) .none kV21 dc21 pm21 an21 cd21 ct21), sl21⟩)
    (c_is_better : PySem.W.codeIn K cd21 "is_better" = true)
    (k_is_better : PySem.W.keepIn K (.ref f_is_better) = true)
    (a_is_as_good : PySem.W.nsIn K mainGlobals "is_as_good" = some (some (.ref f_is_as_good)))
    (l_is_as_good : K.lookup f_is_as_good = some ⟨oc22, od22, .func (PySem.W.fnOf "is_as_good" "is_as_good" (defArgs s_is_as_good) (defBody s_is_as_good) (defScope s_is_as_good) .none kV22 dc22 pm22 an22 cd22 ct22), sl22⟩)
    (c_is_as_good : PySem.W.codeIn K cd22 "is_as_good" = true)
    (k_is_as_good : PySem.W.keepIn K (.ref f_is_as_good) = true)
    (a_with_plan : PySem.W.nsIn K mainGlobals "with_plan" = some (some (.ref f_with_plan)))
    (l_with_plan : K.lookup f_with_plan = some ⟨oc23, od23, .func (PySem.W.fnOf "with_plan" "with_plan" (defArgs s_with_plan) (defBody s_with_plan) (defScope s_with_plan) .none kV23 dc23 pm23 an23 cd23 ct23), sl23⟩)
    (c_with_plan : PySem.W.codeIn K cd23 "with_plan" = true)
    (k_with_plan : PySem.W.keepIn K (.ref f_with_plan) = true)
    (a_best_of : PySem.W.nsIn K mainGlobals "best_of" = some (some (.ref f_best_of)))
    (l_best_of : K.lookup f_best_of = some ⟨oc24, od24, .func (PySem.W.fnOf "best_of" "best_of" (defArgs s_best_of) (defBody s_best_of) (defScope s_best_of) .none kV24 dc24 pm24 an24 cd24 ct24), sl24⟩)
    (c_best_of : PySem.W.codeIn K cd24 "best_of" = true)
    (k_best_of : PySem.W.keepIn K (.ref f_best_of) = true)
    (a_goes_on : PySem.W.nsIn K mainGlobals "goes_on" = some (some (.ref f_goes_on)))
    (l_goes_on : K.lookup f_goes_on = some ⟨oc25, od25, .func (PySem.W.fnOf "goes_on" "goes_on" (defArgs s_goes_on) (defBody s_goes_on) (defScope s_goes_on) .none kV25 dc25 pm25 an25 cd25 ct25), sl25⟩)
    (c_goes_on : PySem.W.codeIn K cd25 "goes_on" = true)
    (k_goes_on : PySem.W.keepIn K (.ref f_goes_on) = true)
    (a_plans_from : PySem.W.nsIn K mainGlobals "plans_from" = some (some (.ref f_plans_from)))
    (l_plans_from : K.lookup f_plans_from = some ⟨oc26, od26, .func (PySem.W.fnOf "plans_from" "plans_from" (defArgs s_plans_from) (defBody s_plans_from) (defScope s_plans_from) .none kV26 dc26 pm26 an26 cd26 ct26), sl26⟩)
    (c_plans_from : PySem.W.codeIn K cd26 "plans_from" = true)
    (k_plans_from : PySem.W.keepIn K (.ref f_plans_from) = true)
    (a_colours_from : PySem.W.nsIn K mainGlobals "colours_from" = some (some (.ref f_colours_from)))
    (l_colours_from : K.lookup f_colours_from = some ⟨oc27, od27, .func (PySem.W.fnOf "colours_from" "colours_from" (defArgs s_colours_from) (defBody s_colours_from) (defScope s_colours_from) .none kV27 dc27 pm27 an27 cd27 ct27), sl27⟩)
    (c_colours_from : PySem.W.codeIn K cd27 "colours_from" = true)
    (k_colours_from : PySem.W.keepIn K (.ref f_colours_from) = true)
    (a_found_told : PySem.W.nsIn K mainGlobals "found_told" = some (some (.ref f_found_told)))
    (l_found_told : K.lookup f_found_told = some ⟨oc28, od28, .func (PySem.W.fnOf "found_told" "found_told" (defArgs s_found_told) (defBody s_found_told) (defScope s_found_told) .none kV28 dc28 pm28 an28 cd28 ct28), sl28⟩)
    (c_found_told : PySem.W.codeIn K cd28 "found_told" = true)
    (k_found_told : PySem.W.keepIn K (.ref f_found_told) = true)
    (a_may_begin : PySem.W.nsIn K mainGlobals "may_begin" = some (some (.ref f_may_begin)))
    (l_may_begin : K.lookup f_may_begin = some ⟨oc29, od29, .func (PySem.W.fnOf "may_begin" "may_begin" (defArgs s_may_begin) (defBody s_may_begin) (defScope s_may_begin) .none kV29 dc29 pm29 an29 cd29 ct29), sl29⟩)
    (c_may_begin : PySem.W.codeIn K cd29 "may_begin" = true)
    (k_may_begin : PySem.W.keepIn K (.ref f_may_begin) = true)
    (a_may_be_plot : PySem.W.nsIn K mainGlobals "may_be_plot" = some (some (.ref f_may_be_plot)))
    (l_may_be_plot : K.lookup f_may_be_plot = some ⟨oc30, od30, .func (PySem.W.fnOf "may_be_plot" "may_be_plot" (defArgs s_may_be_plot) (defBody s_may_be_plot) (defScope s_may_be_plot) .none kV30 dc30 pm30 an30 cd30 ct30), sl30⟩)
    (c_may_be_plot : PySem.W.codeIn K cd30 "may_be_plot" = true)
    (k_may_be_plot : PySem.W.keepIn K (.ref f_may_be_plot) = true)
    (a_is_plan : PySem.W.nsIn K mainGlobals "is_plan" = some (some (.ref f_is_plan)))
    (l_is_plan : K.lookup f_is_plan = some ⟨oc31, od31, .func (PySem.W.fnOf "is_plan" "is_plan" (defArgs s_is_plan) (defBody s_is_plan) (defScope s_is_plan) .none kV31 dc31 pm31 an31 cd31 ct31), sl31⟩)
    (c_is_plan : PySem.W.codeIn K cd31 "is_plan" = true)
    (k_is_plan : PySem.W.keepIn K (.ref f_is_plan) = true)
    (a_are_colours : PySem.W.nsIn K mainGlobals "are_colours" = some (some (.ref f_are_colours)))
    (l_are_colours : K.lookup f_are_colours = some ⟨oc32, od32, .func (PySem.W.fnOf "are_colours" "are_colours" (defArgs s_are_colours) (defBody s_are_colours) (defScope s_are_colours) .none kV32 dc32 pm32 an32 cd32 ct32), sl32⟩)
    (c_are_colours : PySem.W.codeIn K cd32 "are_colours" = true)
    (k_are_colours : PySem.W.keepIn K (.ref f_are_colours) = true)
    (a_against_plan : PySem.W.nsIn K mainGlobals "against_plan" = some (some (.ref f_against_plan)))
    (l_against_plan : K.lookup f_against_plan = some ⟨oc33, od33, .func (PySem.W.fnOf "against_plan" "against_plan" (defArgs s_against_plan) (defBody s_against_plan) (defScope s_against_plan) .none kV33 dc33 pm33 an33 cd33 ct33), sl33⟩)
    (c_against_plan : PySem.W.codeIn K cd33 "against_plan" = true)
    (k_against_plan : PySem.W.keepIn K (.ref f_against_plan) = true)
    (a_against : PySem.W.nsIn K mainGlobals "against" = some (some (.ref f_against)))
    (l_against : K.lookup f_against = some ⟨oc34, od34, .func (PySem.W.fnOf "against" "against" (defArgs s_against) (defBody s_against) (defScope s_against) .none kV34 dc34 pm34 an34 cd34 ct34), sl34⟩)
    (c_against : PySem.W.codeIn K cd34 "against" = true)
    (k_against : PySem.W.keepIn K (.ref f_against) = true)
    (a_best_told : PySem.W.nsIn K mainGlobals "best_told" = some (some (.ref f_best_told)))
    (l_best_told : K.lookup f_best_told = some ⟨oc35, od35, .func (PySem.W.fnOf "best_told" "best_told" (defArgs s_best_told) (defBody s_best_told) (defScope s_best_told) .none kV35 dc35 pm35 an35 cd35 ct35), sl35⟩)
    (c_best_told : PySem.W.codeIn K cd35 "best_told" = true)
    (k_best_told : PySem.W.keepIn K (.ref f_best_told) = true)
    (a_check_told : PySem.W.nsIn K mainGlobals "check_told" = some (some (.ref f_check_told)))
    (l_check_told : K.lookup f_check_told = some ⟨oc36, od36, .func (PySem.W.fnOf "check_told" "check_told" (defArgs s_check_told) (defBody s_check_told) (defScope s_check_told) .none kV36 dc36 pm36 an36 cd36 ct36), sl36⟩)
    (c_check_told : PySem.W.codeIn K cd36 "check_told" = true)
    (k_check_told : PySem.W.keepIn K (.ref f_check_told) = true)
    (a_press_told : PySem.W.nsIn K mainGlobals "press_told" = some (some (.ref f_press_told)))
    (l_press_told : K.lookup f_press_told = some ⟨oc37, od37, .func (PySem.W.fnOf "press_told" "press_told" (defArgs s_press_told) (defBody s_press_told) (defScope s_press_told) .none kV37 dc37 pm37 an37 cd37 ct37), sl37⟩)
    (c_press_told : PySem.W.codeIn K cd37 "press_told" = true)
    (k_press_told : PySem.W.keepIn K (.ref f_press_told) = true)
    (a_goes_told : PySem.W.nsIn K mainGlobals "goes_told" = some (some (.ref f_goes_told)))
    (l_goes_told : K.lookup f_goes_told = some ⟨oc38, od38, .func (PySem.W.fnOf "goes_told" "goes_told" (defArgs s_goes_told) (defBody s_goes_told) (defScope s_goes_told) .none kV38 dc38 pm38 an38 cd38 ct38), sl38⟩)
    (c_goes_told : PySem.W.codeIn K cd38 "goes_told" = true)
    (k_goes_told : PySem.W.keepIn K (.ref f_goes_told) = true)
    (a_nights_told : PySem.W.nsIn K mainGlobals "nights_told" = some (some (.ref f_nights_told)))
    (l_nights_told : K.lookup f_nights_told = some ⟨oc39, od39, .func (PySem.W.fnOf "nights_told" "nights_told" (defArgs s_nights_told) (defBody s_nights_told) (defScope s_nights_told) .none kV39 dc39 pm39 an39 cd39 ct39), sl39⟩)
    (c_nights_told : PySem.W.codeIn K cd39 "nights_told" = true)
    (k_nights_told : PySem.W.keepIn K (.ref f_nights_told) = true)
    (a_begun : PySem.W.nsIn K mainGlobals "begun" = some (some (.ref f_begun)))
    (l_begun : K.lookup f_begun = some ⟨oc40, od40, .func (PySem.W.fnOf "begun" "begun" (defArgs s_begun) (defBody s_begun) (defScope s_begun) .none kV40 dc40 pm40 an40 cd40 ct40), sl40⟩)
    (c_begun : PySem.W.codeIn K cd40 "begun" = true)
    (k_begun : PySem.W.keepIn K (.ref f_begun) = true)
    (a_rained : PySem.W.nsIn K mainGlobals "rained" = some (some (.ref f_rained)))
    (l_rained : K.lookup f_rained = some ⟨oc41, od41, .func (PySem.W.fnOf "rained" "rained" (defArgs s_rained) (defBody s_rained) (defScope s_rained) .none kV41 dc41 pm41 an41 cd41 ct41), sl41⟩)
    (c_rained : PySem.W.codeIn K cd41 "rained" = true)
    (k_rained : PySem.W.keepIn K (.ref f_rained) = true)
    (a_planted : PySem.W.nsIn K mainGlobals "planted" = some (some (.ref f_planted)))
    (l_planted : K.lookup f_planted = some ⟨oc42, od42, .func (PySem.W.fnOf "planted" "planted" (defArgs s_planted) (defBody s_planted) (defScope s_planted) .none kV42 dc42 pm42 an42 cd42 ct42), sl42⟩)
    (c_planted : PySem.W.codeIn K cd42 "planted" = true)
    (k_planted : PySem.W.keepIn K (.ref f_planted) = true)
    (a_changed : PySem.W.nsIn K mainGlobals "changed" = some (some (.ref f_changed)))
    (l_changed : K.lookup f_changed = some ⟨oc43, od43, .func (PySem.W.fnOf "changed" "changed" (defArgs s_changed) (defBody s_changed) (defScope s_changed) .none kV43 dc43 pm43 an43 cd43 ct43), sl43⟩)
    (c_changed : PySem.W.codeIn K cd43 "changed" = true)
    (k_changed : PySem.W.keepIn K (.ref f_changed) = true)
    (a_asked : PySem.W.nsIn K mainGlobals "asked" = some (some (.ref f_asked)))
    (l_asked : K.lookup f_asked = some ⟨oc44, od44, .func (PySem.W.fnOf "asked" "asked" (defArgs s_asked) (defBody s_asked) (defScope s_asked) .none kV44 dc44 pm44 an44 cd44 ct44), sl44⟩)
    (c_asked : PySem.W.codeIn K cd44 "asked" = true)
    (k_asked : PySem.W.keepIn K (.ref f_asked) = true)
    (a_answered : PySem.W.nsIn K mainGlobals "answered" = some (some (.ref f_answered)))
    (l_answered : K.lookup f_answered = some ⟨oc45, od45, .func (PySem.W.fnOf "answered" "answered" (defArgs s_answered) (defBody s_answered) (defScope s_answered) .none kV45 dc45 pm45 an45 cd45 ct45), sl45⟩)
    (c_answered : PySem.W.codeIn K cd45 "answered" = true)
    (k_answered : PySem.W.keepIn K (.ref f_answered) = true)
    (a_rows_from : PySem.W.nsIn K mainGlobals "rows_from" = some (some (.ref f_rows_from)))
    (l_rows_from : K.lookup f_rows_from = some ⟨oc46, od46, .func (PySem.W.fnOf "rows_from" "rows_from" (defArgs s_rows_from) (defBody s_rows_from) (defScope s_rows_from) .none kV46 dc46 pm46 an46 cd46 ct46), sl46⟩)
    (c_rows_from : PySem.W.codeIn K cd46 "rows_from" = true)
    (k_rows_from : PySem.W.keepIn K (.ref f_rows_from) = true)
    (a_answers : PySem.W.nsIn K mainGlobals "answers" = some (some (.ref f_answers)))
    (l_answers : K.lookup f_answers = some ⟨oc47, od47, .func (PySem.W.fnOf "answers" "answers" (defArgs s_answers) (defBody s_answers) (defScope s_answers) .none kV47 dc47 pm47 an47 cd47 ct47), sl47⟩)
    (c_answers : PySem.W.codeIn K cd47 "answers" = true)
    (k_answers : PySem.W.keepIn K (.ref f_answers) = true) :
    ∃ fd : FuncData, (∀ (s : Shared) (us : List Value), us.length = (["calls"] : List Str).length → BindsTo s fd ⟨us, []⟩ ((["calls"] : List Str).zip us)) ∧ ∀ base : Heap, K.In base → base.Ns mainGlobals mg → FnOk P w K mg base CX0 9 fa fd ["calls"] (sp_answers K) := by
  have e := hfa.symm.trans (PySem.W.mg_of X G a_answers)
  cases e
  have T := txt_mk X G aC_Found aC_Vineyard aC_Plot aC_Line i_Found j_Found l_Found_init c_Found_init k_Found_init pg_Found hd_Found po_Found sa_Found mk_Found kc_Found n_Found_leaves n_Found_days n_Found_many n_Found_plan n_Found_colours i_Vineyard j_Vineyard l_Vineyard_init c_Vineyard_init k_Vineyard_init pg_Vineyard hd_Vineyard po_Vineyard sa_Vineyard mk_Vineyard kc_Vineyard n_Vineyard_days n_Vineyard_most_picked n_Vineyard_most_pressed n_Vineyard_most_kept n_Vineyard_cost n_Vineyard_rain n_Vineyard_plots i_Plot j_Plot l_Plot_init c_Plot_init k_Plot_init pg_Plot hd_Plot po_Plot sa_Plot mk_Plot kc_Plot n_Plot_loads n_Plot_colour n_Plot_best_day n_Plot_beside n_Plot_worth n_Plot_less i_Line j_Line l_Line_init c_Line_init k_Line_init pg_Line hd_Line po_Line sa_Line mk_Line kc_Line n_Line_vineyard b_len b_sum b_all b_abs b_range b_zip b_enumerate g_SPOILS g_TOO_FULL g_KEPT_AT_END g_MOST_DAYS g_MOST_PLOTS g_MOST_LOADS g_MOST_COST g_MOST_OF_PLOT g_MOST_BESIDE g_MOST_WORTH g_NO_PLAN g_NO_DAY_asking g_WRONG_PLOT g_FULL_DAY g_NONE_THERE g_BEGINS g_RAIN g_PLOT g_BEST g_CHECK g_PRESS g_GOES g_NOT_AS_TOLD g_NO_DAY_harvests g_FULL g_NUMBERS o_NUMBERS g_ROWS o_ROWS a_days_off l_days_off c_days_off k_days_off a_worth_on l_worth_on c_worth_on k_worth_on a_first_wrong_plot l_first_wrong_plot c_first_wrong_plot k_first_wrong_plot a_loads_on l_loads_on c_loads_on k_loads_on a_picked_by l_picked_by c_picked_by k_picked_by a_first_full_day l_first_full_day c_first_full_day k_first_full_day a_loads_picked l_loads_picked c_loads_picked k_loads_picked a_days_picked l_days_picked c_days_picked k_days_picked a_earned l_earned c_earned k_earned a_kept_behind l_kept_behind c_kept_behind k_kept_behind a_first_spoilt l_first_spoilt c_first_spoilt k_first_spoilt a_course l_course c_course k_course a_right_ones l_right_ones c_right_ones k_right_ones a_rows_of l_rows_of c_rows_of k_rows_of a_all_plans l_all_plans c_all_plans k_all_plans a_all_colours l_all_colours c_all_colours k_all_colours a_is_better l_is_better c_is_better k_is_better a_is_as_good l_is_as_good c_is_as_good k_is_as_good a_with_plan l_with_plan c_with_plan k_with_plan a_best_of l_best_of c_best_of k_best_of a_goes_on l_goes_on c_goes_on k_goes_on a_plans_from l_plans_from c_plans_from k_plans_from a_colours_from l_colours_from c_colours_from k_colours_from a_found_told l_found_told c_found_told k_found_told a_may_begin l_may_begin c_may_begin k_may_begin a_may_be_plot l_may_be_plot c_may_be_plot k_may_be_plot a_is_plan l_is_plan c_is_plan k_is_plan a_are_colours l_are_colours c_are_colours k_are_colours a_against_plan l_against_plan c_against_plan k_against_plan a_against l_against c_against k_against a_best_told l_best_told c_best_told k_best_told a_check_told l_check_told c_check_told k_check_told a_press_told l_press_told c_press_told k_press_told a_goes_told l_goes_told c_goes_told k_goes_told a_nights_told l_nights_told c_nights_told k_nights_told a_begun l_begun c_begun k_begun a_rained l_rained c_rained k_rained a_planted l_planted c_planted k_planted a_changed l_changed c_changed k_changed a_asked l_asked c_asked k_asked a_answered l_answered c_answered k_answered a_rows_from l_rows_from c_rows_from k_rows_from a_answers l_answers c_answers k_answers
  exact ⟨_, fun s us hu => match us, hu with | [_], _ => .of_eq rfl, fun base _ _ => ok_answers (fun_mk (st := s_answers) l_answers c_answers k_answers) T⟩

/-! ### the request -/
theorem nat_list {l : List Int} (h : l.all (PySem.W.Codec.inInt 0 4294967295) = true) : Zs (l.map Int.toNat) = l ∧ ∀ x ∈ l.map Int.toNat, x < 2 ^ 32 := by
  have h1 : ∀ z ∈ l, 0 ≤ z ∧ z ≤ 4294967295 := fun z hz => by
    have h2 := List.all_eq_true.mp h z hz
    exact PySem.W.Codec.inInt_iff.mp h2
  constructor
  · show (l.map Int.toNat).map (fun n : Nat => (n : Int)) = l
    rw [List.map_map]
    refine (List.map_congr_left (g := id) fun z hz => ?_).trans (List.map_id l)
    exact Int.toNat_of_nonneg (h1 z hz).1
  · intro x hx
    obtain ⟨z, hz, rfl⟩ := List.mem_map.mp hx
    have := h1 z hz
    omega
end Vh
open PySem PySem.W PyProof.Rows
set_option maxRecDepth 100000 in
set_option maxHeartbeats 0 in
theorem PySem.Challenge.cw_vineyardharvest_s01_answers_holds : PySem.Challenge.rw_vineyardharvest_s01_answers.Holds := by
  w_on; k_headS; (case hw => exact ⟨[.list [.int 3]], by decide +kernel, by decide +kernel⟩)
  k_fillS
  refine L2.walk_specK (r := PySem.Challenge.rw_vineyardharvest_s01_answers) (k := 9) (CX := L2.CX0) (ps := ["calls"]) (sp := Vh.sp_answers) (by decide +kernel) rfl rfl ⟨rfl, by decide, by decide⟩ (fun w h Y => PySem.W.kIn_of Y) ?F ?S (fun _ _ _ _ z => z)
  case F =>
    intro w mg fa h Y KX G hmg
    refine' Vh.all_mk hmg KX G ?aC_Found ?aC_Vineyard ?aC_Plot ?aC_Line ?i_Found ?j_Found ?l_Found_init ?c_Found_init ?k_Found_init ?pg_Found ?hd_Found ?po_Found ?sa_Found ?mk_Found ?kc_Found ?n_Found_leaves ?n_Found_days ?n_Found_many ?n_Found_plan ?n_Found_colours ?i_Vineyard ?j_Vineyard ?l_Vineyard_init ?c_Vineyard_init ?k_Vineyard_init ?pg_Vineyard ?hd_Vineyard ?po_Vineyard ?sa_Vineyard ?mk_Vineyard ?kc_Vineyard ?n_Vineyard_days ?n_Vineyard_most_picked ?n_Vineyard_most_pressed ?n_Vineyard_most_kept ?n_Vineyard_cost ?n_Vineyard_rain ?n_Vineyard_plots ?i_Plot ?j_Plot ?l_Plot_init ?c_Plot_init ?k_Plot_init ?pg_Plot ?hd_Plot ?po_Plot ?sa_Plot ?mk_Plot ?kc_Plot ?n_Plot_loads ?n_Plot_colour ?n_Plot_best_day ?n_Plot_beside ?n_Plot_worth ?n_Plot_less ?i_Line ?j_Line ?l_Line_init ?c_Line_init ?k_Line_init ?pg_Line ?hd_Line ?po_Line ?sa_Line ?mk_Line ?kc_Line ?n_Line_vineyard ?b_len ?b_sum ?b_all ?b_abs ?b_range ?b_zip ?b_enumerate ?g_SPOILS ?g_TOO_FULL ?g_KEPT_AT_END ?g_MOST_DAYS ?g_MOST_PLOTS ?g_MOST_LOADS ?g_MOST_COST ?g_MOST_OF_PLOT ?g_MOST_BESIDE ?g_MOST_WORTH ?g_NO_PLAN ?g_NO_DAY_asking ?g_WRONG_PLOT ?g_FULL_DAY ?g_NONE_THERE ?g_BEGINS ?g_RAIN ?g_PLOT ?g_BEST ?g_CHECK ?g_PRESS ?g_GOES ?g_NOT_AS_TOLD ?g_NO_DAY_harvests ?g_FULL ?g_NUMBERS ?o_NUMBERS ?g_ROWS ?o_ROWS ?a_days_off ?l_days_off ?c_days_off ?k_days_off ?a_worth_on ?l_worth_on ?c_worth_on ?k_worth_on ?a_first_wrong_plot ?l_first_wrong_plot ?c_first_wrong_plot ?k_first_wrong_plot ?a_loads_on ?l_loads_on ?c_loads_on ?k_loads_on ?a_picked_by ?l_picked_by ?c_picked_by ?k_picked_by ?a_first_full_day ?l_first_full_day ?c_first_full_day ?k_first_full_day ?a_loads_picked ?l_loads_picked ?c_loads_picked ?k_loads_picked ?a_days_picked ?l_days_picked ?c_days_picked ?k_days_picked ?a_earned ?l_earned ?c_earned ?k_earned ?a_kept_behind ?l_kept_behind ?c_kept_behind ?k_kept_behind ?a_first_spoilt ?l_first_spoilt ?c_first_spoilt ?k_first_spoilt ?a_course ?l_course ?c_course ?k_course ?a_right_ones ?l_right_ones ?c_right_ones ?k_right_ones ?a_rows_of ?l_rows_of ?c_rows_of ?k_rows_of ?a_all_plans ?l_all_plans ?c_all_plans ?k_all_plans ?a_all_colours ?l_all_colours ?c_all_colours ?k_all_colours ?a_is_better ?l_is_better ?c_is_better ?k_is_better ?a_is_as_good ?l_is_as_good ?c_is_as_good ?k_is_as_good ?a_with_plan ?l_with_plan ?c_with_plan ?k_with_plan ?a_best_of ?l_best_of ?c_best_of ?k_best_of ?a_goes_on ?l_goes_on ?c_goes_on ?k_goes_on ?a_plans_from ?l_plans_from ?c_plans_from ?k_plans_from ?a_colours_from ?l_colours_from ?c_colours_from ?k_colours_from ?a_found_told ?l_found_told ?c_found_told ?k_found_told ?a_may_begin ?l_may_begin ?c_may_begin ?k_may_begin ?a_may_be_plot ?l_may_be_plot ?c_may_be_plot ?k_may_be_plot ?a_is_plan ?l_is_plan ?c_is_plan ?k_is_plan ?a_are_colours ?l_are_colours ?c_are_colours ?k_are_colours ?a_against_plan ?l_against_plan ?c_against_plan ?k_against_plan ?a_against ?l_against ?c_against ?k_against ?a_best_told ?l_best_told ?c_best_told ?k_best_told ?a_check_told ?l_check_told ?c_check_told ?k_check_told ?a_press_told ?l_press_told ?c_press_told ?k_press_told ?a_goes_told ?l_goes_told ?c_goes_told ?k_goes_told ?a_nights_told ?l_nights_told ?c_nights_told ?k_nights_told ?a_begun ?l_begun ?c_begun ?k_begun ?a_rained ?l_rained ?c_rained ?k_rained ?a_planted ?l_planted ?c_planted ?k_planted ?a_changed ?l_changed ?c_changed ?k_changed ?a_asked ?l_asked ?c_asked ?k_asked ?a_answered ?l_answered ?c_answered ?k_answered ?a_rows_from ?l_rows_from ?c_rows_from ?k_rows_from ?a_answers ?l_answers ?c_answers ?k_answers
    (case aC_Found => k_is)
    (case aC_Vineyard => k_is)
    (case aC_Plot => k_is)
    (case aC_Line => k_is)
    (case i_Found => k_is)
    (case j_Found => k_is)
    (case l_Found_init => k_is)
    (case c_Found_init => k_is)
    (case k_Found_init => k_is)
    (case pg_Found => k_is)
    (case hd_Found => k_is)
    (case po_Found => k_is)
    (case sa_Found => k_is)
    (case mk_Found => k_is)
    (case kc_Found => k_is)
    (case n_Found_leaves => k_is)
    (case n_Found_days => k_is)
    (case n_Found_many => k_is)
    (case n_Found_plan => k_is)
    (case n_Found_colours => k_is)
    (case i_Vineyard => k_is)
    (case j_Vineyard => k_is)
    (case l_Vineyard_init => k_is)
    (case c_Vineyard_init => k_is)
    (case k_Vineyard_init => k_is)
    (case pg_Vineyard => k_is)
    (case hd_Vineyard => k_is)
    (case po_Vineyard => k_is)
    (case sa_Vineyard => k_is)
    (case mk_Vineyard => k_is)
    (case kc_Vineyard => k_is)
    (case n_Vineyard_days => k_is)
    (case n_Vineyard_most_picked => k_is)
    (case n_Vineyard_most_pressed => k_is)
    (case n_Vineyard_most_kept => k_is)
    (case n_Vineyard_cost => k_is)
    (case n_Vineyard_rain => k_is)
    (case n_Vineyard_plots => k_is)
    (case i_Plot => k_is)
    (case j_Plot => k_is)
    (case l_Plot_init => k_is)
    (case c_Plot_init => k_is)
    (case k_Plot_init => k_is)
    (case pg_Plot => k_is)
    (case hd_Plot => k_is)
    (case po_Plot => k_is)
    (case sa_Plot => k_is)
    (case mk_Plot => k_is)
    (case kc_Plot => k_is)
    (case n_Plot_loads => k_is)
    (case n_Plot_colour => k_is)
    (case n_Plot_best_day => k_is)
    (case n_Plot_beside => k_is)
    (case n_Plot_worth => k_is)
    (case n_Plot_less => k_is)
    (case i_Line => k_is)
    (case j_Line => k_is)
    (case l_Line_init => k_is)
    (case c_Line_init => k_is)
    (case k_Line_init => k_is)
    (case pg_Line => k_is)
    (case hd_Line => k_is)
    (case po_Line => k_is)
    (case sa_Line => k_is)
    (case mk_Line => k_is)
    (case kc_Line => k_is)
    (case n_Line_vineyard => k_is)
    (case b_len => k_is)
    (case b_sum => k_is)
    (case b_all => k_is)
    (case b_abs => k_is)
    (case b_range => k_is)
    (case b_zip => k_is)
    (case b_enumerate => k_is)
    (case g_SPOILS => k_is)
    (case g_TOO_FULL => k_is)
    (case g_KEPT_AT_END => k_is)
    (case g_MOST_DAYS => k_is)
    (case g_MOST_PLOTS => k_is)
    (case g_MOST_LOADS => k_is)
    (case g_MOST_COST => k_is)
    (case g_MOST_OF_PLOT => k_is)
    (case g_MOST_BESIDE => k_is)
    (case g_MOST_WORTH => k_is)
    (case g_NO_PLAN => k_is)
    (case g_NO_DAY_asking => k_is)
    (case g_WRONG_PLOT => k_is)
    (case g_FULL_DAY => k_is)
    (case g_NONE_THERE => k_is)
    (case g_BEGINS => k_is)
    (case g_RAIN => k_is)
    (case g_PLOT => k_is)
    (case g_BEST => k_is)
    (case g_CHECK => k_is)
    (case g_PRESS => k_is)
    (case g_GOES => k_is)
    (case g_NOT_AS_TOLD => k_is)
    (case g_NO_DAY_harvests => k_is)
    (case g_FULL => k_is)
    (case g_NUMBERS => k_is)
    (case o_NUMBERS => k_is)
    (case g_ROWS => k_is)
    (case o_ROWS => k_is)
    (case a_days_off => k_is)
    (case l_days_off => k_is)
    (case c_days_off => k_is)
    (case k_days_off => k_is)
    (case a_worth_on => k_is)
    (case l_worth_on => k_is)
    (case c_worth_on => k_is)
    (case k_worth_on => k_is)
    (case a_first_wrong_plot => k_is)
    (case l_first_wrong_plot => k_is)
    (case c_first_wrong_plot => k_is)
    (case k_first_wrong_plot => k_is)
    (case a_loads_on => k_is)
    (case l_loads_on => k_is)
    (case c_loads_on => k_is)
    (case k_loads_on => k_is)
    (case a_picked_by => k_is)
    (case l_picked_by => k_is)
    (case c_picked_by => k_is)
    (case k_picked_by => k_is)
    (case a_first_full_day => k_is)
    (case l_first_full_day => k_is)
    (case c_first_full_day => k_is)
    (case k_first_full_day => k_is)
    (case a_loads_picked => k_is)
    (case l_loads_picked => k_is)
    (case c_loads_picked => k_is)
    (case k_loads_picked => k_is)
    (case a_days_picked => k_is)
    (case l_days_picked => k_is)
    (case c_days_picked => k_is)
    (case k_days_picked => k_is)
    (case a_earned => k_is)
    (case l_earned => k_is)
    (case c_earned => k_is)
    (case k_earned => k_is)
    (case a_kept_behind => k_is)
    (case l_kept_behind => k_is)
    (case c_kept_behind => k_is)
    (case k_kept_behind => k_is)
    (case a_first_spoilt => k_is)
    (case l_first_spoilt => k_is)
    (case c_first_spoilt => k_is)
    (case k_first_spoilt => k_is)
    (case a_course => k_is)
    (case l_course => k_is)
    (case c_course => k_is)
    (case k_course => k_is)
    (case a_right_ones => k_is)
    (case l_right_ones => k_is)
    (case c_right_ones => k_is)
    (case k_right_ones => k_is)
    (case a_rows_of => k_is)
    (case l_rows_of => k_is)
    (case c_rows_of => k_is)
    (case k_rows_of => k_is)
    (case a_all_plans => k_is)
    (case l_all_plans => k_is)
    (case c_all_plans => k_is)
    (case k_all_plans => k_is)
    (case a_all_colours => k_is)
    (case l_all_colours => k_is)
    (case c_all_colours => k_is)
    (case k_all_colours => k_is)
    (case a_is_better => k_is)
    (case l_is_better => k_is)
    (case c_is_better => k_is)
    (case k_is_better => k_is)
    (case a_is_as_good => k_is)
    (case l_is_as_good => k_is)
    (case c_is_as_good => k_is)
    (case k_is_as_good => k_is)
    (case a_with_plan => k_is)
    (case l_with_plan => k_is)
    (case c_with_plan => k_is)
    (case k_with_plan => k_is)
    (case a_best_of => k_is)
    (case l_best_of => k_is)
    (case c_best_of => k_is)
    (case k_best_of => k_is)
    (case a_goes_on => k_is)
    (case l_goes_on => k_is)
    (case c_goes_on => k_is)
    (case k_goes_on => k_is)
    (case a_plans_from => k_is)
    (case l_plans_from => k_is)
    (case c_plans_from => k_is)
    (case k_plans_from => k_is)
    (case a_colours_from => k_is)
    (case l_colours_from => k_is)
    (case c_colours_from => k_is)
    (case k_colours_from => k_is)
    (case a_found_told => k_is)
    (case l_found_told => k_is)
    (case c_found_told => k_is)
    (case k_found_told => k_is)
    (case a_may_begin => k_is)
    (case l_may_begin => k_is)
    (case c_may_begin => k_is)
    (case k_may_begin => k_is)
    (case a_may_be_plot => k_is)
    (case l_may_be_plot => k_is)
    (case c_may_be_plot => k_is)
    (case k_may_be_plot => k_is)
    (case a_is_plan => k_is)
    (case l_is_plan => k_is)
    (case c_is_plan => k_is)
    (case k_is_plan => k_is)
    (case a_are_colours => k_is)
    (case l_are_colours => k_is)
    (case c_are_colours => k_is)
    (case k_are_colours => k_is)
    (case a_against_plan => k_is)
    (case l_against_plan => k_is)
    (case c_against_plan => k_is)
    (case k_against_plan => k_is)
    (case a_against => k_is)
    (case l_against => k_is)
    (case c_against => k_is)
    (case k_against => k_is)
    (case a_best_told => k_is)
    (case l_best_told => k_is)
    (case c_best_told => k_is)
    (case k_best_told => k_is)
    (case a_check_told => k_is)
    (case l_check_told => k_is)
    (case c_check_told => k_is)
    (case k_check_told => k_is)
    (case a_press_told => k_is)
    (case l_press_told => k_is)
    (case c_press_told => k_is)
    (case k_press_told => k_is)
    (case a_goes_told => k_is)
    (case l_goes_told => k_is)
    (case c_goes_told => k_is)
    (case k_goes_told => k_is)
    (case a_nights_told => k_is)
    (case l_nights_told => k_is)
    (case c_nights_told => k_is)
    (case k_nights_told => k_is)
    (case a_begun => k_is)
    (case l_begun => k_is)
    (case c_begun => k_is)
    (case k_begun => k_is)
    (case a_rained => k_is)
    (case l_rained => k_is)
    (case c_rained => k_is)
    (case k_rained => k_is)
    (case a_planted => k_is)
    (case l_planted => k_is)
    (case c_planted => k_is)
    (case k_planted => k_is)
    (case a_changed => k_is)
    (case l_changed => k_is)
    (case c_changed => k_is)
    (case k_changed => k_is)
    (case a_asked => k_is)
    (case l_asked => k_is)
    (case c_asked => k_is)
    (case k_asked => k_is)
    (case a_answered => k_is)
    (case l_answered => k_is)
    (case c_answered => k_is)
    (case k_answered => k_is)
    (case a_rows_from => k_is)
    (case l_rows_from => k_is)
    (case c_rows_from => k_is)
    (case k_rows_from => k_is)
    (case a_answers => k_is)
    (case l_answers => k_is)
    (case c_answers => k_is)
    (case k_answers => k_is)
  case S =>
    intro K H xs a hO hwi hask hx
    cases hx with
    | cons h1 h2 =>
      cases h2
      cases h1 with
      | lst hs ha =>
        have e := L2.ints_dw a.1 _ ha
        subst e
        have q : ((Codec.inLen 0 3000 a.1 && a.1.all (Codec.inInt 0 4294967295)) && true) = true := hwi
        rw [Bool.and_eq_true, Bool.and_eq_true] at q
        obtain ⟨z1, z2⟩ := Vh.nat_list q.1.2
        refine ⟨_, a.1.map Int.toNat, rfl, ?_, z2, ?_, fun H' p hp => ?_⟩
        · have z3 : Vh.Ns (a.1.map Int.toNat) = a.1.map L2.V.int := by
            have z4 : Vh.Ns (a.1.map Int.toNat) = (Vh.Zs (a.1.map Int.toNat)).map L2.V.int := by
              rw [List.map_map]
              rfl
            rw [z4, z1]
          rw [z3]
          exact hs
        · rw [z1]
          exact hask
        · rw [z1] at hp
          exact .lst (L2.SqL.of hp) (L2.dw_ints _)
#print axioms PySem.Challenge.cw_vineyardharvest_s01_answers_holds

